-- Printed, and told shorter by this session's program shrink.py.
-- Printed by this session's program myprint.py.
import Derived.Test.YthnaghigpgfchaaPFnExactTakenRunsx0
import Derived.Test.YthnaghigpgfchaaPFnExactTakenRunsx7
import Derived.Test.YthnaghigpgfchaaPFnExactTakenRunsx10
namespace Go.Proofs.Ythnaghigpgfchaa.PFnExactTakenRuns
open Go.RowKit Go.Proofs.Ythnaghigpgfchaa.Own Go.Proofs.YthnaghigpgfchaaW.PrintWords Go.Proofs.YthnaghigpgfchaaW.PrintLast Go.Proofs.YthnaghigpgfchaaW.PrintMore
attribute [local go_sem] max2_int min2_int max_two min_two max_three min_three max_four min_four   -- for this text's walks alone
set_option linter.unusedVariables false
set_option linter.unusedSimpArgs false

/-! ### impl_newRuns: function 30 -/
mutual
def impl_newRuns.l0 : Nat → Bool → List Int → Int → Int → Int → Bool → Int → Bool → List (List (List Int)) → Option (Int × Bool × (List (List (List Int))))
  | 0, _, _, _, _, _, _, _, _, _ => none
  | k + 1, x2, x16, x17, x18, x302000, x302001, x304000, x304001, x304002 => if x18 < x17 then (if 0 ≤ x18 then (if x18 < (x16.length : Int) then (impl_newRuns.l1 k x2 (rd x16 x18) (([] : List (List Int))) x16 x17 x18 x302000 0 x302000 x302001 x304000 x304001 x304002) else (none)) else (none)) else (some (x304000, x304001, x304002))
def impl_newRuns.l1 : Nat → Bool → Int → List (List Int) → List Int → Int → Int → Int → Int → Int → Bool → Int → Bool → List (List (List Int)) → Option (Int × Bool × (List (List (List Int))))
  | 0, _, _, _, _, _, _, _, _, _, _, _, _, _ => none
  | k + 1, x2, x9, x10, x16, x17, x18, x24, x25, x302000, x302001, x304000, x304001, x304002 => if x25 < x24 then (impl_newRuns.l2 k x2 x9 x10 x25 (([] : List Int)) 0 x16 x17 x18 x24 x25 x302000 x302001 x304000 x304001 x304002) else (if x304002.length < 5864062014805 then (impl_newRuns.l0 k x2 x16 x17 (wrap64 (x18 + 1)) x302000 x302001 x304000 x304001 (x304002 ++ [x10])) else (none))
def impl_newRuns.l2 : Nat → Bool → Int → List (List Int) → Int → List Int → Int → List Int → Int → Int → Int → Int → Int → Bool → Int → Bool → List (List (List Int)) → Option (Int × Bool × (List (List (List Int))))
  | 0, _, _, _, _, _, _, _, _, _, _, _, _, _, _, _, _ => none
  | k + 1, x2, x9, x10, x11, x12, x13, x16, x17, x18, x24, x25, x302000, x302001, x304000, x304001, x304002 => if x13 ≤ x302000 then ((impl_Road_isRun.f k x302000 x302001 x11 x13).bind fun t314 => (if t314 = true then ((impl_Road_runTime.f k x302000 x302001 x9 x11 x13 x2).bind fun t315 => (if x12.length < 17592186044416 then (impl_newRuns.l2 k x2 x9 x10 x11 (x12 ++ [t315]) (wrap64 (x13 + 1)) x16 x17 x18 x24 x25 x302000 x302001 x304000 x304001 x304002) else (none))) else (if x10.length < 5864062014805 then (impl_newRuns.l1 k x2 x9 (x10 ++ [x12]) x16 x17 x18 x24 (wrap64 (x25 + 1)) x302000 x302001 x304000 x304001 x304002) else (none)))) else (if x10.length < 5864062014805 then (impl_newRuns.l1 k x2 x9 (x10 ++ [x12]) x16 x17 x18 x24 (wrap64 (x25 + 1)) x302000 x302001 x304000 x304001 x304002) else (none))
end
def impl_newRuns.f (k : Nat) (a0_0 : Int) (a0_1 : Bool) (l1 : List Int) (a2 : Bool) : Option (Int × Bool × (List (List (List Int)))) := impl_newRuns.l0 k a2 l1 (l1.length : Int) 0 a0_0 a0_1 a0_0 a0_1 ([] : List (List (List Int)))
theorem impl_newRuns.mono_l : ∀ k, (∀ y0 y1 y2 y3 y4 y5 y6 y7 y8, LeO (impl_newRuns.l0 k y0 y1 y2 y3 y4 y5 y6 y7 y8) (impl_newRuns.l0 (k + 1) y0 y1 y2 y3 y4 y5 y6 y7 y8)) ∧ (∀ y0 y1 y2 y3 y4 y5 y6 y7 y8 y9 y10 y11 y12, LeO (impl_newRuns.l1 k y0 y1 y2 y3 y4 y5 y6 y7 y8 y9 y10 y11 y12) (impl_newRuns.l1 (k + 1) y0 y1 y2 y3 y4 y5 y6 y7 y8 y9 y10 y11 y12)) ∧ (∀ y0 y1 y2 y3 y4 y5 y6 y7 y8 y9 y10 y11 y12 y13 y14 y15, LeO (impl_newRuns.l2 k y0 y1 y2 y3 y4 y5 y6 y7 y8 y9 y10 y11 y12 y13 y14 y15) (impl_newRuns.l2 (k + 1) y0 y1 y2 y3 y4 y5 y6 y7 y8 y9 y10 y11 y12 y13 y14 y15))
  | 0 => ⟨fun _ _ _ _ _ _ _ _ _ r h => by simp [impl_newRuns.l0] at h, fun _ _ _ _ _ _ _ _ _ _ _ _ _ r h => by simp [impl_newRuns.l1] at h, fun _ _ _ _ _ _ _ _ _ _ _ _ _ _ _ _ r h => by simp [impl_newRuns.l2] at h⟩
  | k + 1 => by
    obtain ⟨ih0, ih1, ih2⟩ := impl_newRuns.mono_l k
    refine ⟨?_, ?_, ?_⟩
    · intro y0 y1 y2 y3 y4 y5 y6 y7 y8
      unfold impl_newRuns.l0
      repeat' first
      | (with_reducible exact ih0 _ _ _ _ _ _ _ _ _)
      | (with_reducible exact ih1 _ _ _ _ _ _ _ _ _ _ _ _ _)
      | (with_reducible exact ih2 _ _ _ _ _ _ _ _ _ _ _ _ _ _ _ _)
      | (with_reducible exact impl_Road_isRun.mono _ _ _ _ _)
      | (with_reducible exact impl_Road_runTime.mono _ _ _ _ _ _ _)
      | (with_reducible exact LeO.refl _)
      | (with_reducible exact LeO.none _)
      | (with_reducible refine LeO.ite ?_ ?_)
      | (with_reducible refine LeO.bind ?_ (fun _ => ?_))
      | exact ih0 _ _ _ _ _ _ _ _ _
      | exact ih1 _ _ _ _ _ _ _ _ _ _ _ _ _
      | exact ih2 _ _ _ _ _ _ _ _ _ _ _ _ _ _ _ _
      | exact impl_Road_isRun.mono _ _ _ _ _
      | exact impl_Road_runTime.mono _ _ _ _ _ _ _
      | exact LeO.none _
      | refine LeO.ite ?_ ?_
      | refine LeO.bind ?_ (fun _ => ?_)
    · intro y0 y1 y2 y3 y4 y5 y6 y7 y8 y9 y10 y11 y12
      unfold impl_newRuns.l1
      repeat' first
      | (with_reducible exact ih0 _ _ _ _ _ _ _ _ _)
      | (with_reducible exact ih1 _ _ _ _ _ _ _ _ _ _ _ _ _)
      | (with_reducible exact ih2 _ _ _ _ _ _ _ _ _ _ _ _ _ _ _ _)
      | (with_reducible exact impl_Road_isRun.mono _ _ _ _ _)
      | (with_reducible exact impl_Road_runTime.mono _ _ _ _ _ _ _)
      | (with_reducible exact LeO.refl _)
      | (with_reducible exact LeO.none _)
      | (with_reducible refine LeO.ite ?_ ?_)
      | (with_reducible refine LeO.bind ?_ (fun _ => ?_))
      | exact ih0 _ _ _ _ _ _ _ _ _
      | exact ih1 _ _ _ _ _ _ _ _ _ _ _ _ _
      | exact ih2 _ _ _ _ _ _ _ _ _ _ _ _ _ _ _ _
      | exact impl_Road_isRun.mono _ _ _ _ _
      | exact impl_Road_runTime.mono _ _ _ _ _ _ _
      | exact LeO.none _
      | refine LeO.ite ?_ ?_
      | refine LeO.bind ?_ (fun _ => ?_)
    · intro y0 y1 y2 y3 y4 y5 y6 y7 y8 y9 y10 y11 y12 y13 y14 y15
      unfold impl_newRuns.l2
      repeat' first
      | (with_reducible exact ih0 _ _ _ _ _ _ _ _ _)
      | (with_reducible exact ih1 _ _ _ _ _ _ _ _ _ _ _ _ _)
      | (with_reducible exact ih2 _ _ _ _ _ _ _ _ _ _ _ _ _ _ _ _)
      | (with_reducible exact impl_Road_isRun.mono _ _ _ _ _)
      | (with_reducible exact impl_Road_runTime.mono _ _ _ _ _ _ _)
      | (with_reducible exact LeO.refl _)
      | (with_reducible exact LeO.none _)
      | (with_reducible refine LeO.ite ?_ ?_)
      | (with_reducible refine LeO.bind ?_ (fun _ => ?_))
      | exact ih0 _ _ _ _ _ _ _ _ _
      | exact ih1 _ _ _ _ _ _ _ _ _ _ _ _ _
      | exact ih2 _ _ _ _ _ _ _ _ _ _ _ _ _ _ _ _
      | exact impl_Road_isRun.mono _ _ _ _ _
      | exact impl_Road_runTime.mono _ _ _ _ _ _ _
      | exact LeO.none _
      | refine LeO.ite ?_ ?_
      | refine LeO.bind ?_ (fun _ => ?_)
theorem impl_newRuns.mono : ∀ a0 a1 a2 a3 k, LeO (impl_newRuns.f k a0 a1 a2 a3) (impl_newRuns.f (k + 1) a0 a1 a2 a3) := by
  intro a0 a1 a2 a3 k
  obtain ⟨ih0, ih1, ih2⟩ := impl_newRuns.mono_l k
  unfold impl_newRuns.f
  repeat' first
      | (with_reducible exact ih0 _ _ _ _ _ _ _ _ _)
      | (with_reducible exact ih1 _ _ _ _ _ _ _ _ _ _ _ _ _)
      | (with_reducible exact ih2 _ _ _ _ _ _ _ _ _ _ _ _ _ _ _ _)
      | (with_reducible exact impl_Road_isRun.mono _ _ _ _ _)
      | (with_reducible exact impl_Road_runTime.mono _ _ _ _ _ _ _)
      | (with_reducible exact LeO.refl _)
      | (with_reducible exact LeO.none _)
      | (with_reducible refine LeO.ite ?_ ?_)
      | (with_reducible refine LeO.bind ?_ (fun _ => ?_))
      | exact ih0 _ _ _ _ _ _ _ _ _
      | exact ih1 _ _ _ _ _ _ _ _ _ _ _ _ _
      | exact ih2 _ _ _ _ _ _ _ _ _ _ _ _ _ _ _ _
      | exact impl_Road_isRun.mono _ _ _ _ _
      | exact impl_Road_runTime.mono _ _ _ _ _ _ _
      | exact LeO.none _
      | refine LeO.ite ?_ ?_
      | refine LeO.bind ?_ (fun _ => ?_)
set_option maxHeartbeats 8000000 in
set_option maxRecDepth 100000 in
theorem impl_newRuns.calls (k : Nat) (a0_0 : Int) (a0_1 : Bool) (A1 : Option Addr) (c1 : Nat) (l1 : List Int) (a2 : Bool) (r1 : Int) (r2 : Bool) (r3 : List (List (List Int))) (w : World) (hr1 : Kd.C (Kd.int .i64) w A1 l1.length l1) (hc1 : l1.length ≤ c1) (h : impl_newRuns.f k a0_0 a0_1 l1 a2 = some (r1, r2, r3)) :
    Calls Try.prog 30 #[.agg #[.int .i64 a0_0, .bool a0_1], .slice A1 l1.length c1, .bool a2] w fun e w' => ∃ v2_ : Value, e = .returned (.agg #[.int .i64 r1, .bool r2, v2_]) ∧ Kd.R (Kd.slice 24 (Kd.slice 3 (Kd.int .i64))) 49 w' w.heap.size (fun _ => True) v2_ r3 ∧ Below w.heap.size w w' := by
 have hu27 := Try.underlying27
 have hu53 := Try.underlying53
 have HR1 := A_ hr1
 have HC1 := A_ hc1
 clear hr1 hc1
 have HB := A_ (Below.refl w.heap.size w)
 have H : (impl_newRuns.l0 k a2 l1 (l1.length : Int) 0 a0_0 a0_1 a0_0 a0_1 ([] : List (List (List Int)))) = some (r1, r2, r3) := h
 clear h
 have H' := A_ H
 clear H
 go_enter Try.func30, Try.ntmps30
 go_wp2_with (first | ((with_reducible refine gate_dst (N := 3) rfl ?_); refine box_event ?hg (N := 3) ?hd (cs := #[.int .i64 a0_0, .bool a0_1]) (t := 27) ?hr ?_; (case hd => rfl); (case hg => rfl); (case hr => first | (go_simp; done) | (go_simp; rfl)); intro gb301 hg w4 hbox hb; have n0_ := A_ (below_step (hq HB) hb); have n1_ := A_ (hbox); have n2_ := A_ ((by rw [hg]; exact (below_size (hq HB)) : w.heap.size ≤ gb301)); have n3_ := A_ ((by rw [hg]; exact (below_size (hq HB)) : w.heap.size ≤ gb301)); clear HB; have HB := n0_; have BK301 := n1_; have GW301 := n2_; have GE301 := n3_; clear n0_ n1_ n2_ n3_; clear hb hbox hg) | ((with_reducible refine gate_dst (N := 6) rfl ?_); refine box_event ?hg (N := 6) ?hd (cs := #[.int .i64 0, .bool false, .slice none 0 0]) (t := 53) ?hr ?_; (case hd => rfl); (case hg => rfl); (case hr => first | (go_simp; done) | (go_simp; rfl)); intro gb302 hg w5 hbox hb; have n0_ := A_ (blk_below (bq BK301) hb); have n1_ := A_ (below_step (hq HB) hb); have n2_ := A_ (hbox); have n3_ := A_ ((by rw [hg]; exact (below_size (hq HB)) : w.heap.size ≤ gb302)); have n4_ := A_ ((by rw [hg]; exact (below_size (hq HB)) : w.heap.size ≤ gb302)); have n5_ := A_ ((by rw [hg]; exact Nat.ne_of_lt (blk_lt (bq BK301)) : gb301 ≠ gb302)); have n6_ := A_ ((by rw [hg]; exact Nat.ne_of_gt (blk_lt (bq BK301)) : gb302 ≠ gb301)); clear BK301; clear HB; have BK301 := n0_; have HB := n1_; have BK302 := n2_; have GW302 := n3_; have GE302 := n4_; have NB301_302 := n5_; have NB302_301 := n6_; clear n0_ n1_ n2_ n3_ n4_ n5_ n6_; clear hb hbox hg; have hnb6 := NB301_302.out; have hnc6 := NB302_301.out; have hcz7_0 : w5.cell? ⟨gb301, 0, none⟩ = some (.int .i64 a0_0) := bc BK301 0; have hcz7_1 : w5.cell? ⟨gb301, 1, none⟩ = some (.bool a0_1) := bc BK301 1; have hfz7_0 := blk_frozen BK301.out 0; have hfz7_1 := blk_frozen BK301.out 1) | ((with_reducible refine gate_dst (N := 7) rfl ?_); refine box_event ?hg (N := 7) ?hd (cs := #[.int .i64 0, .bool false, .slice none 0 0]) (t := 53) ?hr ?_; (case hd => rfl); (case hg => rfl); (case hr => first | (go_simp; done) | (go_simp; rfl)); intro gb303 hg w8 hbox hb; have n0_ := A_ (blk_below (bq BK301) hb); have n1_ := A_ (blk_below (bq BK302) hb); have n2_ := A_ (below_step (hq HB) hb); have n3_ := A_ (hbox); have n4_ := A_ ((by rw [hg]; exact (below_size (hq HB)) : w.heap.size ≤ gb303)); have n5_ := A_ ((by rw [hg]; exact (below_size (hq HB)) : w.heap.size ≤ gb303)); have n6_ := A_ ((by rw [hg]; exact Nat.ne_of_lt (blk_lt (bq BK301)) : gb301 ≠ gb303)); have n7_ := A_ ((by rw [hg]; exact Nat.ne_of_gt (blk_lt (bq BK301)) : gb303 ≠ gb301)); have n8_ := A_ ((by rw [hg]; exact Nat.ne_of_lt (blk_lt (bq BK302)) : gb302 ≠ gb303)); have n9_ := A_ ((by rw [hg]; exact Nat.ne_of_gt (blk_lt (bq BK302)) : gb303 ≠ gb302)); clear BK301; clear BK302; clear HB; have BK301 := n0_; have BK302 := n1_; have HB := n2_; have BK303 := n3_; have GW303 := n4_; have GE303 := n5_; have NB301_303 := n6_; have NB303_301 := n7_; have NB302_303 := n8_; have NB303_302 := n9_; clear n0_ n1_ n2_ n3_ n4_ n5_ n6_ n7_ n8_ n9_; clear hb hbox hg; have hnb9 := NB303_301.out; have hnc9 := NB301_303.out; have hnb10 := NB303_302.out; have hnc10 := NB302_303.out; have hcz11_0 : w8.cell? ⟨gb303, 0, none⟩ = some (.int .i64 0) := bc BK303 0; have hcz11_1 : w8.cell? ⟨gb303, 1, none⟩ = some (.bool false) := bc BK303 1; have hcz11_2 : w8.cell? ⟨gb303, 2, none⟩ = some (.slice none 0 0) := bc BK303 2; have hfz11_0 := blk_frozen BK303.out 0; have hfz11_1 := blk_frozen BK303.out 1; have hfz11_2 := blk_frozen BK303.out 2))
 go_loopg [18] k (fun kq v18 w' => ∃ (x18_1 : Int) (x304002_1 : List (List (List Int))) (u304002 : Value), v18 = .int .i64 x18_1 ∧ Aside0 (impl_newRuns.l0 kq a2 l1 (l1.length : Int) x18_1 a0_0 a0_1 a0_0 a0_1 x304002_1 = some (r1, r2, r3)) ∧ Aside0 (kq ≤ k) ∧ Aside0 (Kd.R (Kd.slice 24 (Kd.slice 3 (Kd.int .i64))) 49 w' w.heap.size (fun _ => True) u304002 x304002_1) ∧ Aside0 (w'.heap[gb301]? = some (.cells #[.int .i64 a0_0, .bool a0_1] 27 (0, 0))) ∧ Aside0 (w'.heap[gb302]? = some (.cells #[.int .i64 0, .bool false, (.slice none 0 0)] 53 (0, 0))) ∧ Aside0 (w'.heap[gb303]? = some (.cells #[.int .i64 a0_0, .bool a0_1, u304002] 53 (0, 0))) ∧ Aside0 (Below w.heap.size w w'))
 case atStart => exact ⟨(0), (([] : List (List (List Int)))), (.slice none 0 0), (by first | rfl | (simp; done) | (simp [*]; done)), H', ⟨Nat.le_refl _⟩, ⟨by first | exact Kd.R_nil _ _ _ _ _ | exact Kd.N_nil _ _ _ _ _ | exact Kd.V_nil _ _ _ _ _ | exact Kd.Q_nil _ _ _ _ _ | exact Kd.S_nil _ _ _ _ _⟩, ⟨by (with_reducible repeat (first | refine blk_drewN ?_ _ | refine blk_drew ?_ | refine blk_alloc ?_ _)); refine blk_far ?_ NB301_303.out _; (with_reducible repeat (first | refine blk_drewN ?_ _ | refine blk_drew ?_ | refine blk_alloc ?_ _)); refine blk_far ?_ NB301_303.out _; (with_reducible repeat (first | refine blk_drewN ?_ _ | refine blk_drew ?_ | refine blk_alloc ?_ _)); refine blk_far ?_ NB301_303.out _; (with_reducible repeat (first | refine blk_drewN ?_ _ | refine blk_drew ?_ | refine blk_alloc ?_ _)); exact BK301.out⟩, ⟨by (with_reducible repeat (first | refine blk_drewN ?_ _ | refine blk_drew ?_ | refine blk_alloc ?_ _)); refine blk_far ?_ NB302_303.out _; (with_reducible repeat (first | refine blk_drewN ?_ _ | refine blk_drew ?_ | refine blk_alloc ?_ _)); refine blk_far ?_ NB302_303.out _; (with_reducible repeat (first | refine blk_drewN ?_ _ | refine blk_drew ?_ | refine blk_alloc ?_ _)); refine blk_far ?_ NB302_303.out _; (with_reducible repeat (first | refine blk_drewN ?_ _ | refine blk_drew ?_ | refine blk_alloc ?_ _)); exact BK302.out⟩, ⟨by (with_reducible repeat (first | refine blk_drewN ?_ _ | refine blk_drew ?_ | refine blk_alloc ?_ _)); refine blk_put (cs := #[.int .i64 a0_0, .bool a0_1, .slice none 0 0]) ?_ 2 _ rfl; (with_reducible repeat (first | refine blk_drewN ?_ _ | refine blk_drew ?_ | refine blk_alloc ?_ _)); refine blk_put (cs := #[.int .i64 a0_0, .bool false, .slice none 0 0]) ?_ 1 _ rfl; (with_reducible repeat (first | refine blk_drewN ?_ _ | refine blk_drew ?_ | refine blk_alloc ?_ _)); refine blk_put (cs := #[.int .i64 0, .bool false, .slice none 0 0]) ?_ 0 _ rfl; (with_reducible repeat (first | refine blk_drewN ?_ _ | refine blk_drew ?_ | refine blk_alloc ?_ _)); exact BK303.out⟩, ⟨hq HB⟩⟩
 case round =>
  clear H'
  try clear c1
  try clear p2
  try clear c3
  try clear c6
  try clear c9
  try clear c10
  try clear hcz11_0
  try clear hcz11_1
  try clear hcz11_2
  try clear hcz7_0
  try clear hcz7_1
  try clear hfz11_0
  try clear hfz11_1
  try clear hfz11_2
  try clear hfz7_0
  try clear hfz7_1
  obtain ⟨x18_1, x304002_1, u304002, rfl, HA, HK1, HO_304002, BK301, BK302, BK303, HB⟩ := hrel
  cases gk with
  | zero => exact absurd HA.out (by simp [impl_newRuns.l0])
  | succ k1 =>
   have H := HA.out
   clear HA
   simp only [impl_newRuns.l0] at H
   by_cases c12 : x18_1 < (l1.length : Int)
   ·
    rw [if_pos c12] at H
    have c12b0 : decide (x18_1 < (l1.length : Int)) = true := decide_eq_true c12
    clear c12
    by_cases c13 : 0 ≤ x18_1
    ·
     rw [if_pos c13] at H
     have c13b0 : decide (0 ≤ x18_1) = true := decide_eq_true c13
     clear c13
     by_cases c14 : x18_1 < (l1.length : Int)
     ·
      rw [if_pos c14] at H
      have c14b0 : decide (x18_1 < (l1.length : Int)) = true := decide_eq_true c14
      clear c14
      obtain ⟨y305, hy305⟩ : ∃ y_ : List (List Int), y_ = (([] : List (List Int))) := ⟨_, rfl⟩
      replace H : (impl_newRuns.l1 k1 a2 (rd l1 x18_1) y305 l1 (l1.length : Int) x18_1 a0_0 0 a0_0 a0_1 a0_0 a0_1 x304002_1) = some (r1, r2, r3) := by first | (rw [hy305]; with_reducible exact H) | (have H2_ := (Option.bind_some _ _).symm.trans H; rw [hy305]; with_reducible exact H2_) | (have H2_ := (Option.bind_some _ _).symm.trans H; with_reducible exact H2_) | with_reducible exact H | (rw [hy305]; exact H) | exact H
      have Ny305 := A_ hy305
      clear hy305
      have H' := A_ H
      clear H
      have p304 : 0 ≤ (x18_1 : Int) := of_decide_eq_true (by first | (with_reducible assumption) | assumption)
      have q304 : x18_1 < (l1.length : Int) := of_decide_eq_true (by first | (with_reducible assumption) | assumption)
      obtain ⟨ad304, e304, hx304_0⟩ := Kd.at_int HR1.out x18_1 p304 q304
      cases e304
      replace hx304_0 := (HB.out.cell (World.block_lt_of_cell? w _ hx304_0)).trans hx304_0
      replace p304 := eq_true p304
      replace q304 := eq_true q304
      go_wp2_with (first | ((with_reducible refine gate_dst (N := 22) rfl ?_); refine Kd.S_lit (Kd.slice 3 (Kd.int .i64)) _ 24 ?hg (N := 22) ?hd (xs := ([] : List (List Int))) (inner := []) (ok := fun _ => True) (okp := fun _ => True) ?hr ?hp (fun _ hk => hk) trivial (Below.refl _ _) (Nat.le_refl _) (by simp) ?_; (case hd => rfl); (case hg => rfl); (case hr => first | (go_simp; done) | (go_simp; rfl)); (case hp => exact (Reps.none _ _)); intro v306 w15 ho16 hb hg_ hnew_; clear hg_ hnew_; (first | rw [← Ny305.out] at ho16 | (simp only [Int.reduceToNat] at ho16; rw [← Ny305.out] at ho16)); have n0_ := A_ (Kd.R_elder' (rq HO_304002) (Kd.S_base ho16) hb); have n1_ := A_ (Kd.S_lower ho16 (below_size (hq HB))); have n2_ := A_ (blk_below (bq BK301) hb); have n3_ := A_ (blk_below (bq BK302) hb); have n4_ := A_ (blk_below (bq BK303) hb); have n5_ := A_ (below_step (hq HB) hb); clear HO_304002; clear BK301; clear BK302; clear BK303; clear HB; have HO_304002 := n0_; have HO307 := n1_; have BK301 := n2_; have BK302 := n3_; have BK303 := n4_; have HB := n5_; clear n0_ n1_ n2_ n3_ n4_ n5_; clear hb ho16; have hnb17 := NB301_302.out; have hnc17 := NB302_301.out; have hnb18 := NB301_303.out; have hnc18 := NB303_301.out; have hcz19_0 : w15.cell? ⟨gb301, 0, none⟩ = some (.int .i64 a0_0) := bc BK301 0; have hcz19_1 : w15.cell? ⟨gb301, 1, none⟩ = some (.bool a0_1) := bc BK301 1; have hfz19_0 := blk_frozen BK301.out 0; have hfz19_1 := blk_frozen BK301.out 1))
      go_loopg [10, 25] k1 (fun kq v10 v25 w' => ∃ (x10_2 : List (List Int)) (x25_2 : Int), v25 = .int .i64 x25_2 ∧ Aside0 (impl_newRuns.l1 kq a2 (rd l1 x18_1) x10_2 l1 (l1.length : Int) x18_1 a0_0 x25_2 a0_0 a0_1 a0_0 a0_1 x304002_1 = some (r1, r2, r3)) ∧ Aside0 (kq ≤ k1) ∧ Aside0 (Kd.S (Kd.slice 3 (Kd.int .i64)) 24 w' w.heap.size (fun _ => True) v10 x10_2) ∧ Aside0 (Kd.R (Kd.slice 24 (Kd.slice 3 (Kd.int .i64))) 49 w' w.heap.size (fun k_ => some k_ ≠ (v10 : Value).ownBlock) u304002 x304002_1) ∧ Aside0 (w'.heap[gb301]? = some (.cells #[.int .i64 a0_0, .bool a0_1] 27 (0, 0))) ∧ Aside0 (w'.heap[gb302]? = some (.cells #[.int .i64 0, .bool false, (.slice none 0 0)] 53 (0, 0))) ∧ Aside0 (w'.heap[gb303]? = some (.cells #[.int .i64 a0_0, .bool a0_1, u304002] 53 (0, 0))) ∧ Aside0 (Below w.heap.size w w'))
      case atStart => exact ⟨(y305), (0), (by first | rfl | (simp; done) | (simp [*]; done)), H', ⟨Nat.le_refl _⟩, ⟨sq HO307⟩, ⟨by (with_reducible repeat (first | apply Kd.R_alloc | apply Kd.R_drewN | apply Kd.R_drew)); exact Kd.R_mono HO_304002.out (fun _ hk => hk.2)⟩, ⟨bq BK301⟩, ⟨bq BK302⟩, ⟨bq BK303⟩, ⟨hq HB⟩⟩
      case round =>
       clear H'
       try clear c1
       try clear p2
       try clear c3
       try clear p3
       try clear q3
       try clear hx3
       try clear c6
       try clear c9
       try clear c10
       try clear c12
       try clear c12b0
       try clear c13
       try clear c13b0
       try clear c14
       try clear c14b0
       try clear c17
       try clear c18
       try clear hcz11_0
       try clear hcz11_1
       try clear hcz11_2
       try clear hcz19_0
       try clear hcz19_1
       try clear hcz7_0
       try clear hcz7_1
       try clear hfz11_0
       try clear hfz11_1
       try clear hfz11_2
       try clear hfz19_0
       try clear hfz19_1
       try clear hfz7_0
       try clear hfz7_1
       try clear hx304_0
       try clear p2
       try clear p304
       try clear q304
       obtain ⟨x10_2, x25_2, rfl, HA, HK2, HO_10, HO_304002, BK301, BK302, BK303, HB⟩ := hrel
       cases gk with
       | zero => exact absurd HA.out (by simp [impl_newRuns.l1])
       | succ k2 =>
        have H := HA.out
        clear HA
        simp only [impl_newRuns.l1] at H
        by_cases c20 : x25_2 < a0_0
        ·
         rw [if_pos c20] at H
         have c20b0 : decide (x25_2 < a0_0) = true := decide_eq_true c20
         clear c20
         obtain ⟨y311, hy311⟩ : ∃ y_ : List Int, y_ = (([] : List Int)) := ⟨_, rfl⟩
         replace H : (impl_newRuns.l2 k2 a2 (rd l1 x18_1) x10_2 x25_2 y311 0 l1 (l1.length : Int) x18_1 a0_0 x25_2 a0_0 a0_1 a0_0 a0_1 x304002_1) = some (r1, r2, r3) := by first | (rw [hy311]; with_reducible exact H) | (have H2_ := (Option.bind_some _ _).symm.trans H; rw [hy311]; with_reducible exact H2_) | (have H2_ := (Option.bind_some _ _).symm.trans H; with_reducible exact H2_) | with_reducible exact H | (rw [hy311]; exact H) | exact H
         have Ny311 := A_ hy311
         clear hy311
         have H' := A_ H
         clear H
         go_wp2_with (first | ((with_reducible refine gate_dst (N := 28) rfl ?_); refine Kd.R_lit (Kd.int .i64) _ 3 ?hg (N := 28) ?hd (xs := ([] : List Int)) (inner := []) (ok := fun _ => True) (okp := fun _ => True) ?hr ?hp (fun _ hk => hk) trivial (Below.refl _ _) (Nat.le_refl _) (by simp) ?_; (case hd => rfl); (case hg => rfl); (case hr => first | (go_simp; done) | (go_simp; rfl)); (case hp => exact (Reps.none _ _)); intro v312 w21 ho22 hb hg_ hnew_; clear hg_ hnew_; (first | rw [← Ny311.out] at ho22 | (simp only [Int.reduceToNat] at ho22; rw [← Ny311.out] at ho22)); have n0_ := A_ (Kd.S_elder' (sq HO_10) (Kd.R_base ho22) hb); have n1_ := A_ (Kd.R_elder' (rq HO_304002) (Kd.R_base ho22) hb); have n2_ := A_ (Kd.R_lower ho22 (below_size (hq HB))); have n3_ := A_ (blk_below (bq BK301) hb); have n4_ := A_ (blk_below (bq BK302) hb); have n5_ := A_ (blk_below (bq BK303) hb); have n6_ := A_ (below_step (hq HB) hb); clear HO_10; clear HO_304002; clear BK301; clear BK302; clear BK303; clear HB; have HO_10 := n0_; have HO_304002 := n1_; have HO313 := n2_; have BK301 := n3_; have BK302 := n4_; have BK303 := n5_; have HB := n6_; clear n0_ n1_ n2_ n3_ n4_ n5_ n6_; clear hb ho22))
         go_loopg [12, 13] k2 (fun kq v12 v13 w' => ∃ (x12_3 : List Int) (x13_3 : Int), v13 = .int .i64 x13_3 ∧ Aside0 (impl_newRuns.l2 kq a2 (rd l1 x18_1) x10_2 x25_2 x12_3 x13_3 l1 (l1.length : Int) x18_1 a0_0 x25_2 a0_0 a0_1 a0_0 a0_1 x304002_1 = some (r1, r2, r3)) ∧ Aside0 (kq ≤ k2) ∧ Aside0 (Kd.S (Kd.slice 3 (Kd.int .i64)) 24 w' w.heap.size (fun k_ => some k_ ≠ (v12 : Value).ownBlock) u10 x10_2) ∧ Aside0 (Kd.R (Kd.int .i64) 3 w' w.heap.size (fun _ => True) v12 x12_3) ∧ Aside0 (Kd.R (Kd.slice 24 (Kd.slice 3 (Kd.int .i64))) 49 w' w.heap.size (fun k_ => some k_ ≠ (u10 : Value).ownBlock ∧ some k_ ≠ (v12 : Value).ownBlock) u304002 x304002_1) ∧ Aside0 (w'.heap[gb301]? = some (.cells #[.int .i64 a0_0, .bool a0_1] 27 (0, 0))) ∧ Aside0 (w'.heap[gb302]? = some (.cells #[.int .i64 0, .bool false, (.slice none 0 0)] 53 (0, 0))) ∧ Aside0 (w'.heap[gb303]? = some (.cells #[.int .i64 a0_0, .bool a0_1, u304002] 53 (0, 0))) ∧ Aside0 (Below w.heap.size w w'))
         case atStart => exact ⟨(y311), (0), (by first | rfl | (simp; done) | (simp [*]; done)), H', ⟨Nat.le_refl _⟩, ⟨by (with_reducible repeat (first | apply Kd.S_alloc | apply Kd.S_drewN | apply Kd.S_drew)); exact Kd.S_mono HO_10.out (fun _ hk => hk.2)⟩, ⟨rq HO313⟩, ⟨rq HO_304002⟩, ⟨bq BK301⟩, ⟨bq BK302⟩, ⟨bq BK303⟩, ⟨hq HB⟩⟩
         case round =>
          clear H'
          try clear c1
          try clear c2
          try clear p2
          try clear c3
          try clear p3
          try clear q3
          try clear hx3
          try clear c6
          try clear c9
          try clear c10
          try clear c12
          try clear c12b0
          try clear c13
          try clear c13b0
          try clear c14
          try clear c14b0
          try clear c17
          try clear c18
          try clear c20
          try clear c20b0
          try clear hcz11_0
          try clear hcz11_1
          try clear hcz11_2
          try clear hcz19_0
          try clear hcz19_1
          try clear hcz7_0
          try clear hcz7_1
          try clear hfz11_0
          try clear hfz11_1
          try clear hfz11_2
          try clear hfz19_0
          try clear hfz19_1
          try clear hfz7_0
          try clear hfz7_1
          try clear hx304_0
          try clear p2
          try clear p3
          try clear p304
          try clear q3
          try clear q304
          obtain ⟨x12_3, x13_3, rfl, HA, HK3, HO_10, HO_12, HO_304002, BK301, BK302, BK303, HB⟩ := hrel
          cases gk with
          | zero => exact absurd HA.out (by simp [impl_newRuns.l2])
          | succ k3 =>
           have H := HA.out
           clear HA
           simp only [impl_newRuns.l2] at H
           by_cases c23 : x13_3 ≤ a0_0
           ·
            rw [if_pos c23] at H
            have c23b0 : decide (x13_3 ≤ a0_0) = true := decide_eq_true c23
            clear c23
            replace H := Option.bind_eq_some_iff.mp H
            obtain ⟨t314, A240, H⟩ := H
            replace H : (if t314 = true then ((impl_Road_runTime.f k3 a0_0 a0_1 (rd l1 x18_1) x25_2 x13_3 a2).bind fun t315 => (if x12_3.length < 17592186044416 then (impl_newRuns.l2 k3 a2 (rd l1 x18_1) x10_2 x25_2 (x12_3 ++ [t315]) (wrap64 (x13_3 + 1)) l1 (l1.length : Int) x18_1 a0_0 x25_2 a0_0 a0_1 a0_0 a0_1 x304002_1) else (none))) else (if x10_2.length < 5864062014805 then (impl_newRuns.l1 k3 a2 (rd l1 x18_1) (x10_2 ++ [x12_3]) l1 (l1.length : Int) x18_1 a0_0 (wrap64 (x25_2 + 1)) a0_0 a0_1 a0_0 a0_1 x304002_1) else (none))) = some (r1, r2, r3) := H
            have A24 := A_ A240
            clear A240
            by_cases c25 : t314 = true
            ·
             subst c25
             have H1 : ((impl_Road_runTime.f k3 a0_0 a0_1 (rd l1 x18_1) x25_2 x13_3 a2).bind fun t315 => (if x12_3.length < 17592186044416 then (impl_newRuns.l2 k3 a2 (rd l1 x18_1) x10_2 x25_2 (x12_3 ++ [t315]) (wrap64 (x13_3 + 1)) l1 (l1.length : Int) x18_1 a0_0 x25_2 a0_0 a0_1 a0_0 a0_1 x304002_1) else (none))) = some (r1, r2, r3) := by rw [if_pos rfl] at H; exact H
             clear H
             have H := H1
             clear H1
             replace H := Option.bind_eq_some_iff.mp H
             obtain ⟨t315, A260, H⟩ := H
             replace H : (if x12_3.length < 17592186044416 then (impl_newRuns.l2 k3 a2 (rd l1 x18_1) x10_2 x25_2 (x12_3 ++ [t315]) (wrap64 (x13_3 + 1)) l1 (l1.length : Int) x18_1 a0_0 x25_2 a0_0 a0_1 a0_0 a0_1 x304002_1) else (none)) = some (r1, r2, r3) := H
             have A26 := A_ A260
             clear A260
             by_cases c27 : x12_3.length < 17592186044416
             ·
              rw [if_pos c27] at H
              have LMc27 := A_ c27
              clear c27
              obtain ⟨y316, hy316⟩ : ∃ y_ : List Int, y_ = (x12_3 ++ [t315]) := ⟨_, rfl⟩
              replace H : (impl_newRuns.l2 k3 a2 (rd l1 x18_1) x10_2 x25_2 y316 (wrap64 (x13_3 + 1)) l1 (l1.length : Int) x18_1 a0_0 x25_2 a0_0 a0_1 a0_0 a0_1 x304002_1) = some (r1, r2, r3) := by first | (rw [hy316]; with_reducible exact H) | (have H2_ := (Option.bind_some _ _).symm.trans H; rw [hy316]; with_reducible exact H2_) | (have H2_ := (Option.bind_some _ _).symm.trans H; with_reducible exact H2_) | with_reducible exact H | (rw [hy316]; exact H) | exact H
              have Ny316 := A_ hy316
              clear hy316
              have H' := A_ H
              clear H
              have hnb28 := NB301_302.out
              have hnc28 := NB302_301.out
              have hnb29 := NB301_303.out
              have hnc29 := NB303_301.out
              have hcz30_0 : wr.cell? ⟨gb301, 0, none⟩ = some (.int .i64 a0_0) := bc BK301 0
              have hcz30_1 : wr.cell? ⟨gb301, 1, none⟩ = some (.bool a0_1) := bc BK301 1
              have hfz30_0 := blk_frozen BK301.out 0
              have hfz30_1 := blk_frozen BK301.out 1
              go_wp2_with (first | (go_at_call 50; (with_reducible refine (impl_Road_isRun.calls k3 a0_0 a0_1 x25_2 x13_3 true _ A24.out).mono ?_); rintro e w31 ⟨rfl, hb⟩; have n0_ := A_ (Kd.S_below (sq HO_10) hb); have n1_ := A_ (Kd.R_below (rq HO_12) hb); have n2_ := A_ (Kd.R_below (rq HO_304002) hb); have n3_ := A_ (blk_below (bq BK301) hb); have n4_ := A_ (blk_below (bq BK302) hb); have n5_ := A_ (blk_below (bq BK303) hb); have n6_ := A_ (below_step (hq HB) hb); clear HO_10; clear HO_12; clear HO_304002; clear BK301; clear BK302; clear BK303; clear HB; have HO_10 := n0_; have HO_12 := n1_; have HO_304002 := n2_; have BK301 := n3_; have BK302 := n4_; have BK303 := n5_; have HB := n6_; clear n0_ n1_ n2_ n3_ n4_ n5_ n6_; (try clear hb); (try clear hb2); (try clear hk); (try clear hi); have hcz32_0 : w31.cell? ⟨gb301, 0, none⟩ = some (.int .i64 a0_0) := bc BK301 0; have hcz32_1 : w31.cell? ⟨gb301, 1, none⟩ = some (.bool a0_1) := bc BK301 1; have hfz32_0 := blk_frozen BK301.out 0; have hfz32_1 := blk_frozen BK301.out 1) | ((with_reducible refine gate_callee (f := 51) rfl ?_); refine goesL_ (some 47) rfl rfl Try.func51 (by kernel_rfl) rfl #[.agg #[.int .i64 a0_0, .bool a0_1], .int .i64 (rd l1 x18_1), .int .i64 x25_2, .int .i64 x13_3, .bool a2] rfl gq ?_; (with_reducible refine (impl_Road_runTime.calls k3 a0_0 a0_1 (rd l1 x18_1) x25_2 x13_3 a2 t315 _ A26.out).mono ?_); rintro e w33 ⟨rfl, hb⟩; refine ⟨_, rfl, ?_⟩; have n0_ := A_ (Kd.S_below (sq HO_10) hb); have n1_ := A_ (Kd.R_below (rq HO_12) hb); have n2_ := A_ (Kd.R_below (rq HO_304002) hb); have n3_ := A_ (blk_below (bq BK301) hb); have n4_ := A_ (blk_below (bq BK302) hb); have n5_ := A_ (blk_below (bq BK303) hb); have n6_ := A_ (below_step (hq HB) hb); clear HO_10; clear HO_12; clear HO_304002; clear BK301; clear BK302; clear BK303; clear HB; have HO_10 := n0_; have HO_12 := n1_; have HO_304002 := n2_; have BK301 := n3_; have BK302 := n4_; have BK303 := n5_; have HB := n6_; clear n0_ n1_ n2_ n3_ n4_ n5_ n6_; (try clear hb); (try clear hb2); (try clear hk); (try clear hi)) | ((with_reducible refine gate_builtin (b := .append) (xs := #[.tmp 41, .tmp 48]) rfl ?_); at_builtin; refine Kd.R_append (Kd.int .i64) (w0 := w) w.heap.size rfl (.tmp 41) (.tmp 48) 24 3 (.int .i64 0) 8 rfl Try.underlying24 info3 rfl (by decide) (by omega) u12 x12_3 t315 [.int .i64 t315] (fun _ => True) (fun _ => False) rfl rfl ?aP (fun _ hk => hk.elim) ?aF ?aO ?aB ?aS ?aL ?_; (case aP => exact rfl); (case aB => exact (hq HB)); (case aF => exact (fun _ _ => trivial)); (case aO => exact (rq HO_12)); (case aS => exact (below_size (hq HB))); (case aL => have := LMc27.out; omega); intro v317 w34 ho hb hg hat; rw [← Ny316.out] at ho; have n0_ := A_ (Kd.S_after (ok := (fun _ => True)) (by (with_reducible repeat (first | apply Kd.S_alloc | apply Kd.S_drewN | apply Kd.S_drew)); exact Kd.S_mono HO_10.out (fun _ hk => ⟨trivial, hk⟩)) hg hat); have n1_ := A_ (Kd.R_after (ok := (fun k_ => some k_ ≠ (u10 : Value).ownBlock)) (rq HO_304002) hg hat); have n2_ := A_ (blk_grown (g := gb301) (o := .cells #[.int .i64 a0_0, .bool a0_1] 27 (0, 0)) (bq BK301) hg (Kd.R_ne HO_12.out BK301.out (by decide))); have n3_ := A_ (blk_grown (g := gb302) (o := .cells #[.int .i64 0, .bool false, .slice none 0 0] 53 (0, 0)) (bq BK302) hg (Kd.R_ne HO_12.out BK302.out (by decide))); have n4_ := A_ (blk_grown (g := gb303) (o := .cells #[.int .i64 a0_0, .bool a0_1, u304002] 53 (0, 0)) (bq BK303) hg (Kd.R_ne HO_12.out BK303.out (by decide))); have n5_ := A_ (hb); have n6_ := A_ (ho); clear HO_10; clear HO_304002; clear BK301; clear BK302; clear BK303; clear HB; clear HO_12; have HO_10 := n0_; have HO_304002 := n1_; have BK301 := n2_; have BK302 := n3_; have BK303 := n4_; have HB := n5_; have HO318 := n6_; clear n0_ n1_ n2_ n3_ n4_ n5_ n6_; clear ho hb hg hat))
              go_roundg k3
              case measure => have := HK1.out; have := HK2.out; have := HK3.out; omega
              case rel => exact ⟨(y316), (wrap64 (x13_3 + 1)), (by first | rfl | (simp; done) | (simp [*]; done)), H', ⟨by have := HK1.out; have := HK2.out; have := HK3.out; omega⟩, ⟨by (with_reducible repeat (first | apply Kd.S_alloc | apply Kd.S_drewN | apply Kd.S_drew)); exact Kd.S_mono HO_10.out (fun _ hk => hk.2)⟩, ⟨rq HO318⟩, ⟨rq HO_304002⟩, ⟨bq BK301⟩, ⟨bq BK302⟩, ⟨bq BK303⟩, ⟨hq HB⟩⟩
             ·
              rw [if_neg c27] at H
              exact absurd H (by simp)
            ·
             replace c25 := Bool.eq_false_iff.mpr c25
             subst c25
             have H1 : (if x10_2.length < 5864062014805 then (impl_newRuns.l1 k3 a2 (rd l1 x18_1) (x10_2 ++ [x12_3]) l1 (l1.length : Int) x18_1 a0_0 (wrap64 (x25_2 + 1)) a0_0 a0_1 a0_0 a0_1 x304002_1) else (none)) = some (r1, r2, r3) := by rw [if_neg (show ¬ (false = true) by decide)] at H; exact H
             clear H
             have H := H1
             clear H1
             by_cases c35 : x10_2.length < 5864062014805
             ·
              rw [if_pos c35] at H
              have LMc35 := A_ c35
              clear c35
              obtain ⟨y319, hy319⟩ : ∃ y_ : List (List Int), y_ = (x10_2 ++ [x12_3]) := ⟨_, rfl⟩
              replace H : (impl_newRuns.l1 k3 a2 (rd l1 x18_1) y319 l1 (l1.length : Int) x18_1 a0_0 (wrap64 (x25_2 + 1)) a0_0 a0_1 a0_0 a0_1 x304002_1) = some (r1, r2, r3) := by first | (rw [hy319]; with_reducible exact H) | (have H2_ := (Option.bind_some _ _).symm.trans H; rw [hy319]; with_reducible exact H2_) | (have H2_ := (Option.bind_some _ _).symm.trans H; with_reducible exact H2_) | with_reducible exact H | (rw [hy319]; exact H) | exact H
              have Ny319 := A_ hy319
              clear hy319
              have H' := A_ H
              clear H
              have hnb36 := NB301_302.out
              have hnc36 := NB302_301.out
              have hnb37 := NB301_303.out
              have hnc37 := NB303_301.out
              have hcz38_0 : wr.cell? ⟨gb301, 0, none⟩ = some (.int .i64 a0_0) := bc BK301 0
              have hcz38_1 : wr.cell? ⟨gb301, 1, none⟩ = some (.bool a0_1) := bc BK301 1
              have hfz38_0 := blk_frozen BK301.out 0
              have hfz38_1 := blk_frozen BK301.out 1
              go_wp2_with (first | (go_at_call 50; (with_reducible refine (impl_Road_isRun.calls k3 a0_0 a0_1 x25_2 x13_3 false _ A24.out).mono ?_); rintro e w39 ⟨rfl, hb⟩; have n0_ := A_ (Kd.S_below (sq HO_10) hb); have n1_ := A_ (Kd.R_below (rq HO_12) hb); have n2_ := A_ (Kd.R_below (rq HO_304002) hb); have n3_ := A_ (blk_below (bq BK301) hb); have n4_ := A_ (blk_below (bq BK302) hb); have n5_ := A_ (blk_below (bq BK303) hb); have n6_ := A_ (below_step (hq HB) hb); clear HO_10; clear HO_12; clear HO_304002; clear BK301; clear BK302; clear BK303; clear HB; have HO_10 := n0_; have HO_12 := n1_; have HO_304002 := n2_; have BK301 := n3_; have BK302 := n4_; have BK303 := n5_; have HB := n6_; clear n0_ n1_ n2_ n3_ n4_ n5_ n6_; (try clear hb); (try clear hb2); (try clear hk); (try clear hi); obtain ⟨Ao41, co41, eo41⟩ := Kd.R_slice HO_12.out; subst eo41) | ((with_reducible refine gate_builtin (b := .append) (xs := #[.tmp 50, .tmp 52]) rfl ?_); at_builtin; refine Kd.S_append (Kd.slice 3 (Kd.int .i64)) (w0 := w) w.heap.size rfl (.tmp 50) (.tmp 52) 49 24 (.slice none 0 0) 24 rfl Try.underlying49 info24 rfl (by decide) (by omega) u10 x10_2 x12_3 [.slice Ao41 x12_3.length co41] (fun _ => True) (fun k_ => some k_ = (.slice Ao41 x12_3.length co41 : Value).ownBlock) rfl rfl ?aP (fun k_ hk_ => ((Kd.R_mono (ok' := fun k_ => ((fun _ => True)) k_ ∧ some k_ ≠ (u10 : Value).ownBlock) (Kd.R_apart' (HO_12.out) (Kd.S_typed HO_10.out) (by decide)) (fun k_ hk => ⟨trivial, hk.2⟩))).1 k_ hk_.symm) ?aF ?aO ?aB ?aS ?aL ?_; (case aP => exact Kd.M_row (Kd.R_mono (Kd.R_tight rfl (Kd.R_mono (ok' := fun k_ => ((fun _ => True)) k_ ∧ some k_ ≠ (u10 : Value).ownBlock) (Kd.R_apart' (HO_12.out) (Kd.S_typed HO_10.out) (by decide)) (fun k_ hk => ⟨trivial, hk.2⟩))) (fun _ h_ => h_))); (case aB => exact (hq HB)); (case aF => exact (fun _ _ => trivial)); (case aO => exact (by (with_reducible repeat (first | apply Kd.S_alloc | apply Kd.S_drewN | apply Kd.S_drew)); exact Kd.S_mono HO_10.out (fun k_ hk => ⟨trivial, fun e_ => hk e_⟩))); (case aS => exact (below_size (hq HB))); (case aL => have := LMc35.out; omega); intro v320 w40 ho hb hg hat; rw [← Ny319.out] at ho; have n0_ := A_ (Kd.R_after (ok := (fun k_ => some k_ ≠ (.slice Ao41 x12_3.length co41 : Value).ownBlock)) (by (with_reducible repeat (first | apply Kd.R_alloc | apply Kd.R_drewN | apply Kd.R_drew)); exact Kd.R_mono HO_304002.out (fun _ hk => ⟨hk.2, hk.1⟩)) hg hat); have n1_ := A_ (blk_grown (g := gb301) (o := .cells #[.int .i64 a0_0, .bool a0_1] 27 (0, 0)) (bq BK301) hg (Kd.S_ne HO_10.out BK301.out (by decide))); have n2_ := A_ (blk_grown (g := gb302) (o := .cells #[.int .i64 0, .bool false, .slice none 0 0] 53 (0, 0)) (bq BK302) hg (Kd.S_ne HO_10.out BK302.out (by decide))); have n3_ := A_ (blk_grown (g := gb303) (o := .cells #[.int .i64 a0_0, .bool a0_1, u304002] 53 (0, 0)) (bq BK303) hg (Kd.S_ne HO_10.out BK303.out (by decide))); have n4_ := A_ (hb); have n5_ := A_ (ho); clear HO_304002; clear BK301; clear BK302; clear BK303; clear HB; clear HO_10; clear HO_12; have HO_304002 := n0_; have BK301 := n1_; have BK302 := n2_; have BK303 := n3_; have HB := n4_; have HO321 := n5_; clear n0_ n1_ n2_ n3_ n4_ n5_; clear ho hb hg hat))
              go_roundg k3
              case measure => have := HK1.out; have := HK2.out; have := HK3.out; omega
              case rel => exact ⟨(y319), (wrap64 (x25_2 + 1)), (by first | rfl | (simp; done) | (simp [*]; done)), H', ⟨by have := HK1.out; have := HK2.out; have := HK3.out; omega⟩, ⟨sq HO321⟩, ⟨by (with_reducible repeat (first | apply Kd.R_alloc | apply Kd.R_drewN | apply Kd.R_drew)); exact Kd.R_mono HO_304002.out (fun _ hk => hk.2)⟩, ⟨bq BK301⟩, ⟨bq BK302⟩, ⟨bq BK303⟩, ⟨hq HB⟩⟩
             ·
              rw [if_neg c35] at H
              exact absurd H (by simp)
           ·
            rw [if_neg c23] at H
            have c23b0 : decide (x13_3 ≤ a0_0) = false := decide_eq_false c23
            clear c23
            by_cases c42 : x10_2.length < 5864062014805
            ·
             rw [if_pos c42] at H
             have LMc42 := A_ c42
             clear c42
             obtain ⟨y322, hy322⟩ : ∃ y_ : List (List Int), y_ = (x10_2 ++ [x12_3]) := ⟨_, rfl⟩
             replace H : (impl_newRuns.l1 k3 a2 (rd l1 x18_1) y322 l1 (l1.length : Int) x18_1 a0_0 (wrap64 (x25_2 + 1)) a0_0 a0_1 a0_0 a0_1 x304002_1) = some (r1, r2, r3) := by first | (rw [hy322]; with_reducible exact H) | (have H2_ := (Option.bind_some _ _).symm.trans H; rw [hy322]; with_reducible exact H2_) | (have H2_ := (Option.bind_some _ _).symm.trans H; with_reducible exact H2_) | with_reducible exact H | (rw [hy322]; exact H) | exact H
             have Ny322 := A_ hy322
             clear hy322
             have H' := A_ H
             clear H
             have hnb43 := NB301_302.out
             have hnc43 := NB302_301.out
             have hnb44 := NB301_303.out
             have hnc44 := NB303_301.out
             have hcz45_0 : wr.cell? ⟨gb301, 0, none⟩ = some (.int .i64 a0_0) := bc BK301 0
             have hcz45_1 : wr.cell? ⟨gb301, 1, none⟩ = some (.bool a0_1) := bc BK301 1
             have hfz45_0 := blk_frozen BK301.out 0
             have hfz45_1 := blk_frozen BK301.out 1
             obtain ⟨Ao47, co47, eo47⟩ := Kd.R_slice HO_12.out
             subst eo47
             go_wp2_with (first | ((with_reducible refine gate_builtin (b := .append) (xs := #[.tmp 50, .tmp 52]) rfl ?_); at_builtin; refine Kd.S_append (Kd.slice 3 (Kd.int .i64)) (w0 := w) w.heap.size rfl (.tmp 50) (.tmp 52) 49 24 (.slice none 0 0) 24 rfl Try.underlying49 info24 rfl (by decide) (by omega) u10 x10_2 x12_3 [.slice Ao47 x12_3.length co47] (fun _ => True) (fun k_ => some k_ = (.slice Ao47 x12_3.length co47 : Value).ownBlock) rfl rfl ?aP (fun k_ hk_ => ((Kd.R_mono (ok' := fun k_ => ((fun _ => True)) k_ ∧ some k_ ≠ (u10 : Value).ownBlock) (Kd.R_apart' (HO_12.out) (Kd.S_typed HO_10.out) (by decide)) (fun k_ hk => ⟨trivial, hk.2⟩))).1 k_ hk_.symm) ?aF ?aO ?aB ?aS ?aL ?_; (case aP => exact Kd.M_row (Kd.R_mono (Kd.R_tight rfl (Kd.R_mono (ok' := fun k_ => ((fun _ => True)) k_ ∧ some k_ ≠ (u10 : Value).ownBlock) (Kd.R_apart' (HO_12.out) (Kd.S_typed HO_10.out) (by decide)) (fun k_ hk => ⟨trivial, hk.2⟩))) (fun _ h_ => h_))); (case aB => exact (hq HB)); (case aF => exact (fun _ _ => trivial)); (case aO => exact (by (with_reducible repeat (first | apply Kd.S_alloc | apply Kd.S_drewN | apply Kd.S_drew)); exact Kd.S_mono HO_10.out (fun k_ hk => ⟨trivial, fun e_ => hk e_⟩))); (case aS => exact (below_size (hq HB))); (case aL => have := LMc42.out; omega); intro v323 w46 ho hb hg hat; rw [← Ny322.out] at ho; have n0_ := A_ (Kd.R_after (ok := (fun k_ => some k_ ≠ (.slice Ao47 x12_3.length co47 : Value).ownBlock)) (by (with_reducible repeat (first | apply Kd.R_alloc | apply Kd.R_drewN | apply Kd.R_drew)); exact Kd.R_mono HO_304002.out (fun _ hk => ⟨hk.2, hk.1⟩)) hg hat); have n1_ := A_ (blk_grown (g := gb301) (o := .cells #[.int .i64 a0_0, .bool a0_1] 27 (0, 0)) (bq BK301) hg (Kd.S_ne HO_10.out BK301.out (by decide))); have n2_ := A_ (blk_grown (g := gb302) (o := .cells #[.int .i64 0, .bool false, .slice none 0 0] 53 (0, 0)) (bq BK302) hg (Kd.S_ne HO_10.out BK302.out (by decide))); have n3_ := A_ (blk_grown (g := gb303) (o := .cells #[.int .i64 a0_0, .bool a0_1, u304002] 53 (0, 0)) (bq BK303) hg (Kd.S_ne HO_10.out BK303.out (by decide))); have n4_ := A_ (hb); have n5_ := A_ (ho); clear HO_304002; clear BK301; clear BK302; clear BK303; clear HB; clear HO_10; clear HO_12; have HO_304002 := n0_; have BK301 := n1_; have BK302 := n2_; have BK303 := n3_; have HB := n4_; have HO324 := n5_; clear n0_ n1_ n2_ n3_ n4_ n5_; clear ho hb hg hat))
             go_roundg k3
             case measure => have := HK1.out; have := HK2.out; have := HK3.out; omega
             case rel => exact ⟨(y322), (wrap64 (x25_2 + 1)), (by first | rfl | (simp; done) | (simp [*]; done)), H', ⟨by have := HK1.out; have := HK2.out; have := HK3.out; omega⟩, ⟨sq HO324⟩, ⟨by (with_reducible repeat (first | apply Kd.R_alloc | apply Kd.R_drewN | apply Kd.R_drew)); exact Kd.R_mono HO_304002.out (fun _ hk => hk.2)⟩, ⟨bq BK301⟩, ⟨bq BK302⟩, ⟨bq BK303⟩, ⟨hq HB⟩⟩
            ·
             rw [if_neg c42] at H
             exact absurd H (by simp)
        ·
         rw [if_neg c20] at H
         have c20b0 : decide (x25_2 < a0_0) = false := decide_eq_false c20
         clear c20
         by_cases c48 : x304002_1.length < 5864062014805
         ·
          rw [if_pos c48] at H
          have LMc48 := A_ c48
          clear c48
          obtain ⟨y308, hy308⟩ : ∃ y_ : List (List (List Int)), y_ = (x304002_1 ++ [x10_2]) := ⟨_, rfl⟩
          replace H : (impl_newRuns.l0 k2 a2 l1 (l1.length : Int) (wrap64 (x18_1 + 1)) a0_0 a0_1 a0_0 a0_1 y308) = some (r1, r2, r3) := by first | (rw [hy308]; with_reducible exact H) | (have H2_ := (Option.bind_some _ _).symm.trans H; rw [hy308]; with_reducible exact H2_) | (have H2_ := (Option.bind_some _ _).symm.trans H; with_reducible exact H2_) | with_reducible exact H | (rw [hy308]; exact H) | exact H
          have Ny308 := A_ hy308
          clear hy308
          have H' := A_ H
          clear H
          have hnb49 := NB303_301.out
          have hnc49 := NB301_303.out
          have hnb50 := NB303_302.out
          have hnc50 := NB302_303.out
          have hcz51_0 : wr.cell? ⟨gb303, 0, none⟩ = some (.int .i64 a0_0) := bc BK303 0
          have hcz51_1 : wr.cell? ⟨gb303, 1, none⟩ = some (.bool a0_1) := bc BK303 1
          have hcz51_2 : wr.cell? ⟨gb303, 2, none⟩ = some (u304002) := bc BK303 2
          have hfz51_0 := blk_frozen BK303.out 0
          have hfz51_1 := blk_frozen BK303.out 1
          have hfz51_2 := blk_frozen BK303.out 2
          obtain ⟨Ao53, co53, eo53⟩ := Kd.S_slice HO_10.out
          subst eo53
          go_wp2_with (first | ((with_reducible refine gate_builtin (b := .append) (xs := #[.tmp 56, .tmp 58]) rfl ?_); at_builtin; refine Kd.R_append (Kd.slice 24 (Kd.slice 3 (Kd.int .i64))) (w0 := w) w.heap.size rfl (.tmp 56) (.tmp 58) 51 49 (.slice none 0 0) 24 rfl Try.underlying51 info49 rfl (by decide) (by omega) u304002 x304002_1 x10_2 [.slice Ao53 x10_2.length co53] (fun _ => True) (fun k_ => ((fun _ => True)) k_ ∧ some k_ ≠ (u304002 : Value).ownBlock) rfl rfl ?aP (fun _ hk => hk) ?aF ?aO ?aB ?aS ?aL ?_; (case aP => exact Kd.M_row (Kd.R_mono (Kd.R_apart' ((Kd.S_R HO_10.out)) (Kd.R_typed HO_304002.out) (by decide)) (fun k_ hk => ⟨trivial, hk.2⟩))); (case aB => exact (hq HB)); (case aF => exact (fun _ _ => trivial)); (case aO => exact (by (with_reducible repeat (first | apply Kd.R_alloc | apply Kd.R_drewN | apply Kd.R_drew)); exact Kd.R_mono HO_304002.out (fun _ hk => trivial))); (case aS => exact (below_size (hq HB))); (case aL => have := LMc48.out; omega); intro v309 w52 ho hb hg hat; rw [← Ny308.out] at ho; have n0_ := A_ (blk_grown (g := gb301) (o := .cells #[.int .i64 a0_0, .bool a0_1] 27 (0, 0)) (bq BK301) hg (Kd.R_ne HO_304002.out BK301.out (by decide))); have n1_ := A_ (blk_grown (g := gb302) (o := .cells #[.int .i64 0, .bool false, .slice none 0 0] 53 (0, 0)) (bq BK302) hg (Kd.R_ne HO_304002.out BK302.out (by decide))); have n2_ := A_ (blk_grown (g := gb303) (o := .cells #[.int .i64 a0_0, .bool a0_1, u304002] 53 (0, 0)) (bq BK303) hg (Kd.R_ne HO_304002.out BK303.out (by decide))); have n3_ := A_ (hb); have n4_ := A_ (ho); clear BK301; clear BK302; clear BK303; clear HB; clear HO_304002; clear HO_10; have BK301 := n0_; have BK302 := n1_; have BK303 := n2_; have HB := n3_; have HO310 := n4_; clear n0_ n1_ n2_ n3_ n4_; clear ho hb hg hat; obtain ⟨Ao54, co54, eo54⟩ := Kd.R_slice HO310.out; subst eo54; have hcz55_0 : w52.cell? ⟨gb303, 0, none⟩ = some (.int .i64 a0_0) := bc BK303 0; have hcz55_1 : w52.cell? ⟨gb303, 1, none⟩ = some (.bool a0_1) := bc BK303 1; have hcz55_2 : w52.cell? ⟨gb303, 2, none⟩ = some (u304002) := bc BK303 2; have hfz55_0 := blk_frozen BK303.out 0; have hfz55_1 := blk_frozen BK303.out 1; have hfz55_2 := blk_frozen BK303.out 2))
          go_roundg k2
          case measure => have := HK1.out; have := HK2.out; omega
          case rel => exact ⟨(wrap64 (x18_1 + 1)), (y308), (.slice Ao54 y308.length co54), (by first | rfl | (simp; done) | (simp [*]; done)), H', ⟨by have := HK1.out; have := HK2.out; omega⟩, ⟨by (with_reducible repeat (first | apply Kd.R_alloc | apply Kd.R_drewN | apply Kd.R_drew)); exact Kd.R_mono (Kd.R_far (p := ⟨gb303, 2, none⟩) (Kd.R_types HO310.out BK303.out (by decide)) (fun _ hk => hk.2) (.slice Ao54 y308.length co54)) (fun _ hk => trivial)⟩, ⟨by (with_reducible repeat (first | refine blk_drewN ?_ _ | refine blk_drew ?_ | refine blk_alloc ?_ _)); refine blk_far ?_ NB301_303.out _; (with_reducible repeat (first | refine blk_drewN ?_ _ | refine blk_drew ?_ | refine blk_alloc ?_ _)); exact BK301.out⟩, ⟨by (with_reducible repeat (first | refine blk_drewN ?_ _ | refine blk_drew ?_ | refine blk_alloc ?_ _)); refine blk_far ?_ NB302_303.out _; (with_reducible repeat (first | refine blk_drewN ?_ _ | refine blk_drew ?_ | refine blk_alloc ?_ _)); exact BK302.out⟩, ⟨by (with_reducible repeat (first | refine blk_drewN ?_ _ | refine blk_drew ?_ | refine blk_alloc ?_ _)); refine blk_put (cs := #[.int .i64 a0_0, .bool a0_1, u304002]) ?_ 2 _ rfl; (with_reducible repeat (first | refine blk_drewN ?_ _ | refine blk_drew ?_ | refine blk_alloc ?_ _)); exact BK303.out⟩, ⟨hq HB⟩⟩
         ·
          rw [if_neg c48] at H
          exact absurd H (by simp)
     ·
      rw [if_neg c14] at H
      exact absurd H (by simp)
    ·
     rw [if_neg c13] at H
     exact absurd H (by simp)
   ·
    rw [if_neg c12] at H
    have c12b0 : decide (x18_1 < (l1.length : Int)) = false := decide_eq_false c12
    clear c12
    simp only [Option.some.injEq, Prod.mk.injEq] at H
    obtain ⟨rfl, rfl, rfl⟩ := H
    have hnb56 := NB303_301.out
    have hnc56 := NB301_303.out
    have hnb57 := NB303_302.out
    have hnc57 := NB302_303.out
    have hcz58_0 : wr.cell? ⟨gb303, 0, none⟩ = some (.int .i64 a0_0) := bc BK303 0
    have hcz58_1 : wr.cell? ⟨gb303, 1, none⟩ = some (.bool a0_1) := bc BK303 1
    have hcz58_2 : wr.cell? ⟨gb303, 2, none⟩ = some (u304002) := bc BK303 2
    have hfz58_0 := blk_frozen BK303.out 0
    have hfz58_1 := blk_frozen BK303.out 1
    have hfz58_2 := blk_frozen BK303.out 2
    have hnb59 := NB302_301.out
    have hnc59 := NB301_302.out
    have hcz60_0 : wr.cell? ⟨gb302, 0, none⟩ = some (.int .i64 0) := bc BK302 0
    have hcz60_1 : wr.cell? ⟨gb302, 1, none⟩ = some (.bool false) := bc BK302 1
    have hcz60_2 : wr.cell? ⟨gb302, 2, none⟩ = some (.slice none 0 0) := bc BK302 2
    have hfz60_0 := blk_frozen BK302.out 0
    have hfz60_1 := blk_frozen BK302.out 1
    have hfz60_2 := blk_frozen BK302.out 2
    obtain ⟨Ao61, co61, eo61⟩ := Kd.R_slice HO_304002.out
    subst eo61
    go_wp2
    refine bodyPost_ret (results_cell_row rfl _ _ gb302 53 #[.int .i64 a0_0, .bool a0_1, .slice Ao61 x304002_1.length co61] (0, 0) _ rfl (by (with_reducible repeat (first | refine blk_drewN ?_ _ | refine blk_drew ?_ | refine blk_alloc ?_ _)); refine blk_put (cs := #[.int .i64 a0_0, .bool a0_1, .slice none 0 0]) ?_ 2 _ rfl; (with_reducible repeat (first | refine blk_drewN ?_ _ | refine blk_drew ?_ | refine blk_alloc ?_ _)); refine blk_put (cs := #[.int .i64 a0_0, .bool false, .slice none 0 0]) ?_ 1 _ rfl; (with_reducible repeat (first | refine blk_drewN ?_ _ | refine blk_drew ?_ | refine blk_alloc ?_ _)); refine blk_put (cs := #[.int .i64 0, .bool false, .slice none 0 0]) ?_ 0 _ rfl; (with_reducible repeat (first | refine blk_drewN ?_ _ | refine blk_drew ?_ | refine blk_alloc ?_ _)); exact BK302.out) Try.underlying53 rfl (by kernel_rfl)) rfl ?_
    exact ⟨_, rt, by (with_reducible repeat (first | apply Kd.R_alloc | apply Kd.R_drewN | apply Kd.R_drew)); exact Kd.R_mono (Kd.R_far (p := ⟨gb302, 2, none⟩) (Kd.R_far (p := ⟨gb302, 1, none⟩) (Kd.R_far (p := ⟨gb302, 0, none⟩) (Kd.R_types HO_304002.out BK302.out (by decide)) (fun _ hk => hk.2) (.int .i64 a0_0)) (fun _ hk => hk.2) (.bool a0_1)) (fun _ hk => hk.2) (.slice Ao61 x304002_1.length co61)) (fun _ hk => trivial), hq HB⟩

/-! ### impl_runs_taken: function 31 -/
mutual
def impl_runs_taken.l0 : Nat → List Int → Int → List Int → Int → List Int → Int → Int → Int → Bool → List (List (List Int)) → Option (List Int × Bool)
  | 0, _, _, _, _, _, _, _, _, _, _ => none
  | k + 1, x1, x2, x10, x11, x19, x20, x21, x326000, x326001, x326002 => if x21 < x20 then (if 0 ≤ x21 then (if x21 < (x19.length : Int) then (if 0 ≤ (rd x19 x21) then (if (rd x19 x21) < (x326002.length : Int) then (if x326000 = 0 then (none) else (if 0 ≤ (Int.tmod (wrap64 (x2 + x11)) x326000) then (if (Int.tmod (wrap64 (x2 + x11)) x326000) < ((rd_L2 x326002 (rd x19 x21)).length : Int) then (impl_runs_taken.l1 k x1 x2 x10 x11 (rd x19 x21) (rd_L1 (rd_L2 x326002 (rd x19 x21)) (Int.tmod (wrap64 (x2 + x11)) x326000)) (wrap64 (x326000 - x11)) x19 x20 x21 x326000 x326001 x326002) else (none)) else (none))) else (none)) else (none)) else (none)) else (none)) else (some (x10, (x11 == x326000)))
def impl_runs_taken.l1 : Nat → List Int → Int → List Int → Int → Int → List Int → Int → List Int → Int → Int → Int → Bool → List (List (List Int)) → Option (List Int × Bool)
  | 0, _, _, _, _, _, _, _, _, _, _, _, _, _ => none
  | k + 1, x1, x2, x10, x11, x13, x14, x15, x19, x20, x21, x326000, x326001, x326002 => if x15 > 0 then (if 0 ≤ x15 then (if x15 < (x14.length : Int) then (if 0 ≤ x13 then (if x13 < (x1.length : Int) then (if (rd x14 x15) > (rd x1 x13) then (impl_runs_taken.l1 k x1 x2 x10 x11 x13 x14 (wrap64 (x15 - 1)) x19 x20 x21 x326000 x326001 x326002) else (if x13 < (x10.length : Int) then (impl_runs_taken.l0 k x1 x2 (x10.set (x13 : Int).toNat x15) (wrap64 (x11 + x15)) x19 x20 (wrap64 (x21 + 1)) x326000 x326001 x326002) else (none))) else (none)) else (none)) else (none)) else (none)) else (if 0 ≤ x13 then (if x13 < (x10.length : Int) then (impl_runs_taken.l0 k x1 x2 (x10.set (x13 : Int).toNat x15) (wrap64 (x11 + x15)) x19 x20 (wrap64 (x21 + 1)) x326000 x326001 x326002) else (none)) else (none))
end
def impl_runs_taken.f (k : Nat) (a0_0 : Int) (a0_1 : Bool) (l0_2 : List (List (List Int))) (l1 : List Int) (a2 : Int) (l3 : List Int) : Option (List Int × Bool) := if 0 ≤ (l1.length : Int) then (if ((l1.length : Int) : Int).toNat ≤ 35184372088832 then (impl_runs_taken.l0 k l1 a2 (List.replicate ((l1.length : Int) : Int).toNat 0) 0 l3 (l3.length : Int) 0 a0_0 a0_1 l0_2) else (none)) else (none)
theorem impl_runs_taken.mono_l : ∀ k, (∀ y0 y1 y2 y3 y4 y5 y6 y7 y8 y9, LeO (impl_runs_taken.l0 k y0 y1 y2 y3 y4 y5 y6 y7 y8 y9) (impl_runs_taken.l0 (k + 1) y0 y1 y2 y3 y4 y5 y6 y7 y8 y9)) ∧ (∀ y0 y1 y2 y3 y4 y5 y6 y7 y8 y9 y10 y11 y12, LeO (impl_runs_taken.l1 k y0 y1 y2 y3 y4 y5 y6 y7 y8 y9 y10 y11 y12) (impl_runs_taken.l1 (k + 1) y0 y1 y2 y3 y4 y5 y6 y7 y8 y9 y10 y11 y12))
  | 0 => ⟨fun _ _ _ _ _ _ _ _ _ _ r h => by simp [impl_runs_taken.l0] at h, fun _ _ _ _ _ _ _ _ _ _ _ _ _ r h => by simp [impl_runs_taken.l1] at h⟩
  | k + 1 => by
    obtain ⟨ih0, ih1⟩ := impl_runs_taken.mono_l k
    refine ⟨?_, ?_⟩
    · intro y0 y1 y2 y3 y4 y5 y6 y7 y8 y9
      unfold impl_runs_taken.l0
      repeat' first
      | (with_reducible exact ih0 _ _ _ _ _ _ _ _ _ _)
      | (with_reducible exact ih1 _ _ _ _ _ _ _ _ _ _ _ _ _)
      | (with_reducible exact LeO.refl _)
      | (with_reducible exact LeO.none _)
      | (with_reducible refine LeO.ite ?_ ?_)
      | (with_reducible refine LeO.bind ?_ (fun _ => ?_))
      | exact ih0 _ _ _ _ _ _ _ _ _ _
      | exact ih1 _ _ _ _ _ _ _ _ _ _ _ _ _
      | exact LeO.none _
      | refine LeO.ite ?_ ?_
      | refine LeO.bind ?_ (fun _ => ?_)
    · intro y0 y1 y2 y3 y4 y5 y6 y7 y8 y9 y10 y11 y12
      unfold impl_runs_taken.l1
      repeat' first
      | (with_reducible exact ih0 _ _ _ _ _ _ _ _ _ _)
      | (with_reducible exact ih1 _ _ _ _ _ _ _ _ _ _ _ _ _)
      | (with_reducible exact LeO.refl _)
      | (with_reducible exact LeO.none _)
      | (with_reducible refine LeO.ite ?_ ?_)
      | (with_reducible refine LeO.bind ?_ (fun _ => ?_))
      | exact ih0 _ _ _ _ _ _ _ _ _ _
      | exact ih1 _ _ _ _ _ _ _ _ _ _ _ _ _
      | exact LeO.none _
      | refine LeO.ite ?_ ?_
      | refine LeO.bind ?_ (fun _ => ?_)
theorem impl_runs_taken.mono : ∀ a0 a1 a2 a3 a4 a5 k, LeO (impl_runs_taken.f k a0 a1 a2 a3 a4 a5) (impl_runs_taken.f (k + 1) a0 a1 a2 a3 a4 a5) := by
  intro a0 a1 a2 a3 a4 a5 k
  obtain ⟨ih0, ih1⟩ := impl_runs_taken.mono_l k
  unfold impl_runs_taken.f
  repeat' first
      | (with_reducible exact ih0 _ _ _ _ _ _ _ _ _ _)
      | (with_reducible exact ih1 _ _ _ _ _ _ _ _ _ _ _ _ _)
      | (with_reducible exact LeO.refl _)
      | (with_reducible exact LeO.none _)
      | (with_reducible refine LeO.ite ?_ ?_)
      | (with_reducible refine LeO.bind ?_ (fun _ => ?_))
      | exact ih0 _ _ _ _ _ _ _ _ _ _
      | exact ih1 _ _ _ _ _ _ _ _ _ _ _ _ _
      | exact LeO.none _
      | refine LeO.ite ?_ ?_
      | refine LeO.bind ?_ (fun _ => ?_)
set_option maxHeartbeats 8000000 in
set_option maxRecDepth 100000 in
theorem impl_runs_taken.calls (k : Nat) (a0_0 : Int) (a0_1 : Bool) (A0_2 : Option Addr) (c0_2 : Nat) (l0_2 : List (List (List Int))) (A1 : Option Addr) (c1 : Nat) (l1 : List Int) (a2 : Int) (A3 : Option Addr) (c3 : Nat) (l3 : List Int) (r1 : List Int) (r2 : Bool) (w : World) (hr0_2 : Kd.C (Kd.slice 24 (Kd.slice 3 (Kd.int .i64))) w A0_2 l0_2.length l0_2) (hc0_2 : l0_2.length ≤ c0_2) (hr1 : Kd.C (Kd.int .i64) w A1 l1.length l1) (hc1 : l1.length ≤ c1) (hr3 : Kd.C (Kd.int .i64) w A3 l3.length l3) (hc3 : l3.length ≤ c3) (h : impl_runs_taken.f k a0_0 a0_1 l0_2 l1 a2 l3 = some (r1, r2)) :
    Calls Try.prog 31 #[.agg #[.int .i64 a0_0, .bool a0_1, .slice A0_2 l0_2.length c0_2], .slice A1 l1.length c1, .int .i64 a2, .slice A3 l3.length c3] w fun e w' => ∃ v0_ : Value, e = .returned (.tuple #[v0_, .bool r2]) ∧ Kd.R (Kd.int .i64) 3 w' w.heap.size (fun _ => True) v0_ r1 ∧ Below w.heap.size w w' := by
 have hu53 := Try.underlying53
 have HR0_2 := A_ hr0_2
 have HC0_2 := A_ hc0_2
 clear hr0_2 hc0_2
 have HR1 := A_ hr1
 have HC1 := A_ hc1
 clear hr1 hc1
 have HR3 := A_ hr3
 have HC3 := A_ hc3
 clear hr3 hc3
 have HB := A_ (Below.refl w.heap.size w)
 have H : (if 0 ≤ (l1.length : Int) then (if ((l1.length : Int) : Int).toNat ≤ 35184372088832 then (impl_runs_taken.l0 k l1 a2 (List.replicate ((l1.length : Int) : Int).toNat 0) 0 l3 (l3.length : Int) 0 a0_0 a0_1 l0_2) else (none)) else (none)) = some (r1, r2) := h
 clear h
 by_cases c5 : 0 ≤ (l1.length : Int)
 ·
  rw [if_pos c5] at H
  have c5b0 := eq_true c5
  have c5b1 : decide (0 ≤ (l1.length : Int)) = true := decide_eq_true c5
  clear c5
  by_cases c6 : ((l1.length : Int) : Int).toNat ≤ 35184372088832
  ·
   rw [if_pos c6] at H
   have c6b0 := eq_true c6
   have c6b1 : decide (((l1.length : Int) : Int).toNat ≤ 35184372088832) = true := decide_eq_true c6
   clear c6
   obtain ⟨y326, hy326⟩ : ∃ y_ : List Int, y_ = (List.replicate ((l1.length : Int) : Int).toNat 0) := ⟨_, rfl⟩
   replace H : (impl_runs_taken.l0 k l1 a2 y326 0 l3 (l3.length : Int) 0 a0_0 a0_1 l0_2) = some (r1, r2) := by first | (rw [hy326]; with_reducible exact H) | (have H2_ := (Option.bind_some _ _).symm.trans H; rw [hy326]; with_reducible exact H2_) | (have H2_ := (Option.bind_some _ _).symm.trans H; with_reducible exact H2_) | with_reducible exact H | (rw [hy326]; exact H) | exact H
   have Ny326 := A_ hy326
   clear hy326
   have H' := A_ H
   clear H
   go_enter Try.func31, Try.ntmps31
   go_wp2_with (first | ((with_reducible refine gate_dst (N := 4) rfl ?_); refine box_event ?hg (N := 4) ?hd (cs := #[.int .i64 a0_0, .bool a0_1, .slice A0_2 l0_2.length c0_2]) (t := 53) ?hr ?_; (case hd => rfl); (case hg => rfl); (case hr => first | (go_simp; done) | (go_simp; rfl)); intro gb325 hg w7 hbox hb; have n0_ := A_ (below_step (hq HB) hb); have n1_ := A_ (hbox); have n2_ := A_ ((by rw [hg]; exact (below_size (hq HB)) : w.heap.size ≤ gb325)); have n3_ := A_ ((by rw [hg]; exact (below_size (hq HB)) : w.heap.size ≤ gb325)); clear HB; have HB := n0_; have BK325 := n1_; have GW325 := n2_; have GE325 := n3_; clear n0_ n1_ n2_ n3_; clear hb hbox hg) | ((with_reducible refine gate_dst (N := 18) rfl ?_); refine Kd.R_make (Kd.int .i64) _ 3 rfl (N := 18) rfl 24 _ _ rfl (l1.length : Int) rfl rfl Try.underlying24 (.int .i64 0) 8 info3 rfl (by decide) (by omega) 0 (ok := fun _ => True) (okp := fun _ => True) rfl (fun _ hk => hk) trivial (of_decide_eq_true (by first | (with_reducible assumption) | assumption)) (Nat.le_trans (Nat.mul_le_mul_right _ (of_decide_eq_true (by first | (with_reducible assumption) | assumption) : (l1.length : Int).toNat ≤ 35184372088832)) (by omega)) (Below.refl _ _) (Nat.le_refl _) ?_; intro v327 w8 ho9 hb hg_ hnew_; clear hg_ hnew_; (first | rw [← Ny326.out] at ho9 | (simp only [Int.reduceToNat] at ho9; rw [← Ny326.out] at ho9)); have n0_ := A_ (Kd.R_lower ho9 (below_size (hq HB))); have n1_ := A_ (blk_below (bq BK325) hb); have n2_ := A_ (below_step (hq HB) hb); clear BK325; clear HB; have HO328 := n0_; have BK325 := n1_; have HB := n2_; clear n0_ n1_ n2_; clear hb ho9))
   repeat (go_quiet (first | ((with_reducible refine gate_dst (N := 4) rfl ?_); refine box_event ?hg (N := 4) ?hd (cs := #[.int .i64 a0_0, .bool a0_1, .slice A0_2 l0_2.length c0_2]) (t := 53) ?hr ?_; (case hd => rfl); (case hg => rfl); (case hr => first | (go_simp; done) | (go_simp; rfl)); intro gb325 hg w7 hbox hb; have n0_ := A_ (below_step (hq HB) hb); have n1_ := A_ (hbox); have n2_ := A_ ((by rw [hg]; exact (below_size (hq HB)) : w.heap.size ≤ gb325)); have n3_ := A_ ((by rw [hg]; exact (below_size (hq HB)) : w.heap.size ≤ gb325)); clear HB; have HB := n0_; have BK325 := n1_; have GW325 := n2_; have GE325 := n3_; clear n0_ n1_ n2_ n3_; clear hb hbox hg) | ((with_reducible refine gate_dst (N := 18) rfl ?_); refine Kd.R_make (Kd.int .i64) _ 3 rfl (N := 18) rfl 24 _ _ rfl (l1.length : Int) rfl rfl Try.underlying24 (.int .i64 0) 8 info3 rfl (by decide) (by omega) 0 (ok := fun _ => True) (okp := fun _ => True) rfl (fun _ hk => hk) trivial (of_decide_eq_true (by first | (with_reducible assumption) | assumption)) (Nat.le_trans (Nat.mul_le_mul_right _ (of_decide_eq_true (by first | (with_reducible assumption) | assumption) : (l1.length : Int).toNat ≤ 35184372088832)) (by omega)) (Below.refl _ _) (Nat.le_refl _) ?_; intro v327 w8 ho9 hb hg_ hnew_; clear hg_ hnew_; (first | rw [← Ny326.out] at ho9 | (simp only [Int.reduceToNat] at ho9; rw [← Ny326.out] at ho9)); have n0_ := A_ (Kd.R_lower ho9 (below_size (hq HB))); have n1_ := A_ (blk_below (bq BK325) hb); have n2_ := A_ (below_step (hq HB) hb); clear BK325; clear HB; have HO328 := n0_; have BK325 := n1_; have HB := n2_; clear n0_ n1_ n2_; clear hb ho9)); try go_wp2_with (first | ((with_reducible refine gate_dst (N := 4) rfl ?_); refine box_event ?hg (N := 4) ?hd (cs := #[.int .i64 a0_0, .bool a0_1, .slice A0_2 l0_2.length c0_2]) (t := 53) ?hr ?_; (case hd => rfl); (case hg => rfl); (case hr => first | (go_simp; done) | (go_simp; rfl)); intro gb325 hg w7 hbox hb; have n0_ := A_ (below_step (hq HB) hb); have n1_ := A_ (hbox); have n2_ := A_ ((by rw [hg]; exact (below_size (hq HB)) : w.heap.size ≤ gb325)); have n3_ := A_ ((by rw [hg]; exact (below_size (hq HB)) : w.heap.size ≤ gb325)); clear HB; have HB := n0_; have BK325 := n1_; have GW325 := n2_; have GE325 := n3_; clear n0_ n1_ n2_ n3_; clear hb hbox hg) | ((with_reducible refine gate_dst (N := 18) rfl ?_); refine Kd.R_make (Kd.int .i64) _ 3 rfl (N := 18) rfl 24 _ _ rfl (l1.length : Int) rfl rfl Try.underlying24 (.int .i64 0) 8 info3 rfl (by decide) (by omega) 0 (ok := fun _ => True) (okp := fun _ => True) rfl (fun _ hk => hk) trivial (of_decide_eq_true (by first | (with_reducible assumption) | assumption)) (Nat.le_trans (Nat.mul_le_mul_right _ (of_decide_eq_true (by first | (with_reducible assumption) | assumption) : (l1.length : Int).toNat ≤ 35184372088832)) (by omega)) (Below.refl _ _) (Nat.le_refl _) ?_; intro v327 w8 ho9 hb hg_ hnew_; clear hg_ hnew_; (first | rw [← Ny326.out] at ho9 | (simp only [Int.reduceToNat] at ho9; rw [← Ny326.out] at ho9)); have n0_ := A_ (Kd.R_lower ho9 (below_size (hq HB))); have n1_ := A_ (blk_below (bq BK325) hb); have n2_ := A_ (below_step (hq HB) hb); clear BK325; clear HB; have HO328 := n0_; have BK325 := n1_; have HB := n2_; clear n0_ n1_ n2_; clear hb ho9)))
   go_loopg [11, 21] k (fun kq v11 v21 w' => ∃ (x10_1 : List Int) (x11_1 : Int) (x21_1 : Int), v11 = .int .i64 x11_1 ∧ v21 = .int .i64 x21_1 ∧ Aside0 (impl_runs_taken.l0 kq l1 a2 x10_1 x11_1 l3 (l3.length : Int) x21_1 a0_0 a0_1 l0_2 = some (r1, r2)) ∧ Aside0 (kq ≤ k) ∧ Aside0 (Kd.R (Kd.int .i64) 3 w' w.heap.size (fun _ => True) v327 x10_1) ∧ Aside0 (w'.heap[gb325]? = some (.cells #[.int .i64 a0_0, .bool a0_1, (.slice A0_2 l0_2.length c0_2)] 53 (0, 0))) ∧ Aside0 (Below w.heap.size w w'))
   case atStart => exact ⟨(y326), (0), (0), (by first | rfl | (simp; done) | (simp [*]; done)), (by first | rfl | (simp; done) | (simp [*]; done)), H', ⟨Nat.le_refl _⟩, ⟨rq HO328⟩, ⟨bq BK325⟩, ⟨hq HB⟩⟩
   case round =>
    clear H'
    try clear c1
    try clear p2
    try clear c3
    try clear c5
    try clear c5b0
    try clear c5b1
    try clear c6
    try clear c6b0
    try clear c6b1
    obtain ⟨x10_1, x11_1, x21_1, rfl, rfl, HA, HK1, HO_10, BK325, HB⟩ := hrel
    cases gk with
    | zero => exact absurd HA.out (by simp [impl_runs_taken.l0])
    | succ k1 =>
     have H := HA.out
     clear HA
     simp only [impl_runs_taken.l0] at H
     by_cases c10 : x21_1 < (l3.length : Int)
     ·
      rw [if_pos c10] at H
      have c10b0 : decide (x21_1 < (l3.length : Int)) = true := decide_eq_true c10
      clear c10
      by_cases c11 : 0 ≤ x21_1
      ·
       rw [if_pos c11] at H
       have c11b0 : decide (0 ≤ x21_1) = true := decide_eq_true c11
       clear c11
       by_cases c12 : x21_1 < (l3.length : Int)
       ·
        rw [if_pos c12] at H
        have c12b0 : decide (x21_1 < (l3.length : Int)) = true := decide_eq_true c12
        clear c12
        by_cases c13 : 0 ≤ (rd l3 x21_1)
        ·
         rw [if_pos c13] at H
         have c13b0 : decide (0 ≤ (rd l3 x21_1)) = true := decide_eq_true c13
         clear c13
         by_cases c14 : (rd l3 x21_1) < (l0_2.length : Int)
         ·
          rw [if_pos c14] at H
          have c14b0 : decide ((rd l3 x21_1) < (l0_2.length : Int)) = true := decide_eq_true c14
          clear c14
          by_cases c15 : a0_0 = 0
          ·
           rw [if_pos c15] at H
           exact absurd H (by simp)
          ·
           rw [if_neg c15] at H
           have c15b0 : (a0_0 == 0) = false := beq_eq_false_iff_ne.mpr c15
           have c15b1 : (a0_0 != 0) = true := bne_iff_ne.mpr c15
           obtain ⟨ji16, hji16⟩ : ∃ j_ : Int, (Int.tmod (wrap64 (a2 + x11_1)) a0_0) = j_ := ⟨_, rfl⟩
           replace H : (if 0 ≤ (ji16) then (if (ji16) < ((rd_L2 l0_2 (rd l3 x21_1)).length : Int) then (impl_runs_taken.l1 k1 l1 a2 x10_1 x11_1 (rd l3 x21_1) (rd_L1 (rd_L2 l0_2 (rd l3 x21_1)) (ji16)) (wrap64 (a0_0 - x11_1)) l3 (l3.length : Int) x21_1 a0_0 a0_1 l0_2) else (none)) else (none)) = some (r1, r2) := by first | (rw [hji16] at H; exact H) | (simp only [hji16] at H ⊢; exact H)
           by_cases c17 : 0 ≤ (ji16)
           ·
            rw [if_pos c17] at H
            have c17b0 : decide (0 ≤ (ji16)) = true := decide_eq_true c17
            clear c17
            by_cases c18 : (ji16) < ((rd_L2 l0_2 (rd l3 x21_1)).length : Int)
            ·
             rw [if_pos c18] at H
             have c18b0 : decide ((ji16) < ((rd_L2 l0_2 (rd l3 x21_1)).length : Int)) = true := decide_eq_true c18
             clear c18
             have H' := A_ H
             clear H
             have p329 : 0 ≤ (x21_1 : Int) := of_decide_eq_true (by first | (with_reducible assumption) | assumption)
             have q329 : x21_1 < (l3.length : Int) := of_decide_eq_true (by first | (with_reducible assumption) | assumption)
             obtain ⟨ad329, e329, hx329_0⟩ := Kd.at_int HR3.out x21_1 p329 q329
             cases e329
             replace hx329_0 := (HB.out.cell (World.block_lt_of_cell? w _ hx329_0)).trans hx329_0
             replace p329 := eq_true p329
             replace q329 := eq_true q329
             have hcz19_0 : wr.cell? ⟨gb325, 0, none⟩ = some (.int .i64 a0_0) := bc BK325 0
             have hcz19_1 : wr.cell? ⟨gb325, 1, none⟩ = some (.bool a0_1) := bc BK325 1
             have hcz19_2 : wr.cell? ⟨gb325, 2, none⟩ = some (.slice A0_2 l0_2.length c0_2) := bc BK325 2
             have hfz19_0 := blk_frozen BK325.out 0
             have hfz19_1 := blk_frozen BK325.out 1
             have hfz19_2 := blk_frozen BK325.out 2
             have p330 : 0 ≤ ((rd l3 x21_1) : Int) := of_decide_eq_true (by first | (with_reducible assumption) | assumption)
             have q330 : (rd l3 x21_1) < (l0_2.length : Int) := of_decide_eq_true (by first | (with_reducible assumption) | assumption)
             obtain ⟨ad330, A330_0, c330_0, e330, hx330_0, hl330_0, hi330_0⟩ := at_L2 HR0_2.out (rd l3 x21_1) p330 q330
             cases e330
             replace hx330_0 := (HB.out.cell (World.block_lt_of_cell? w _ hx330_0)).trans hx330_0
             have HR330_0 := A_ hi330_0
             have HC330_0 := A_ hl330_0
             clear hi330_0 hl330_0
             replace p330 := eq_true p330
             replace q330 := eq_true q330
             have p331 : 0 ≤ ((ji16) : Int) := of_decide_eq_true (by first | (with_reducible assumption) | assumption)
             have q331 : (ji16) < ((rd_L2 l0_2 (rd l3 x21_1)).length : Int) := of_decide_eq_true (by first | (with_reducible assumption) | assumption)
             obtain ⟨ad331, A331_0, c331_0, e331, hx331_0, hl331_0, hi331_0⟩ := at_L1 HR330_0.out (ji16) p331 q331
             cases e331
             replace hx331_0 := (HB.out.cell (World.block_lt_of_cell? w _ hx331_0)).trans hx331_0
             have HR331_0 := A_ hi331_0
             have HC331_0 := A_ hl331_0
             clear hi331_0 hl331_0
             replace p331 := eq_true p331
             replace q331 := eq_true q331
             go_wp2
             repeat (go_quiet (fail); try go_wp2)
             go_loopg [15] k1 (fun kq v15 w' => ∃ (x15_2 : Int), v15 = .int .i64 x15_2 ∧ Aside0 (impl_runs_taken.l1 kq l1 a2 x10_1 x11_1 (rd l3 x21_1) (rd_L1 (rd_L2 l0_2 (rd l3 x21_1)) (ji16)) x15_2 l3 (l3.length : Int) x21_1 a0_0 a0_1 l0_2 = some (r1, r2)) ∧ Aside0 (kq ≤ k1) ∧ Aside0 (Kd.R (Kd.int .i64) 3 w' w.heap.size (fun _ => True) v327 x10_1) ∧ Aside0 (w'.heap[gb325]? = some (.cells #[.int .i64 a0_0, .bool a0_1, (.slice (some ad330) l0_2.length c0_2)] 53 (0, 0))) ∧ Aside0 (Below w.heap.size w w'))
             case atStart => exact ⟨(wrap64 (a0_0 - x11_1)), (by first | rfl | (simp; done) | (simp [*]; done)), H', ⟨Nat.le_refl _⟩, ⟨rq HO_10⟩, ⟨bq BK325⟩, ⟨hq HB⟩⟩
             case round =>
              clear H'
              try clear c1
              try clear p2
              try clear c3
              try clear p3
              try clear q3
              try clear hx3
              try clear c5
              try clear c5b0
              try clear c5b1
              try clear c6
              try clear c6b0
              try clear c6b1
              try clear p6
              try clear c10
              try clear c10b0
              try clear c11
              try clear c11b0
              try clear c12
              try clear c12b0
              try clear c13
              try clear c13b0
              try clear c14
              try clear c14b0
              try clear c15
              try clear c15b0
              try clear c15b1
              try clear c17
              try clear c17b0
              try clear c18
              try clear c18b0
              try clear hcz19_0
              try clear hcz19_1
              try clear hcz19_2
              try clear hfz19_0
              try clear hfz19_1
              try clear hfz19_2
              try clear hx329_0
              try clear hx330_0
              try clear hx331_0
              try clear p2
              try clear p329
              try clear p330
              try clear p331
              try clear q329
              try clear q330
              try clear q331
              obtain ⟨x15_2, rfl, HA, HK2, HO_10, BK325, HB⟩ := hrel
              cases gk with
              | zero => exact absurd HA.out (by simp [impl_runs_taken.l1])
              | succ k2 =>
               have H := HA.out
               clear HA
               simp only [impl_runs_taken.l1] at H
               by_cases c20 : x15_2 > 0
               ·
                rw [if_pos c20] at H
                have c20b0 : decide (0 < x15_2) = true := decide_eq_true c20
                clear c20
                by_cases c21 : 0 ≤ x15_2
                ·
                 rw [if_pos c21] at H
                 have c21b0 : decide (0 ≤ x15_2) = true := decide_eq_true c21
                 clear c21
                 by_cases c22 : x15_2 < ((rd_L1 (rd_L2 l0_2 (rd l3 x21_1)) (ji16)).length : Int)
                 ·
                  rw [if_pos c22] at H
                  have c22b0 : decide (x15_2 < ((rd_L1 (rd_L2 l0_2 (rd l3 x21_1)) (ji16)).length : Int)) = true := decide_eq_true c22
                  clear c22
                  by_cases c23 : 0 ≤ (rd l3 x21_1)
                  ·
                   rw [if_pos c23] at H
                   have c23b0 : decide (0 ≤ (rd l3 x21_1)) = true := decide_eq_true c23
                   clear c23
                   by_cases c24 : (rd l3 x21_1) < (l1.length : Int)
                   ·
                    rw [if_pos c24] at H
                    have c24b0 : decide ((rd l3 x21_1) < (l1.length : Int)) = true := decide_eq_true c24
                    clear c24
                    by_cases c25 : (rd (rd_L1 (rd_L2 l0_2 (rd l3 x21_1)) (ji16)) x15_2) > (rd l1 (rd l3 x21_1))
                    ·
                     rw [if_pos c25] at H
                     have c25b0 : decide ((rd l1 (rd l3 x21_1)) < (rd (rd_L1 (rd_L2 l0_2 (rd l3 x21_1)) (ji16)) x15_2)) = true := decide_eq_true c25
                     clear c25
                     have H' := A_ H
                     clear H
                     have p332 : 0 ≤ (x15_2 : Int) := of_decide_eq_true (by first | (with_reducible assumption) | assumption)
                     have q332 : x15_2 < ((rd_L1 (rd_L2 l0_2 (rd l3 x21_1)) (ji16)).length : Int) := of_decide_eq_true (by first | (with_reducible assumption) | assumption)
                     obtain ⟨ad332, e332, hx332_0⟩ := Kd.at_int HR331_0.out x15_2 p332 q332
                     cases e332
                     replace hx332_0 := (HB.out.cell (World.block_lt_of_cell? w _ hx332_0)).trans hx332_0
                     replace p332 := eq_true p332
                     replace q332 := eq_true q332
                     have p333 : 0 ≤ ((rd l3 x21_1) : Int) := of_decide_eq_true (by first | (with_reducible assumption) | assumption)
                     have q333 : (rd l3 x21_1) < (l1.length : Int) := of_decide_eq_true (by first | (with_reducible assumption) | assumption)
                     obtain ⟨ad333, e333, hx333_0⟩ := Kd.at_int HR1.out (rd l3 x21_1) p333 q333
                     cases e333
                     replace hx333_0 := (HB.out.cell (World.block_lt_of_cell? w _ hx333_0)).trans hx333_0
                     replace p333 := eq_true p333
                     replace q333 := eq_true q333
                     go_wp2
                     repeat (go_quiet (fail); try go_wp2)
                     go_roundg k2
                     case measure => have := HK1.out; have := HK2.out; omega
                     case rel => exact ⟨(wrap64 (x15_2 - 1)), (by first | rfl | (simp; done) | (simp [*]; done)), H', ⟨by have := HK1.out; have := HK2.out; omega⟩, ⟨rq HO_10⟩, ⟨bq BK325⟩, ⟨hq HB⟩⟩
                    ·
                     rw [if_neg c25] at H
                     have c25b0 : decide ((rd l1 (rd l3 x21_1)) < (rd (rd_L1 (rd_L2 l0_2 (rd l3 x21_1)) (ji16)) x15_2)) = false := decide_eq_false c25
                     clear c25
                     by_cases c26 : (rd l3 x21_1) < (x10_1.length : Int)
                     ·
                      rw [if_pos c26] at H
                      have c26b0 : decide ((rd l3 x21_1) < (x10_1.length : Int)) = true := decide_eq_true c26
                      clear c26
                      obtain ⟨y334, hy334⟩ : ∃ y_ : List Int, y_ = (x10_1.set ((rd l3 x21_1) : Int).toNat x15_2) := ⟨_, rfl⟩
                      replace H : (impl_runs_taken.l0 k2 l1 a2 y334 (wrap64 (x11_1 + x15_2)) l3 (l3.length : Int) (wrap64 (x21_1 + 1)) a0_0 a0_1 l0_2) = some (r1, r2) := by first | (rw [hy334]; with_reducible exact H) | (have H2_ := (Option.bind_some _ _).symm.trans H; rw [hy334]; with_reducible exact H2_) | (have H2_ := (Option.bind_some _ _).symm.trans H; with_reducible exact H2_) | with_reducible exact H | (rw [hy334]; exact H) | exact H
                      have Ny334 := A_ hy334
                      clear hy334
                      have H' := A_ H
                      clear H
                      have p332 : 0 ≤ (x15_2 : Int) := of_decide_eq_true (by first | (with_reducible assumption) | assumption)
                      have q332 : x15_2 < ((rd_L1 (rd_L2 l0_2 (rd l3 x21_1)) (ji16)).length : Int) := of_decide_eq_true (by first | (with_reducible assumption) | assumption)
                      obtain ⟨ad332, e332, hx332_0⟩ := Kd.at_int HR331_0.out x15_2 p332 q332
                      cases e332
                      replace hx332_0 := (HB.out.cell (World.block_lt_of_cell? w _ hx332_0)).trans hx332_0
                      replace p332 := eq_true p332
                      replace q332 := eq_true q332
                      have p333 : 0 ≤ ((rd l3 x21_1) : Int) := of_decide_eq_true (by first | (with_reducible assumption) | assumption)
                      have q333 : (rd l3 x21_1) < (l1.length : Int) := of_decide_eq_true (by first | (with_reducible assumption) | assumption)
                      obtain ⟨ad333, e333, hx333_0⟩ := Kd.at_int HR1.out (rd l3 x21_1) p333 q333
                      cases e333
                      replace hx333_0 := (HB.out.cell (World.block_lt_of_cell? w _ hx333_0)).trans hx333_0
                      replace p333 := eq_true p333
                      replace q333 := eq_true q333
                      have p27 : 0 ≤ ((rd l3 x21_1) : Int) := of_decide_eq_true (by first | (with_reducible assumption) | assumption)
                      have q27 : ((rd l3 x21_1) : Int) < ((x10_1.length : Int) : Int) := of_decide_eq_true (by first | (with_reducible assumption) | assumption)
                      obtain ⟨go27, co27, eo27, gb27, gl27, cl27, HG27⟩ := Kd.R_form HO_10.out (by omega)
                      (first | cases eo27 | (injection eo27 with ea_ en_ ec_; (first | subst ea_ | (injection ea_ with ea_; subst ea_)); subst ec_; clear en_))
                      have GB27 := A_ gb27
                      have GG27 := A_ HG27
                      clear gb27 gl27 HG27
                      obtain ⟨hx27_0, hf27_0⟩ := Kd.R_celln 0 HO_10.out ((rd l3 x21_1) : Int) p27 q27
                      replace p27 := eq_true p27
                      replace q27 := eq_true q27
                      have HP28 := Kd.R_putg HO_10.out ((rd l3 x21_1) : Int) x15_2
                      go_wp2_with (first | ((with_reducible refine gate_store (t := 3) (p := 65) rfl ?_); (try (rw [drewN_self wr]; generalize hq_ : World.drewN wr _ = wr; have n0_ := A_ (Kd.R_at hq_ HO_10.out); have n1_ := A_ (blk_at hq_ BK325.out); have n2_ := A_ (below_at hq_ HB.out); clear hq_ HO_10 BK325 HB; have HO_10 := n0_; have BK325 := n1_; have HB := n2_; clear n0_ n1_ n2_; (try (have HP28 := Kd.R_putg HO_10.out ((rd l3 x21_1) : Int) x15_2)); (try (obtain ⟨hx27_0, hf27_0⟩ := Kd.R_celln 0 HO_10.out ((rd l3 x21_1) : Int) (of_eq_true p27) (of_eq_true q27))))); refine store_event (t := 3) (p := 65) (v := ?vo_w29) (w1 := (wr.setCell ⟨go27, ((rd l3 x21_1) : Int).toNat, none⟩ (.int .i64 x15_2))) ?hg ?ho ?hn ?hr ?_; (case ho => rfl); (case hg => rfl); (case hn => rfl); (case hr => first | (go_simp; done) | (go_simp; rfl)); intro w29 hw; have hg : wr.grownBy w29 (some go27) := (by rw [hw]; exact HP28.2); have hp_ : Kd.R (Kd.int .i64) 3 w29 w.heap.size (fun _ => True) (.slice (some ⟨go27, 0, none⟩) x10_1.length co27) y334 := (by rw [hw, Ny334.out]; exact HP28.1); clear HP28; have n0_ := A_ (hp_); have n1_ := A_ (blk_grown (g := gb325) (o := .cells #[.int .i64 a0_0, .bool a0_1, .slice (some ad330) l0_2.length c0_2] 53 (0, 0)) (bq BK325) hg (Kd.R_ne HO_10.out BK325.out (by decide))); have n2_ := A_ ((by rw [hw]; exact below_set (HB.out) GB27.out : Below w.heap.size w w29)); clear HO_10; clear BK325; clear HB; have HO_10 := n0_; have BK325 := n1_; have HB := n2_; clear n0_ n1_ n2_; clear hg hw hp_))
                      repeat (go_quiet (first | ((with_reducible refine gate_store (t := 3) (p := 65) rfl ?_); (try (rw [drewN_self wr]; generalize hq_ : World.drewN wr _ = wr; have n0_ := A_ (Kd.R_at hq_ HO_10.out); have n1_ := A_ (blk_at hq_ BK325.out); have n2_ := A_ (below_at hq_ HB.out); clear hq_ HO_10 BK325 HB; have HO_10 := n0_; have BK325 := n1_; have HB := n2_; clear n0_ n1_ n2_; (try (have HP28 := Kd.R_putg HO_10.out ((rd l3 x21_1) : Int) x15_2)); (try (obtain ⟨hx27_0, hf27_0⟩ := Kd.R_celln 0 HO_10.out ((rd l3 x21_1) : Int) (of_eq_true p27) (of_eq_true q27))))); refine store_event (t := 3) (p := 65) (v := ?vo_w29) (w1 := (wr.setCell ⟨go27, ((rd l3 x21_1) : Int).toNat, none⟩ (.int .i64 x15_2))) ?hg ?ho ?hn ?hr ?_; (case ho => rfl); (case hg => rfl); (case hn => rfl); (case hr => first | (go_simp; done) | (go_simp; rfl)); intro w29 hw; have hg : wr.grownBy w29 (some go27) := (by rw [hw]; exact HP28.2); have hp_ : Kd.R (Kd.int .i64) 3 w29 w.heap.size (fun _ => True) (.slice (some ⟨go27, 0, none⟩) x10_1.length co27) y334 := (by rw [hw, Ny334.out]; exact HP28.1); clear HP28; have n0_ := A_ (hp_); have n1_ := A_ (blk_grown (g := gb325) (o := .cells #[.int .i64 a0_0, .bool a0_1, .slice (some ad330) l0_2.length c0_2] 53 (0, 0)) (bq BK325) hg (Kd.R_ne HO_10.out BK325.out (by decide))); have n2_ := A_ ((by rw [hw]; exact below_set (HB.out) GB27.out : Below w.heap.size w w29)); clear HO_10; clear BK325; clear HB; have HO_10 := n0_; have BK325 := n1_; have HB := n2_; clear n0_ n1_ n2_; clear hg hw hp_)); try go_wp2_with (first | ((with_reducible refine gate_store (t := 3) (p := 65) rfl ?_); (try (rw [drewN_self wr]; generalize hq_ : World.drewN wr _ = wr; have n0_ := A_ (Kd.R_at hq_ HO_10.out); have n1_ := A_ (blk_at hq_ BK325.out); have n2_ := A_ (below_at hq_ HB.out); clear hq_ HO_10 BK325 HB; have HO_10 := n0_; have BK325 := n1_; have HB := n2_; clear n0_ n1_ n2_; (try (have HP28 := Kd.R_putg HO_10.out ((rd l3 x21_1) : Int) x15_2)); (try (obtain ⟨hx27_0, hf27_0⟩ := Kd.R_celln 0 HO_10.out ((rd l3 x21_1) : Int) (of_eq_true p27) (of_eq_true q27))))); refine store_event (t := 3) (p := 65) (v := ?vo_w29) (w1 := (wr.setCell ⟨go27, ((rd l3 x21_1) : Int).toNat, none⟩ (.int .i64 x15_2))) ?hg ?ho ?hn ?hr ?_; (case ho => rfl); (case hg => rfl); (case hn => rfl); (case hr => first | (go_simp; done) | (go_simp; rfl)); intro w29 hw; have hg : wr.grownBy w29 (some go27) := (by rw [hw]; exact HP28.2); have hp_ : Kd.R (Kd.int .i64) 3 w29 w.heap.size (fun _ => True) (.slice (some ⟨go27, 0, none⟩) x10_1.length co27) y334 := (by rw [hw, Ny334.out]; exact HP28.1); clear HP28; have n0_ := A_ (hp_); have n1_ := A_ (blk_grown (g := gb325) (o := .cells #[.int .i64 a0_0, .bool a0_1, .slice (some ad330) l0_2.length c0_2] 53 (0, 0)) (bq BK325) hg (Kd.R_ne HO_10.out BK325.out (by decide))); have n2_ := A_ ((by rw [hw]; exact below_set (HB.out) GB27.out : Below w.heap.size w w29)); clear HO_10; clear BK325; clear HB; have HO_10 := n0_; have BK325 := n1_; have HB := n2_; clear n0_ n1_ n2_; clear hg hw hp_)))
                      go_roundg k2
                      case measure => have := HK1.out; have := HK2.out; omega
                      case rel => exact ⟨(y334), (wrap64 (x11_1 + x15_2)), (wrap64 (x21_1 + 1)), (by first | rfl | (simp; done) | (simp [*]; done)), (by first | rfl | (simp; done) | (simp [*]; done)), H', ⟨by have := HK1.out; have := HK2.out; omega⟩, ⟨rq HO_10⟩, ⟨bq BK325⟩, ⟨hq HB⟩⟩
                     ·
                      rw [if_neg c26] at H
                      exact absurd H (by simp)
                   ·
                    rw [if_neg c24] at H
                    exact absurd H (by simp)
                  ·
                   rw [if_neg c23] at H
                   exact absurd H (by simp)
                 ·
                  rw [if_neg c22] at H
                  exact absurd H (by simp)
                ·
                 rw [if_neg c21] at H
                 exact absurd H (by simp)
               ·
                rw [if_neg c20] at H
                have c20b0 : decide (0 < x15_2) = false := decide_eq_false c20
                clear c20
                by_cases c30 : 0 ≤ (rd l3 x21_1)
                ·
                 rw [if_pos c30] at H
                 have c30b0 : decide (0 ≤ (rd l3 x21_1)) = true := decide_eq_true c30
                 clear c30
                 by_cases c31 : (rd l3 x21_1) < (x10_1.length : Int)
                 ·
                  rw [if_pos c31] at H
                  have c31b0 : decide ((rd l3 x21_1) < (x10_1.length : Int)) = true := decide_eq_true c31
                  clear c31
                  obtain ⟨y335, hy335⟩ : ∃ y_ : List Int, y_ = (x10_1.set ((rd l3 x21_1) : Int).toNat x15_2) := ⟨_, rfl⟩
                  replace H : (impl_runs_taken.l0 k2 l1 a2 y335 (wrap64 (x11_1 + x15_2)) l3 (l3.length : Int) (wrap64 (x21_1 + 1)) a0_0 a0_1 l0_2) = some (r1, r2) := by first | (rw [hy335]; with_reducible exact H) | (have H2_ := (Option.bind_some _ _).symm.trans H; rw [hy335]; with_reducible exact H2_) | (have H2_ := (Option.bind_some _ _).symm.trans H; with_reducible exact H2_) | with_reducible exact H | (rw [hy335]; exact H) | exact H
                  have Ny335 := A_ hy335
                  clear hy335
                  have H' := A_ H
                  clear H
                  have p32 : 0 ≤ ((rd l3 x21_1) : Int) := of_decide_eq_true (by first | (with_reducible assumption) | assumption)
                  have q32 : ((rd l3 x21_1) : Int) < ((x10_1.length : Int) : Int) := of_decide_eq_true (by first | (with_reducible assumption) | assumption)
                  obtain ⟨go32, co32, eo32, gb32, gl32, cl32, HG32⟩ := Kd.R_form HO_10.out (by omega)
                  (first | cases eo32 | (injection eo32 with ea_ en_ ec_; (first | subst ea_ | (injection ea_ with ea_; subst ea_)); subst ec_; clear en_))
                  have GB32 := A_ gb32
                  have GG32 := A_ HG32
                  clear gb32 gl32 HG32
                  obtain ⟨hx32_0, hf32_0⟩ := Kd.R_celln 0 HO_10.out ((rd l3 x21_1) : Int) p32 q32
                  replace p32 := eq_true p32
                  replace q32 := eq_true q32
                  have HP33 := Kd.R_putg HO_10.out ((rd l3 x21_1) : Int) x15_2
                  go_wp2_with (first | ((with_reducible refine gate_store (t := 3) (p := 65) rfl ?_); (try (rw [drewN_self wr]; generalize hq_ : World.drewN wr _ = wr; have n0_ := A_ (Kd.R_at hq_ HO_10.out); have n1_ := A_ (blk_at hq_ BK325.out); have n2_ := A_ (below_at hq_ HB.out); clear hq_ HO_10 BK325 HB; have HO_10 := n0_; have BK325 := n1_; have HB := n2_; clear n0_ n1_ n2_; (try (have HP33 := Kd.R_putg HO_10.out ((rd l3 x21_1) : Int) x15_2)); (try (obtain ⟨hx32_0, hf32_0⟩ := Kd.R_celln 0 HO_10.out ((rd l3 x21_1) : Int) (of_eq_true p32) (of_eq_true q32))))); refine store_event (t := 3) (p := 65) (v := ?vo_w34) (w1 := (wr.setCell ⟨go32, ((rd l3 x21_1) : Int).toNat, none⟩ (.int .i64 x15_2))) ?hg ?ho ?hn ?hr ?_; (case ho => rfl); (case hg => rfl); (case hn => rfl); (case hr => first | (go_simp; done) | (go_simp; rfl)); intro w34 hw; have hg : wr.grownBy w34 (some go32) := (by rw [hw]; exact HP33.2); have hp_ : Kd.R (Kd.int .i64) 3 w34 w.heap.size (fun _ => True) (.slice (some ⟨go32, 0, none⟩) x10_1.length co32) y335 := (by rw [hw, Ny335.out]; exact HP33.1); clear HP33; have n0_ := A_ (hp_); have n1_ := A_ (blk_grown (g := gb325) (o := .cells #[.int .i64 a0_0, .bool a0_1, .slice (some ad330) l0_2.length c0_2] 53 (0, 0)) (bq BK325) hg (Kd.R_ne HO_10.out BK325.out (by decide))); have n2_ := A_ ((by rw [hw]; exact below_set (HB.out) GB32.out : Below w.heap.size w w34)); clear HO_10; clear BK325; clear HB; have HO_10 := n0_; have BK325 := n1_; have HB := n2_; clear n0_ n1_ n2_; clear hg hw hp_))
                  repeat (go_quiet (first | ((with_reducible refine gate_store (t := 3) (p := 65) rfl ?_); (try (rw [drewN_self wr]; generalize hq_ : World.drewN wr _ = wr; have n0_ := A_ (Kd.R_at hq_ HO_10.out); have n1_ := A_ (blk_at hq_ BK325.out); have n2_ := A_ (below_at hq_ HB.out); clear hq_ HO_10 BK325 HB; have HO_10 := n0_; have BK325 := n1_; have HB := n2_; clear n0_ n1_ n2_; (try (have HP33 := Kd.R_putg HO_10.out ((rd l3 x21_1) : Int) x15_2)); (try (obtain ⟨hx32_0, hf32_0⟩ := Kd.R_celln 0 HO_10.out ((rd l3 x21_1) : Int) (of_eq_true p32) (of_eq_true q32))))); refine store_event (t := 3) (p := 65) (v := ?vo_w34) (w1 := (wr.setCell ⟨go32, ((rd l3 x21_1) : Int).toNat, none⟩ (.int .i64 x15_2))) ?hg ?ho ?hn ?hr ?_; (case ho => rfl); (case hg => rfl); (case hn => rfl); (case hr => first | (go_simp; done) | (go_simp; rfl)); intro w34 hw; have hg : wr.grownBy w34 (some go32) := (by rw [hw]; exact HP33.2); have hp_ : Kd.R (Kd.int .i64) 3 w34 w.heap.size (fun _ => True) (.slice (some ⟨go32, 0, none⟩) x10_1.length co32) y335 := (by rw [hw, Ny335.out]; exact HP33.1); clear HP33; have n0_ := A_ (hp_); have n1_ := A_ (blk_grown (g := gb325) (o := .cells #[.int .i64 a0_0, .bool a0_1, .slice (some ad330) l0_2.length c0_2] 53 (0, 0)) (bq BK325) hg (Kd.R_ne HO_10.out BK325.out (by decide))); have n2_ := A_ ((by rw [hw]; exact below_set (HB.out) GB32.out : Below w.heap.size w w34)); clear HO_10; clear BK325; clear HB; have HO_10 := n0_; have BK325 := n1_; have HB := n2_; clear n0_ n1_ n2_; clear hg hw hp_)); try go_wp2_with (first | ((with_reducible refine gate_store (t := 3) (p := 65) rfl ?_); (try (rw [drewN_self wr]; generalize hq_ : World.drewN wr _ = wr; have n0_ := A_ (Kd.R_at hq_ HO_10.out); have n1_ := A_ (blk_at hq_ BK325.out); have n2_ := A_ (below_at hq_ HB.out); clear hq_ HO_10 BK325 HB; have HO_10 := n0_; have BK325 := n1_; have HB := n2_; clear n0_ n1_ n2_; (try (have HP33 := Kd.R_putg HO_10.out ((rd l3 x21_1) : Int) x15_2)); (try (obtain ⟨hx32_0, hf32_0⟩ := Kd.R_celln 0 HO_10.out ((rd l3 x21_1) : Int) (of_eq_true p32) (of_eq_true q32))))); refine store_event (t := 3) (p := 65) (v := ?vo_w34) (w1 := (wr.setCell ⟨go32, ((rd l3 x21_1) : Int).toNat, none⟩ (.int .i64 x15_2))) ?hg ?ho ?hn ?hr ?_; (case ho => rfl); (case hg => rfl); (case hn => rfl); (case hr => first | (go_simp; done) | (go_simp; rfl)); intro w34 hw; have hg : wr.grownBy w34 (some go32) := (by rw [hw]; exact HP33.2); have hp_ : Kd.R (Kd.int .i64) 3 w34 w.heap.size (fun _ => True) (.slice (some ⟨go32, 0, none⟩) x10_1.length co32) y335 := (by rw [hw, Ny335.out]; exact HP33.1); clear HP33; have n0_ := A_ (hp_); have n1_ := A_ (blk_grown (g := gb325) (o := .cells #[.int .i64 a0_0, .bool a0_1, .slice (some ad330) l0_2.length c0_2] 53 (0, 0)) (bq BK325) hg (Kd.R_ne HO_10.out BK325.out (by decide))); have n2_ := A_ ((by rw [hw]; exact below_set (HB.out) GB32.out : Below w.heap.size w w34)); clear HO_10; clear BK325; clear HB; have HO_10 := n0_; have BK325 := n1_; have HB := n2_; clear n0_ n1_ n2_; clear hg hw hp_)))
                  go_roundg k2
                  case measure => have := HK1.out; have := HK2.out; omega
                  case rel => exact ⟨(y335), (wrap64 (x11_1 + x15_2)), (wrap64 (x21_1 + 1)), (by first | rfl | (simp; done) | (simp [*]; done)), (by first | rfl | (simp; done) | (simp [*]; done)), H', ⟨by have := HK1.out; have := HK2.out; omega⟩, ⟨rq HO_10⟩, ⟨bq BK325⟩, ⟨hq HB⟩⟩
                 ·
                  rw [if_neg c31] at H
                  exact absurd H (by simp)
                ·
                 rw [if_neg c30] at H
                 exact absurd H (by simp)
            ·
             rw [if_neg c18] at H
             exact absurd H (by simp)
           ·
            rw [if_neg c17] at H
            exact absurd H (by simp)
         ·
          rw [if_neg c14] at H
          exact absurd H (by simp)
        ·
         rw [if_neg c13] at H
         exact absurd H (by simp)
       ·
        rw [if_neg c12] at H
        exact absurd H (by simp)
      ·
       rw [if_neg c11] at H
       exact absurd H (by simp)
     ·
      rw [if_neg c10] at H
      have c10b0 : decide (x21_1 < (l3.length : Int)) = false := decide_eq_false c10
      clear c10
      simp only [Option.some.injEq, Prod.mk.injEq] at H
      obtain ⟨rfl, rfl⟩ := H
      have hcz35_0 : wr.cell? ⟨gb325, 0, none⟩ = some (.int .i64 a0_0) := bc BK325 0
      have hcz35_1 : wr.cell? ⟨gb325, 1, none⟩ = some (.bool a0_1) := bc BK325 1
      have hcz35_2 : wr.cell? ⟨gb325, 2, none⟩ = some (.slice A0_2 l0_2.length c0_2) := bc BK325 2
      have hfz35_0 := blk_frozen BK325.out 0
      have hfz35_1 := blk_frozen BK325.out 1
      have hfz35_2 := blk_frozen BK325.out 2
      go_wp2
      repeat (go_quiet (fail); try go_wp2)
      go_ret2
      exact ⟨_, rt, rq HO_10, hq HB⟩
  ·
   rw [if_neg c6] at H
   exact absurd H (by simp)
 ·
  rw [if_neg c5] at H
  exact absurd H (by simp)

end Go.Proofs.Ythnaghigpgfchaa.PFnExactTakenRuns
