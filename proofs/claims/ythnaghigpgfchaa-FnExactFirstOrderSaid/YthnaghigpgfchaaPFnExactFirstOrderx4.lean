-- Printed, and told shorter by this session's program shrink.py.
-- Printed by this session's program myprint.py.
import Derived.Test.YthnaghigpgfchaaPFnExactFirstOrderx0
import Derived.Test.YthnaghigpgfchaaPFnExactFirstOrderx1
import Derived.Test.YthnaghigpgfchaaPFnExactFirstOrderx2
import Derived.Test.YthnaghigpgfchaaPFnExactFirstOrderx3
namespace Go.Proofs.Ythnaghigpgfchaa.PFnExactFirstOrder
open Go.RowKit Go.Proofs.Ythnaghigpgfchaa.Own Go.Proofs.YthnaghigpgfchaaW.PrintWords Go.Proofs.YthnaghigpgfchaaW.PrintLast Go.Proofs.YthnaghigpgfchaaW.PrintMore
attribute [local go_sem] max2_int min2_int max_two min_two max_three min_three max_four min_four   -- for this text's walks alone
set_option linter.unusedVariables false
set_option linter.unusedSimpArgs false

/-! ### spec_TourTime: function 58 -/
mutual
def spec_TourTime.l0 : Nat → Int → List Int → Int → Int → Bool → Option (Int × Bool)
  | 0, _, _, _, _, _ => none
  | k + 1, x1, x2, x8, x146000, x146001 => if x8 < (x2.length : Int) then (if 0 ≤ x8 then ((spec_l2Place.f x146000 x146001 (rd x2 x8)).bind fun t148 => (if t148 = true then (spec_TourTime.l0 k x1 x2 (wrap64 (x8 + 1)) x146000 x146001) else (some (0, false)))) else (none)) else (if x146001 = true then (spec_TourTime.l2 k x1 x2 x146000 0 x146000 x146001) else (spec_TourTime.l1 k x1 x2 0 0 0))
def spec_TourTime.l2 : Nat → Int → List Int → Int → Int → Int → Bool → Option (Int × Bool)
  | 0, _, _, _, _, _, _ => none
  | k + 1, x1, x2, x12, x13, x146000, x146001 => if x13 < x146000 then (spec_TourTime.l3 k x1 x2 x12 x13 0 0 x146000 x146001) else (some (x12, true))
def spec_TourTime.l3 : Nat → Int → List Int → Int → Int → Int → Int → Int → Bool → Option (Int × Bool)
  | 0, _, _, _, _, _, _, _, _ => none
  | k + 1, x1, x2, x12, x13, x14, x15, x146000, x146001 => if x15 < (x2.length : Int) then (if 0 ≤ x15 then ((spec_l2Far.f x146000 x146001 x1 (rd x2 x15)).bind fun t157 => (if t157 > x13 then ((spec_l1Most.f x14 (wrap64 (x146000 - t157))).bind fun t158 => (spec_TourTime.l3 k x1 x2 x12 x13 t158 (wrap64 (x15 + 1)) x146000 x146001)) else (spec_TourTime.l3 k x1 x2 x12 x13 x14 (wrap64 (x15 + 1)) x146000 x146001))) else (none)) else ((spec_l2Tour.f x14 x13).bind fun t154 => ((spec_l1Least.f x12 t154).bind fun t155 => (spec_TourTime.l2 k x1 x2 t155 (wrap64 (x13 + 1)) x146000 x146001)))
def spec_TourTime.l1 : Nat → Int → List Int → Int → Int → Int → Option (Int × Bool)
  | 0, _, _, _, _, _ => none
  | k + 1, x1, x2, x9, x10, x11 => if x11 < (x2.length : Int) then (if 0 ≤ x11 then ((spec_l1Most.f x9 (wrap64 (x1 - (rd x2 x11)))).bind fun t150 => ((spec_l1Most.f x10 (wrap64 ((rd x2 x11) - x1))).bind fun t152 => (spec_TourTime.l1 k x1 x2 t150 t152 (wrap64 (x11 + 1))))) else (none)) else ((spec_l2Tour.f x9 x10).bind fun t153 => (some (t153, true)))
end
def spec_TourTime.f (k : Nat) (a0_0 : Int) (a0_1 : Bool) (a1 : Int) (l2 : List Int) : Option (Int × Bool) := (spec_l2Place.f a0_0 a0_1 a1).bind fun t146 => (if t146 = true then (spec_TourTime.l0 k a1 l2 0 a0_0 a0_1) else (some (0, false)))
theorem spec_TourTime.mono_l : ∀ k, (∀ y0 y1 y2 y3 y4, LeO (spec_TourTime.l0 k y0 y1 y2 y3 y4) (spec_TourTime.l0 (k + 1) y0 y1 y2 y3 y4)) ∧ (∀ y0 y1 y2 y3 y4 y5, LeO (spec_TourTime.l2 k y0 y1 y2 y3 y4 y5) (spec_TourTime.l2 (k + 1) y0 y1 y2 y3 y4 y5)) ∧ (∀ y0 y1 y2 y3 y4 y5 y6 y7, LeO (spec_TourTime.l3 k y0 y1 y2 y3 y4 y5 y6 y7) (spec_TourTime.l3 (k + 1) y0 y1 y2 y3 y4 y5 y6 y7)) ∧ (∀ y0 y1 y2 y3 y4, LeO (spec_TourTime.l1 k y0 y1 y2 y3 y4) (spec_TourTime.l1 (k + 1) y0 y1 y2 y3 y4))
  | 0 => ⟨fun _ _ _ _ _ r h => by simp [spec_TourTime.l0] at h, fun _ _ _ _ _ _ r h => by simp [spec_TourTime.l2] at h, fun _ _ _ _ _ _ _ _ r h => by simp [spec_TourTime.l3] at h, fun _ _ _ _ _ r h => by simp [spec_TourTime.l1] at h⟩
  | k + 1 => by
    obtain ⟨ih0, ih1, ih2, ih3⟩ := spec_TourTime.mono_l k
    refine ⟨?_, ?_, ?_, ?_⟩
    · intro y0 y1 y2 y3 y4
      unfold spec_TourTime.l0
      repeat' first
      | (with_reducible exact ih0 _ _ _ _ _)
      | (with_reducible exact ih1 _ _ _ _ _ _)
      | (with_reducible exact ih2 _ _ _ _ _ _ _ _)
      | (with_reducible exact ih3 _ _ _ _ _)
      | (with_reducible exact LeO.refl _)
      | (with_reducible exact LeO.none _)
      | (with_reducible refine LeO.ite ?_ ?_)
      | (with_reducible refine LeO.bind ?_ (fun _ => ?_))
      | exact ih0 _ _ _ _ _
      | exact ih1 _ _ _ _ _ _
      | exact ih2 _ _ _ _ _ _ _ _
      | exact ih3 _ _ _ _ _
      | exact LeO.none _
      | refine LeO.ite ?_ ?_
      | refine LeO.bind ?_ (fun _ => ?_)
    · intro y0 y1 y2 y3 y4 y5
      unfold spec_TourTime.l2
      repeat' first
      | (with_reducible exact ih0 _ _ _ _ _)
      | (with_reducible exact ih1 _ _ _ _ _ _)
      | (with_reducible exact ih2 _ _ _ _ _ _ _ _)
      | (with_reducible exact ih3 _ _ _ _ _)
      | (with_reducible exact LeO.refl _)
      | (with_reducible exact LeO.none _)
      | (with_reducible refine LeO.ite ?_ ?_)
      | (with_reducible refine LeO.bind ?_ (fun _ => ?_))
      | exact ih0 _ _ _ _ _
      | exact ih1 _ _ _ _ _ _
      | exact ih2 _ _ _ _ _ _ _ _
      | exact ih3 _ _ _ _ _
      | exact LeO.none _
      | refine LeO.ite ?_ ?_
      | refine LeO.bind ?_ (fun _ => ?_)
    · intro y0 y1 y2 y3 y4 y5 y6 y7
      unfold spec_TourTime.l3
      repeat' first
      | (with_reducible exact ih0 _ _ _ _ _)
      | (with_reducible exact ih1 _ _ _ _ _ _)
      | (with_reducible exact ih2 _ _ _ _ _ _ _ _)
      | (with_reducible exact ih3 _ _ _ _ _)
      | (with_reducible exact LeO.refl _)
      | (with_reducible exact LeO.none _)
      | (with_reducible refine LeO.ite ?_ ?_)
      | (with_reducible refine LeO.bind ?_ (fun _ => ?_))
      | exact ih0 _ _ _ _ _
      | exact ih1 _ _ _ _ _ _
      | exact ih2 _ _ _ _ _ _ _ _
      | exact ih3 _ _ _ _ _
      | exact LeO.none _
      | refine LeO.ite ?_ ?_
      | refine LeO.bind ?_ (fun _ => ?_)
    · intro y0 y1 y2 y3 y4
      unfold spec_TourTime.l1
      repeat' first
      | (with_reducible exact ih0 _ _ _ _ _)
      | (with_reducible exact ih1 _ _ _ _ _ _)
      | (with_reducible exact ih2 _ _ _ _ _ _ _ _)
      | (with_reducible exact ih3 _ _ _ _ _)
      | (with_reducible exact LeO.refl _)
      | (with_reducible exact LeO.none _)
      | (with_reducible refine LeO.ite ?_ ?_)
      | (with_reducible refine LeO.bind ?_ (fun _ => ?_))
      | exact ih0 _ _ _ _ _
      | exact ih1 _ _ _ _ _ _
      | exact ih2 _ _ _ _ _ _ _ _
      | exact ih3 _ _ _ _ _
      | exact LeO.none _
      | refine LeO.ite ?_ ?_
      | refine LeO.bind ?_ (fun _ => ?_)
theorem spec_TourTime.mono : ∀ a0 a1 a2 a3 k, LeO (spec_TourTime.f k a0 a1 a2 a3) (spec_TourTime.f (k + 1) a0 a1 a2 a3) := by
  intro a0 a1 a2 a3 k
  obtain ⟨ih0, ih1, ih2, ih3⟩ := spec_TourTime.mono_l k
  unfold spec_TourTime.f
  repeat' first
      | (with_reducible exact ih0 _ _ _ _ _)
      | (with_reducible exact ih1 _ _ _ _ _ _)
      | (with_reducible exact ih2 _ _ _ _ _ _ _ _)
      | (with_reducible exact ih3 _ _ _ _ _)
      | (with_reducible exact LeO.refl _)
      | (with_reducible exact LeO.none _)
      | (with_reducible refine LeO.ite ?_ ?_)
      | (with_reducible refine LeO.bind ?_ (fun _ => ?_))
      | exact ih0 _ _ _ _ _
      | exact ih1 _ _ _ _ _ _
      | exact ih2 _ _ _ _ _ _ _ _
      | exact ih3 _ _ _ _ _
      | exact LeO.none _
      | refine LeO.ite ?_ ?_
      | refine LeO.bind ?_ (fun _ => ?_)
def spec_TourTime.T24 : Bool × List (List Nat × List Nat) := (true, [([], []), ([], []), ([], []), ([], []), ([2, 3], [2, 3]), ([4], [4]), ([0, 1, 5], [0, 1, 5]), ([6, 6, 0, 1, 2, 3, 4, 5, 6], [6])])
def spec_TourTime.B24 : List Nat := [0, 0, 0, 0, 12, 28, 63, 127]
theorem spec_TourTime.tab24 : rtab .any (opsOf Try.f58 24) = spec_TourTime.T24 := by kernel_rfl
theorem spec_TourTime.bits24 : waitsOk spec_TourTime.T24.2 spec_TourTime.B24 = true := by kernel_rfl
set_option maxHeartbeats 8000000 in
set_option maxRecDepth 100000 in
theorem spec_TourTime.calls (k : Nat) (a0_0 : Int) (a0_1 : Bool) (a1 : Int) (A2 : Option Addr) (c2 : Nat) (l2 : List Int) (r1 : Int) (r2 : Bool) (w : World) (hr2 : Kd.C (Kd.int .i64) w A2 l2.length l2) (hc2 : l2.length ≤ c2) (h : spec_TourTime.f k a0_0 a0_1 a1 l2 = some (r1, r2)) :
    Calls Try.prog 58 #[.agg #[.int .i64 a0_0, .bool a0_1], .int .i64 a1, .slice A2 l2.length c2] w fun e w' => e = .returned (.tuple #[.int .i64 r1, .bool r2]) ∧ Below w.heap.size w w' := by
 have hu27 := Try.underlying27
 have HR2 := A_ hr2
 have HC2 := A_ hc2
 clear hr2 hc2
 have HB := A_ (Below.refl w.heap.size w)
 have H : ((spec_l2Place.f a0_0 a0_1 a1).bind fun t146 => (if t146 = true then (spec_TourTime.l0 k a1 l2 0 a0_0 a0_1) else (some (0, false)))) = some (r1, r2) := h
 clear h
 replace H := Option.bind_eq_some_iff.mp H
 obtain ⟨t146, A40, H⟩ := H
 replace H : (if t146 = true then (spec_TourTime.l0 k a1 l2 0 a0_0 a0_1) else (some (0, false))) = some (r1, r2) := H
 have A4 := A_ A40
 clear A40
 by_cases c5 : t146 = true
 ·
  subst c5
  have H1 : (spec_TourTime.l0 k a1 l2 0 a0_0 a0_1) = some (r1, r2) := by rw [if_pos rfl] at H; exact H
  clear H
  have H := H1
  clear H1
  have H' := A_ H
  clear H
  go_enter Try.func58, Try.ntmps58
  go_wp2_with (first | ((with_reducible refine gate_dst (N := 3) rfl ?_); refine box_event ?hg (N := 3) ?hd (cs := #[.int .i64 a0_0, .bool a0_1]) (t := 27) ?hr ?_; (case hd => rfl); (case hg => rfl); (case hr => first | (go_simp; done) | (go_simp; rfl)); intro gb145 hg w6 hbox hb; have n0_ := A_ (below_step (hq HB) hb); have n1_ := A_ (hbox); have n2_ := A_ ((by rw [hg]; exact (below_size (hq HB)) : w.heap.size ≤ gb145)); have n3_ := A_ ((by rw [hg]; exact (below_size (hq HB)) : w.heap.size ≤ gb145)); clear HB; have HB := n0_; have BK145 := n1_; have GW145 := n2_; have GE145 := n3_; clear n0_ n1_ n2_ n3_; clear hb hbox hg; have hcz7_0 : w6.cell? ⟨gb145, 0, none⟩ = some (.int .i64 a0_0) := bc BK145 0; have hcz7_1 : w6.cell? ⟨gb145, 1, none⟩ = some (.bool a0_1) := bc BK145 1; have hfz7_0 := blk_frozen BK145.out 0; have hfz7_1 := blk_frozen BK145.out 1) | ((with_reducible refine gate_callee (f := 21) rfl ?_); refine goesL_ (some 19) rfl rfl Try.func21 (by kernel_rfl) rfl #[.agg #[.int .i64 a0_0, .bool a0_1], .int .i64 a1] rfl gq ?_; (with_reducible refine (spec_l2Place.calls a0_0 a0_1 a1 true _ A4.out).mono ?_); rintro e w8 ⟨rfl, hb⟩; refine ⟨_, rfl, ?_⟩; have n0_ := A_ (blk_below (bq BK145) hb); have n1_ := A_ (below_step (hq HB) hb); clear BK145; clear HB; have BK145 := n0_; have HB := n1_; clear n0_ n1_; (try clear hb); (try clear hb2); (try clear hk); (try clear hi)))
  go_loopg [8] k (fun kq v8 w' => ∃ (x8_1 : Int), v8 = .int .i64 x8_1 ∧ Aside0 (spec_TourTime.l0 kq a1 l2 x8_1 a0_0 a0_1 = some (r1, r2)) ∧ Aside0 (kq ≤ k) ∧ Aside0 (w'.heap[gb145]? = some (.cells #[.int .i64 a0_0, .bool a0_1] 27 (0, 0))) ∧ Aside0 (Below w.heap.size w w'))
  case atStart => exact ⟨(0), (by first | rfl | (simp; done) | (simp [*]; done)), H', ⟨Nat.le_refl _⟩, ⟨bq BK145⟩, ⟨hq HB⟩⟩
  case round =>
   clear H'
   try clear c2
   try clear p2
   try clear c5
   try clear hcz7_0
   try clear hcz7_1
   try clear hfz7_0
   try clear hfz7_1
   obtain ⟨x8_1, rfl, HA, HK1, BK145, HB⟩ := hrel
   cases gk with
   | zero => exact absurd HA.out (by simp [spec_TourTime.l0])
   | succ k1 =>
    have H := HA.out
    clear HA
    simp only [spec_TourTime.l0] at H
    by_cases c9 : x8_1 < (l2.length : Int)
    ·
     rw [if_pos c9] at H
     have c9b0 : decide (x8_1 < (l2.length : Int)) = true := decide_eq_true c9
     clear c9
     by_cases c10 : 0 ≤ x8_1
     ·
      rw [if_pos c10] at H
      have c10b0 : decide (0 ≤ x8_1) = true := decide_eq_true c10
      clear c10
      replace H := Option.bind_eq_some_iff.mp H
      obtain ⟨t148, A110, H⟩ := H
      replace H : (if t148 = true then (spec_TourTime.l0 k1 a1 l2 (wrap64 (x8_1 + 1)) a0_0 a0_1) else (some (0, false))) = some (r1, r2) := H
      have A11 := A_ A110
      clear A110
      by_cases c12 : t148 = true
      ·
       subst c12
       have H1 : (spec_TourTime.l0 k1 a1 l2 (wrap64 (x8_1 + 1)) a0_0 a0_1) = some (r1, r2) := by rw [if_pos rfl] at H; exact H
       clear H
       have H := H1
       clear H1
       have H' := A_ H
       clear H
       try go_wp2
       have n0_ := A_ (blk_drew BK145.out)
       have n1_ := A_ (below_drew1 HB.out)
       clear BK145 HB; have BK145 := n0_; have HB := n1_; clear n0_ n1_
       have p147 : 0 ≤ (x8_1 : Int) := of_decide_eq_true (by first | (with_reducible assumption) | assumption)
       have q147 : x8_1 < (l2.length : Int) := of_decide_eq_true (by first | (with_reducible assumption) | assumption)
       obtain ⟨ad147, e147, hx147_0⟩ := Kd.at_int HR2.out x8_1 p147 q147
       have hw147_0 := hx147_0
       cases e147
       replace hx147_0 := (HB.out.cell (World.block_lt_of_cell? w _ hx147_0)).trans hx147_0
       replace p147 := eq_true p147
       replace q147 := eq_true q147
       refine start_ (n := 7) (S := fun w' => w'.cell? ⟨gb145, 0, none⟩ = some (.int .i64 a0_0) ∧ w'.cell? ⟨gb145, 1, none⟩ = some (.bool a0_1) ∧ w'.cell? (ad147.add (x8_1).toNat) = some (.int .i64 (rd l2 x8_1))) (ds := []) #[false, false, false, false, false, false, false] (by kernel_rfl) rfl rfl ⟨bc BK145 0, bc BK145 1, ((HB.out.cell (World.block_lt_of_cell? w _ hw147_0)).trans hw147_0)⟩ (fun hHeld => ?_)
       generalize wr.drew = w13 at BK145 HB hx147_0 hHeld ⊢
       refine pure_ (i := 1) (N := some 28) (v := ?_) (a' := ?_) #[false, true, false, false, false, false, false] rfl rfl (by kernel_rfl) (fun _ _ _ h => h) (Or.inl ⟨by rfl, ?_⟩) ?_ ?_
       rotate_left
       ·
        intro w'
        go_simp
        with_reducible rfl
       rotate_left
       ·
        simp only [Act.put, List.setIfInBounds_toArray, List.set_cons_zero, List.set_cons_succ, i64_w, i32_w]
        rfl
       refine pure_ (i := 2) (N := some 29) (v := ?_) (a' := ?_) #[false, true, true, false, false, false, false] rfl rfl (by kernel_rfl) (fun _ _ _ h => h) (Or.inl ⟨by rfl, ?_⟩) ?_ ?_
       rotate_left
       ·
        intro w'
        go_simp
        with_reducible rfl
       rotate_left
       ·
        simp only [Act.put, List.setIfInBounds_toArray, List.set_cons_zero, List.set_cons_succ, i64_w, i32_w]
        rfl
       refine pure_ (i := 3) (N := some 30) (v := ?_) (a' := ?_) #[false, true, true, true, false, false, false] rfl rfl (by kernel_rfl) (fun _ _ _ h => h) (Or.inl ⟨by rfl, ?_⟩) ?_ ?_
       rotate_left
       ·
        intro w'
        go_simp
        with_reducible rfl
       rotate_left
       ·
        simp only [Act.put, List.setIfInBounds_toArray, List.set_cons_zero, List.set_cons_succ, i64_w, i32_w]
        rfl
       refine take_ (i := 0) (N := some 27) (v := ?_) (a' := ?_) #[true, true, true, true, false, false, false] rfl rfl (by kernel_rfl) (fun _ _ _ h => h) (Or.inl ⟨by rfl, ?_⟩) hHeld ?_ ?_
       rotate_left
       ·
        rintro w' ⟨s0, s1, s2⟩
        go_simp
        with_reducible rfl
       rotate_left
       ·
        simp only [Act.put, List.setIfInBounds_toArray, List.set_cons_zero, List.set_cons_succ, i64_w, i32_w]
        rfl
       refine take_ (i := 4) (N := some 31) (v := ?_) (a' := ?_) #[true, true, true, true, true, false, false] rfl rfl (by kernel_rfl) (fun _ _ _ h => h) (Or.inl ⟨by rfl, ?_⟩) hHeld ?_ ?_
       rotate_left
       ·
        rintro w' ⟨s0, s1, s2⟩
        go_simp
        with_reducible rfl
       rotate_left
       ·
        simp only [Act.put, List.setIfInBounds_toArray, List.set_cons_zero, List.set_cons_succ, i64_w, i32_w]
        rfl
       refine one_ (i := 5) (N := some 32) #[true, true, true, true, true, true, false] rfl rfl (by kernel_rfl) (by decide) (fun K hK => ?_)
       refine goes_ Try.func21 (by kernel_rfl) rfl #[.agg #[.int .i64 a0_0, .bool a0_1], .int .i64 (rd l2 x8_1)] (by rfl) rfl rfl gq ?_
       with_reducible refine (spec_l2Place.calls a0_0 a0_1 (rd l2 x8_1) true _ A11.out).mono ?_
       rintro e w14 ⟨rfl, hb⟩
       refine ⟨_, rfl, ?_⟩
       have n0_ := A_ (blk_below (bq BK145) hb)
       have n1_ := A_ (below_step (hq HB) hb)
       clear BK145 HB; have BK145 := n0_; have HB := n1_; clear n0_ n1_; (try clear hb); (try clear hb2); (try clear hk); (try clear hi)
       refine hK.out _ _ ⟨bc BK145 0, bc BK145 1, ((HB.out.cell (World.block_lt_of_cell? w _ hw147_0)).trans hw147_0)⟩ (fun hHeld => ?_)
       clear hK K
       refine norm_ (a' := ?_) ?_ ?_
       rotate_left
       ·
        exact pq (d := some 32)
       refine pure_ (i := 6) (N := some 33) (v := ?_) (a' := ?_) #[true, true, true, true, true, true, true] rfl rfl (by kernel_rfl) (fun _ _ _ h => h) (Or.inl ⟨by rfl, ?_⟩) ?_ ?_
       rotate_left
       ·
        intro w'
        go_simp
        with_reducible rfl
       rotate_left
       ·
        simp only [Act.put, List.setIfInBounds_toArray, List.set_cons_zero, List.set_cons_succ, i64_w, i32_w]
        rfl
       refine done_ (by kernel_rfl) ?_
       try go_wp2
       go_roundg k1
       case measure => have := HK1.out; omega
       case rel => exact ⟨(wrap64 (x8_1 + 1)), (by first | rfl | (simp; done) | (simp [*]; done)), H', ⟨by have := HK1.out; omega⟩, ⟨bq BK145⟩, ⟨hq HB⟩⟩
      ·
       replace c12 := Bool.eq_false_iff.mpr c12
       subst c12
       have H1 : (some (0, false)) = some (r1, r2) := by rw [if_neg (show ¬ (false = true) by decide)] at H; exact H
       clear H
       have H := H1
       clear H1
       simp only [Option.some.injEq, Prod.mk.injEq] at H
       obtain ⟨rfl, rfl⟩ := H
       try go_wp2
       have n0_ := A_ (blk_drew BK145.out)
       have n1_ := A_ (below_drew1 HB.out)
       clear BK145 HB; have BK145 := n0_; have HB := n1_; clear n0_ n1_
       have p147 : 0 ≤ (x8_1 : Int) := of_decide_eq_true (by first | (with_reducible assumption) | assumption)
       have q147 : x8_1 < (l2.length : Int) := of_decide_eq_true (by first | (with_reducible assumption) | assumption)
       obtain ⟨ad147, e147, hx147_0⟩ := Kd.at_int HR2.out x8_1 p147 q147
       have hw147_0 := hx147_0
       cases e147
       replace hx147_0 := (HB.out.cell (World.block_lt_of_cell? w _ hx147_0)).trans hx147_0
       replace p147 := eq_true p147
       replace q147 := eq_true q147
       refine start_ (n := 7) (S := fun w' => w'.cell? ⟨gb145, 0, none⟩ = some (.int .i64 a0_0) ∧ w'.cell? ⟨gb145, 1, none⟩ = some (.bool a0_1) ∧ w'.cell? (ad147.add (x8_1).toNat) = some (.int .i64 (rd l2 x8_1))) (ds := []) #[false, false, false, false, false, false, false] (by kernel_rfl) rfl rfl ⟨bc BK145 0, bc BK145 1, ((HB.out.cell (World.block_lt_of_cell? w _ hw147_0)).trans hw147_0)⟩ (fun hHeld => ?_)
       generalize wr.drew = w15 at BK145 HB hx147_0 hHeld ⊢
       refine pure_ (i := 1) (N := some 28) (v := ?_) (a' := ?_) #[false, true, false, false, false, false, false] rfl rfl (by kernel_rfl) (fun _ _ _ h => h) (Or.inl ⟨by rfl, ?_⟩) ?_ ?_
       rotate_left
       ·
        intro w'
        go_simp
        with_reducible rfl
       rotate_left
       ·
        simp only [Act.put, List.setIfInBounds_toArray, List.set_cons_zero, List.set_cons_succ, i64_w, i32_w]
        rfl
       refine pure_ (i := 2) (N := some 29) (v := ?_) (a' := ?_) #[false, true, true, false, false, false, false] rfl rfl (by kernel_rfl) (fun _ _ _ h => h) (Or.inl ⟨by rfl, ?_⟩) ?_ ?_
       rotate_left
       ·
        intro w'
        go_simp
        with_reducible rfl
       rotate_left
       ·
        simp only [Act.put, List.setIfInBounds_toArray, List.set_cons_zero, List.set_cons_succ, i64_w, i32_w]
        rfl
       refine pure_ (i := 3) (N := some 30) (v := ?_) (a' := ?_) #[false, true, true, true, false, false, false] rfl rfl (by kernel_rfl) (fun _ _ _ h => h) (Or.inl ⟨by rfl, ?_⟩) ?_ ?_
       rotate_left
       ·
        intro w'
        go_simp
        with_reducible rfl
       rotate_left
       ·
        simp only [Act.put, List.setIfInBounds_toArray, List.set_cons_zero, List.set_cons_succ, i64_w, i32_w]
        rfl
       refine take_ (i := 0) (N := some 27) (v := ?_) (a' := ?_) #[true, true, true, true, false, false, false] rfl rfl (by kernel_rfl) (fun _ _ _ h => h) (Or.inl ⟨by rfl, ?_⟩) hHeld ?_ ?_
       rotate_left
       ·
        rintro w' ⟨s0, s1, s2⟩
        go_simp
        with_reducible rfl
       rotate_left
       ·
        simp only [Act.put, List.setIfInBounds_toArray, List.set_cons_zero, List.set_cons_succ, i64_w, i32_w]
        rfl
       refine take_ (i := 4) (N := some 31) (v := ?_) (a' := ?_) #[true, true, true, true, true, false, false] rfl rfl (by kernel_rfl) (fun _ _ _ h => h) (Or.inl ⟨by rfl, ?_⟩) hHeld ?_ ?_
       rotate_left
       ·
        rintro w' ⟨s0, s1, s2⟩
        go_simp
        with_reducible rfl
       rotate_left
       ·
        simp only [Act.put, List.setIfInBounds_toArray, List.set_cons_zero, List.set_cons_succ, i64_w, i32_w]
        rfl
       refine one_ (i := 5) (N := some 32) #[true, true, true, true, true, true, false] rfl rfl (by kernel_rfl) (by decide) (fun K hK => ?_)
       refine goes_ Try.func21 (by kernel_rfl) rfl #[.agg #[.int .i64 a0_0, .bool a0_1], .int .i64 (rd l2 x8_1)] (by rfl) rfl rfl gq ?_
       with_reducible refine (spec_l2Place.calls a0_0 a0_1 (rd l2 x8_1) false _ A11.out).mono ?_
       rintro e w16 ⟨rfl, hb⟩
       refine ⟨_, rfl, ?_⟩
       have n0_ := A_ (blk_below (bq BK145) hb)
       have n1_ := A_ (below_step (hq HB) hb)
       clear BK145 HB; have BK145 := n0_; have HB := n1_; clear n0_ n1_; (try clear hb); (try clear hb2); (try clear hk); (try clear hi)
       refine hK.out _ _ ⟨bc BK145 0, bc BK145 1, ((HB.out.cell (World.block_lt_of_cell? w _ hw147_0)).trans hw147_0)⟩ (fun hHeld => ?_)
       clear hK K
       refine norm_ (a' := ?_) ?_ ?_
       rotate_left
       ·
        exact pq (d := some 32)
       refine pure_ (i := 6) (N := some 33) (v := ?_) (a' := ?_) #[true, true, true, true, true, true, true] rfl rfl (by kernel_rfl) (fun _ _ _ h => h) (Or.inl ⟨by rfl, ?_⟩) ?_ ?_
       rotate_left
       ·
        intro w'
        go_simp
        with_reducible rfl
       rotate_left
       ·
        simp only [Act.put, List.setIfInBounds_toArray, List.set_cons_zero, List.set_cons_succ, i64_w, i32_w]
        rfl
       refine done_ (by kernel_rfl) ?_
       try go_wp2
       go_ret2
       exact ⟨rt, hq HB⟩
     ·
      rw [if_neg c10] at H
      exact absurd H (by simp)
    ·
     rw [if_neg c9] at H
     have c9b0 : decide (x8_1 < (l2.length : Int)) = false := decide_eq_false c9
     clear c9
     by_cases c17 : a0_1 = true
     ·
      subst c17
      have H1 : (spec_TourTime.l2 k1 a1 l2 a0_0 0 a0_0 true) = some (r1, r2) := by rw [if_pos rfl] at H; exact H
      clear H
      have H := H1
      clear H1
      have H' := A_ H
      clear H
      have hcz18_0 : wr.cell? ⟨gb145, 0, none⟩ = some (.int .i64 a0_0) := bc BK145 0
      have hcz18_1 : wr.cell? ⟨gb145, 1, none⟩ = some (.bool true) := bc BK145 1
      have hfz18_0 := blk_frozen BK145.out 0
      have hfz18_1 := blk_frozen BK145.out 1
      go_wp2
      go_loopg [12, 13] k1 (fun kq v12 v13 w' => ∃ (x12_2 : Int) (x13_2 : Int), v12 = .int .i64 x12_2 ∧ v13 = .int .i64 x13_2 ∧ Aside0 (spec_TourTime.l2 kq a1 l2 x12_2 x13_2 a0_0 true = some (r1, r2)) ∧ Aside0 (kq ≤ k1) ∧ Aside0 (w'.heap[gb145]? = some (.cells #[.int .i64 a0_0, .bool true] 27 (0, 0))) ∧ Aside0 (Below w.heap.size w w'))
      case atStart => exact ⟨(a0_0), (0), (by first | rfl | (simp; done) | (simp [*]; done)), (by first | rfl | (simp; done) | (simp [*]; done)), H', ⟨Nat.le_refl _⟩, ⟨bq BK145⟩, ⟨hq HB⟩⟩
      case round =>
       clear H'
       try clear c1
       try clear p1
       try clear q1
       try clear hx1
       try clear c2
       try clear p2
       try clear c5
       try clear p6
       try clear c9
       try clear c9b0
       try clear c10
       try clear c10b0
       try clear c12
       try clear p14
       try clear q14
       try clear hx14
       try clear c17
       try clear hcz18_0
       try clear hcz18_1
       try clear hcz7_0
       try clear hcz7_1
       try clear hfz18_0
       try clear hfz18_1
       try clear hfz7_0
       try clear hfz7_1
       try clear hx147_0
       try clear p147
       try clear p2
       try clear q147
       obtain ⟨x12_2, x13_2, rfl, rfl, HA, HK2, BK145, HB⟩ := hrel
       cases gk with
       | zero => exact absurd HA.out (by simp [spec_TourTime.l2])
       | succ k2 =>
        have H := HA.out
        clear HA
        simp only [spec_TourTime.l2] at H
        by_cases c19 : x13_2 < a0_0
        ·
         rw [if_pos c19] at H
         have c19b0 : decide (x13_2 < a0_0) = true := decide_eq_true c19
         clear c19
         have H' := A_ H
         clear H
         have hcz20_0 : wr.cell? ⟨gb145, 0, none⟩ = some (.int .i64 a0_0) := bc BK145 0
         have hcz20_1 : wr.cell? ⟨gb145, 1, none⟩ = some (.bool true) := bc BK145 1
         have hfz20_0 := blk_frozen BK145.out 0
         have hfz20_1 := blk_frozen BK145.out 1
         go_wp2
         go_loopg [14, 15] k2 (fun kq v14 v15 w' => ∃ (x14_3 : Int) (x15_3 : Int), v14 = .int .i64 x14_3 ∧ v15 = .int .i64 x15_3 ∧ Aside0 (spec_TourTime.l3 kq a1 l2 x12_2 x13_2 x14_3 x15_3 a0_0 true = some (r1, r2)) ∧ Aside0 (kq ≤ k2) ∧ Aside0 (w'.heap[gb145]? = some (.cells #[.int .i64 a0_0, .bool true] 27 (0, 0))) ∧ Aside0 (Below w.heap.size w w'))
         case atStart => exact ⟨(0), (0), (by first | rfl | (simp; done) | (simp [*]; done)), (by first | rfl | (simp; done) | (simp [*]; done)), H', ⟨Nat.le_refl _⟩, ⟨bq BK145⟩, ⟨hq HB⟩⟩
         case round =>
          clear H'
          try clear c1
          try clear p1
          try clear q1
          try clear hx1
          try clear c2
          try clear p2
          try clear c5
          try clear p6
          try clear c9
          try clear c9b0
          try clear c10
          try clear c10b0
          try clear c12
          try clear p14
          try clear q14
          try clear hx14
          try clear c17
          try clear c19
          try clear c19b0
          try clear hcz18_0
          try clear hcz18_1
          try clear hcz20_0
          try clear hcz20_1
          try clear hcz7_0
          try clear hcz7_1
          try clear hfz18_0
          try clear hfz18_1
          try clear hfz20_0
          try clear hfz20_1
          try clear hfz7_0
          try clear hfz7_1
          try clear hx147_0
          try clear p1
          try clear p14
          try clear p147
          try clear p2
          try clear p6
          try clear q1
          try clear q14
          try clear q147
          obtain ⟨x14_3, x15_3, rfl, rfl, HA, HK3, BK145, HB⟩ := hrel
          cases gk with
          | zero => exact absurd HA.out (by simp [spec_TourTime.l3])
          | succ k3 =>
           have H := HA.out
           clear HA
           simp only [spec_TourTime.l3] at H
           by_cases c21 : x15_3 < (l2.length : Int)
           ·
            rw [if_pos c21] at H
            have c21b0 : decide (x15_3 < (l2.length : Int)) = true := decide_eq_true c21
            clear c21
            by_cases c22 : 0 ≤ x15_3
            ·
             rw [if_pos c22] at H
             have c22b0 : decide (0 ≤ x15_3) = true := decide_eq_true c22
             clear c22
             replace H := Option.bind_eq_some_iff.mp H
             obtain ⟨t157, A230, H⟩ := H
             replace H : (if t157 > x13_2 then ((spec_l1Most.f x14_3 (wrap64 (a0_0 - t157))).bind fun t158 => (spec_TourTime.l3 k3 a1 l2 x12_2 x13_2 t158 (wrap64 (x15_3 + 1)) a0_0 true)) else (spec_TourTime.l3 k3 a1 l2 x12_2 x13_2 x14_3 (wrap64 (x15_3 + 1)) a0_0 true)) = some (r1, r2) := H
             have A23 := A_ A230
             clear A230
             by_cases c24 : t157 > x13_2
             ·
              rw [if_pos c24] at H
              have c24b0 : decide (x13_2 < t157) = true := decide_eq_true c24
              clear c24
              replace H := Option.bind_eq_some_iff.mp H
              obtain ⟨t158, A250, H⟩ := H
              replace H : (spec_TourTime.l3 k3 a1 l2 x12_2 x13_2 t158 (wrap64 (x15_3 + 1)) a0_0 true) = some (r1, r2) := H
              have A25 := A_ A250
              clear A250
              have H' := A_ H
              clear H
              try go_wp2
              have n0_ := A_ (blk_drew BK145.out)
              have n1_ := A_ (below_drew1 HB.out)
              clear BK145 HB; have BK145 := n0_; have HB := n1_; clear n0_ n1_
              have p156 : 0 ≤ (x15_3 : Int) := of_decide_eq_true (by first | (with_reducible assumption) | assumption)
              have q156 : x15_3 < (l2.length : Int) := of_decide_eq_true (by first | (with_reducible assumption) | assumption)
              obtain ⟨ad156, e156, hx156_0⟩ := Kd.at_int HR2.out x15_3 p156 q156
              have hw156_0 := hx156_0
              cases e156
              replace hx156_0 := (HB.out.cell (World.block_lt_of_cell? w _ hx156_0)).trans hx156_0
              replace p156 := eq_true p156
              replace q156 := eq_true q156
              refine start_ (n := 8) (S := fun w' => w'.cell? ⟨gb145, 0, none⟩ = some (.int .i64 a0_0) ∧ w'.cell? ⟨gb145, 1, none⟩ = some (.bool true) ∧ w'.cell? (ad156.add (x15_3).toNat) = some (.int .i64 (rd l2 x15_3))) (ds := []) #[false, false, false, false, false, false, false, false] (by kernel_rfl) rfl rfl ⟨bc BK145 0, bc BK145 1, ((HB.out.cell (World.block_lt_of_cell? w _ hw156_0)).trans hw156_0)⟩ (fun hHeld => ?_); refine with_tabW spec_TourTime.tab24 spec_TourTime.bits24 (fun HT_ HW_ => ?_)
              generalize wr.drew = w26 at BK145 HB hx156_0 hHeld ⊢
              refine pure_ (i := 1) (N := some 77) (v := ?_) (a' := ?_) #[false, true, false, false, false, false, false, false] rfl rfl (any_of HT_.out (by kernel_rfl)) (fun _ _ _ h => h) (Or.inl ⟨by rfl, ?_⟩) ?_ ?_
              rotate_left
              ·
               intro w'
               go_simp
               with_reducible rfl
              rotate_left
              ·
               simp only [Act.put, List.setIfInBounds_toArray, List.set_cons_zero, List.set_cons_succ, i64_w, i32_w]
               rfl
              refine pure_ (i := 2) (N := some 78) (v := ?_) (a' := ?_) #[false, true, true, false, false, false, false, false] rfl rfl (any_of HT_.out (by kernel_rfl)) (fun _ _ _ h => h) (Or.inl ⟨by rfl, ?_⟩) ?_ ?_
              rotate_left
              ·
               intro w'
               go_simp
               with_reducible rfl
              rotate_left
              ·
               simp only [Act.put, List.setIfInBounds_toArray, List.set_cons_zero, List.set_cons_succ, i64_w, i32_w]
               rfl
              refine pure_ (i := 3) (N := some 79) (v := ?_) (a' := ?_) #[false, true, true, true, false, false, false, false] rfl rfl (any_of HT_.out (by kernel_rfl)) (fun _ _ _ h => h) (Or.inl ⟨by rfl, ?_⟩) ?_ ?_
              rotate_left
              ·
               intro w'
               go_simp
               with_reducible rfl
              rotate_left
              ·
               simp only [Act.put, List.setIfInBounds_toArray, List.set_cons_zero, List.set_cons_succ, i64_w, i32_w]
               rfl
              refine pure_ (i := 4) (N := some 80) (v := ?_) (a' := ?_) #[false, true, true, true, true, false, false, false] rfl rfl (any_of HT_.out (by kernel_rfl)) (fun _ _ _ h => h) (Or.inl ⟨by rfl, ?_⟩) ?_ ?_
              rotate_left
              ·
               intro w'
               go_simp
               with_reducible rfl
              rotate_left
              ·
               simp only [Act.put, List.setIfInBounds_toArray, List.set_cons_zero, List.set_cons_succ, i64_w, i32_w]
               rfl
              refine take_ (i := 0) (N := some 76) (v := ?_) (a' := ?_) #[true, true, true, true, true, false, false, false] rfl rfl (take_ofW HT_.out HW_.out (by kernel_rfl)) (fun _ _ _ h => h) (Or.inl ⟨by rfl, ?_⟩) hHeld ?_ ?_
              rotate_left
              ·
               rintro w' ⟨s0, s1, s2⟩
               go_simp
               with_reducible rfl
              rotate_left
              ·
               simp only [Act.put, List.setIfInBounds_toArray, List.set_cons_zero, List.set_cons_succ, i64_w, i32_w]
               rfl
              refine take_ (i := 5) (N := some 81) (v := ?_) (a' := ?_) #[true, true, true, true, true, true, false, false] rfl rfl (take_ofW HT_.out HW_.out (by kernel_rfl)) (fun _ _ _ h => h) (Or.inl ⟨by rfl, ?_⟩) hHeld ?_ ?_
              rotate_left
              ·
               rintro w' ⟨s0, s1, s2⟩
               go_simp
               with_reducible rfl
              rotate_left
              ·
               simp only [Act.put, List.setIfInBounds_toArray, List.set_cons_zero, List.set_cons_succ, i64_w, i32_w]
               rfl
              refine one_ (i := 6) (N := some 82) #[true, true, true, true, true, true, true, false] rfl rfl (one_of HT_.out (by kernel_rfl)) (by decide) (fun K hK => ?_)
              refine goes_ Try.func72 (by kernel_rfl) rfl #[.agg #[.int .i64 a0_0, .bool true], .int .i64 a1, .int .i64 (rd l2 x15_3)] (by rfl) rfl rfl gq ?_
              with_reducible refine (spec_l2Far.calls a0_0 true a1 (rd l2 x15_3) t157 _ A23.out).mono ?_
              rintro e w27 ⟨rfl, hb⟩
              refine ⟨_, rfl, ?_⟩
              have n0_ := A_ (blk_below (bq BK145) hb)
              have n1_ := A_ (below_step (hq HB) hb)
              clear BK145 HB; have BK145 := n0_; have HB := n1_; clear n0_ n1_; (try clear hb); (try clear hb2); (try clear hk); (try clear hi)
              refine hK.out _ _ ⟨bc BK145 0, bc BK145 1, ((HB.out.cell (World.block_lt_of_cell? w _ hw156_0)).trans hw156_0)⟩ (fun hHeld => ?_)
              clear hK K
              refine norm_ (a' := ?_) ?_ ?_
              rotate_left
              ·
               exact pq (d := some 82)
              refine pure_ (i := 7) (N := some 16) (v := ?_) (a' := ?_) #[true, true, true, true, true, true, true, true] rfl rfl (any_of HT_.out (by kernel_rfl)) (fun _ _ _ h => h) (Or.inl ⟨by rfl, ?_⟩) ?_ ?_
              rotate_left
              ·
               intro w'
               go_simp
               with_reducible rfl
              rotate_left
              ·
               simp only [Act.put, List.setIfInBounds_toArray, List.set_cons_zero, List.set_cons_succ, i64_w, i32_w]
               rfl
              refine done_ (done_of HT_.out (by kernel_rfl)) ?_
              have hcz28_0 : w27.cell? ⟨gb145, 0, none⟩ = some (.int .i64 a0_0) := bc BK145 0
              have hcz28_1 : w27.cell? ⟨gb145, 1, none⟩ = some (.bool true) := bc BK145 1
              have hfz28_0 := blk_frozen BK145.out 0
              have hfz28_1 := blk_frozen BK145.out 1
              try go_wp2_with (first | ((with_reducible refine gate_callee (f := 70) rfl ?_); refine goesL_ (some 91) rfl rfl Try.func70 (by kernel_rfl) rfl #[.int .i64 x14_3, .int .i64 (wrap64 (a0_0 - t157))] rfl gq ?_; (with_reducible refine (spec_l1Most.calls x14_3 (wrap64 (a0_0 - t157)) t158 _ A25.out).mono ?_); rintro e w' ⟨rfl, ⟨nd, rfl⟩⟩; refine ⟨_, rfl, ?_⟩))
              go_roundg k3
              case measure => have := HK1.out; have := HK2.out; have := HK3.out; omega
              case rel => exact ⟨(t158), (wrap64 (x15_3 + 1)), (by first | rfl | (simp; done) | (simp [*]; done)), (by first | rfl | (simp; done) | (simp [*]; done)), H', ⟨by have := HK1.out; have := HK2.out; have := HK3.out; omega⟩, ⟨bq BK145⟩, ⟨hq HB⟩⟩
             ·
              rw [if_neg c24] at H
              have c24b0 : decide (x13_2 < t157) = false := decide_eq_false c24
              clear c24
              have H' := A_ H
              clear H
              try go_wp2
              have n0_ := A_ (blk_drew BK145.out)
              have n1_ := A_ (below_drew1 HB.out)
              clear BK145 HB; have BK145 := n0_; have HB := n1_; clear n0_ n1_
              have p156 : 0 ≤ (x15_3 : Int) := of_decide_eq_true (by first | (with_reducible assumption) | assumption)
              have q156 : x15_3 < (l2.length : Int) := of_decide_eq_true (by first | (with_reducible assumption) | assumption)
              obtain ⟨ad156, e156, hx156_0⟩ := Kd.at_int HR2.out x15_3 p156 q156
              have hw156_0 := hx156_0
              cases e156
              replace hx156_0 := (HB.out.cell (World.block_lt_of_cell? w _ hx156_0)).trans hx156_0
              replace p156 := eq_true p156
              replace q156 := eq_true q156
              refine start_ (n := 8) (S := fun w' => w'.cell? ⟨gb145, 0, none⟩ = some (.int .i64 a0_0) ∧ w'.cell? ⟨gb145, 1, none⟩ = some (.bool true) ∧ w'.cell? (ad156.add (x15_3).toNat) = some (.int .i64 (rd l2 x15_3))) (ds := []) #[false, false, false, false, false, false, false, false] (by kernel_rfl) rfl rfl ⟨bc BK145 0, bc BK145 1, ((HB.out.cell (World.block_lt_of_cell? w _ hw156_0)).trans hw156_0)⟩ (fun hHeld => ?_); refine with_tabW spec_TourTime.tab24 spec_TourTime.bits24 (fun HT_ HW_ => ?_)
              generalize wr.drew = w29 at BK145 HB hx156_0 hHeld ⊢
              refine pure_ (i := 1) (N := some 77) (v := ?_) (a' := ?_) #[false, true, false, false, false, false, false, false] rfl rfl (any_of HT_.out (by kernel_rfl)) (fun _ _ _ h => h) (Or.inl ⟨by rfl, ?_⟩) ?_ ?_
              rotate_left
              ·
               intro w'
               go_simp
               with_reducible rfl
              rotate_left
              ·
               simp only [Act.put, List.setIfInBounds_toArray, List.set_cons_zero, List.set_cons_succ, i64_w, i32_w]
               rfl
              refine pure_ (i := 2) (N := some 78) (v := ?_) (a' := ?_) #[false, true, true, false, false, false, false, false] rfl rfl (any_of HT_.out (by kernel_rfl)) (fun _ _ _ h => h) (Or.inl ⟨by rfl, ?_⟩) ?_ ?_
              rotate_left
              ·
               intro w'
               go_simp
               with_reducible rfl
              rotate_left
              ·
               simp only [Act.put, List.setIfInBounds_toArray, List.set_cons_zero, List.set_cons_succ, i64_w, i32_w]
               rfl
              refine pure_ (i := 3) (N := some 79) (v := ?_) (a' := ?_) #[false, true, true, true, false, false, false, false] rfl rfl (any_of HT_.out (by kernel_rfl)) (fun _ _ _ h => h) (Or.inl ⟨by rfl, ?_⟩) ?_ ?_
              rotate_left
              ·
               intro w'
               go_simp
               with_reducible rfl
              rotate_left
              ·
               simp only [Act.put, List.setIfInBounds_toArray, List.set_cons_zero, List.set_cons_succ, i64_w, i32_w]
               rfl
              refine pure_ (i := 4) (N := some 80) (v := ?_) (a' := ?_) #[false, true, true, true, true, false, false, false] rfl rfl (any_of HT_.out (by kernel_rfl)) (fun _ _ _ h => h) (Or.inl ⟨by rfl, ?_⟩) ?_ ?_
              rotate_left
              ·
               intro w'
               go_simp
               with_reducible rfl
              rotate_left
              ·
               simp only [Act.put, List.setIfInBounds_toArray, List.set_cons_zero, List.set_cons_succ, i64_w, i32_w]
               rfl
              refine take_ (i := 0) (N := some 76) (v := ?_) (a' := ?_) #[true, true, true, true, true, false, false, false] rfl rfl (take_ofW HT_.out HW_.out (by kernel_rfl)) (fun _ _ _ h => h) (Or.inl ⟨by rfl, ?_⟩) hHeld ?_ ?_
              rotate_left
              ·
               rintro w' ⟨s0, s1, s2⟩
               go_simp
               with_reducible rfl
              rotate_left
              ·
               simp only [Act.put, List.setIfInBounds_toArray, List.set_cons_zero, List.set_cons_succ, i64_w, i32_w]
               rfl
              refine take_ (i := 5) (N := some 81) (v := ?_) (a' := ?_) #[true, true, true, true, true, true, false, false] rfl rfl (take_ofW HT_.out HW_.out (by kernel_rfl)) (fun _ _ _ h => h) (Or.inl ⟨by rfl, ?_⟩) hHeld ?_ ?_
              rotate_left
              ·
               rintro w' ⟨s0, s1, s2⟩
               go_simp
               with_reducible rfl
              rotate_left
              ·
               simp only [Act.put, List.setIfInBounds_toArray, List.set_cons_zero, List.set_cons_succ, i64_w, i32_w]
               rfl
              refine one_ (i := 6) (N := some 82) #[true, true, true, true, true, true, true, false] rfl rfl (one_of HT_.out (by kernel_rfl)) (by decide) (fun K hK => ?_)
              refine goes_ Try.func72 (by kernel_rfl) rfl #[.agg #[.int .i64 a0_0, .bool true], .int .i64 a1, .int .i64 (rd l2 x15_3)] (by rfl) rfl rfl gq ?_
              with_reducible refine (spec_l2Far.calls a0_0 true a1 (rd l2 x15_3) t157 _ A23.out).mono ?_
              rintro e w30 ⟨rfl, hb⟩
              refine ⟨_, rfl, ?_⟩
              have n0_ := A_ (blk_below (bq BK145) hb)
              have n1_ := A_ (below_step (hq HB) hb)
              clear BK145 HB; have BK145 := n0_; have HB := n1_; clear n0_ n1_; (try clear hb); (try clear hb2); (try clear hk); (try clear hi)
              refine hK.out _ _ ⟨bc BK145 0, bc BK145 1, ((HB.out.cell (World.block_lt_of_cell? w _ hw156_0)).trans hw156_0)⟩ (fun hHeld => ?_)
              clear hK K
              refine norm_ (a' := ?_) ?_ ?_
              rotate_left
              ·
               exact pq (d := some 82)
              refine pure_ (i := 7) (N := some 16) (v := ?_) (a' := ?_) #[true, true, true, true, true, true, true, true] rfl rfl (any_of HT_.out (by kernel_rfl)) (fun _ _ _ h => h) (Or.inl ⟨by rfl, ?_⟩) ?_ ?_
              rotate_left
              ·
               intro w'
               go_simp
               with_reducible rfl
              rotate_left
              ·
               simp only [Act.put, List.setIfInBounds_toArray, List.set_cons_zero, List.set_cons_succ, i64_w, i32_w]
               rfl
              refine done_ (done_of HT_.out (by kernel_rfl)) ?_
              try go_wp2
              go_roundg k3
              case measure => have := HK1.out; have := HK2.out; have := HK3.out; omega
              case rel => exact ⟨(x14_3), (wrap64 (x15_3 + 1)), (by first | rfl | (simp; done) | (simp [*]; done)), (by first | rfl | (simp; done) | (simp [*]; done)), H', ⟨by have := HK1.out; have := HK2.out; have := HK3.out; omega⟩, ⟨bq BK145⟩, ⟨hq HB⟩⟩
            ·
             rw [if_neg c22] at H
             exact absurd H (by simp)
           ·
            rw [if_neg c21] at H
            have c21b0 : decide (x15_3 < (l2.length : Int)) = false := decide_eq_false c21
            clear c21
            replace H := Option.bind_eq_some_iff.mp H
            obtain ⟨t154, A310, H⟩ := H
            replace H : ((spec_l1Least.f x12_2 t154).bind fun t155 => (spec_TourTime.l2 k3 a1 l2 t155 (wrap64 (x13_2 + 1)) a0_0 true)) = some (r1, r2) := H
            have A31 := A_ A310
            clear A310
            replace H := Option.bind_eq_some_iff.mp H
            obtain ⟨t155, A320, H⟩ := H
            replace H : (spec_TourTime.l2 k3 a1 l2 t155 (wrap64 (x13_2 + 1)) a0_0 true) = some (r1, r2) := H
            have A32 := A_ A320
            clear A320
            have H' := A_ H
            clear H
            go_wp2_with (first | ((with_reducible refine gate_callee (f := 73) rfl ?_); refine goesL_ (some 95) rfl rfl Try.func73 (by kernel_rfl) rfl #[.int .i64 x14_3, .int .i64 x13_2] rfl gq ?_; (with_reducible refine (spec_l2Tour.calls x14_3 x13_2 t154 _ A31.out).mono ?_); rintro e w' ⟨rfl, ⟨nd, rfl⟩⟩; refine ⟨_, rfl, ?_⟩) | ((with_reducible refine gate_callee (f := 68) rfl ?_); refine goesL_ (some 96) rfl rfl Try.func68 (by kernel_rfl) rfl #[.int .i64 x12_2, .int .i64 t154] rfl gq ?_; (with_reducible refine (spec_l1Least.calls x12_2 t154 t155 _ A32.out).mono ?_); rintro e w' ⟨rfl, ⟨nd, rfl⟩⟩; refine ⟨_, rfl, ?_⟩))
            go_roundg k3
            case measure => have := HK1.out; have := HK2.out; have := HK3.out; omega
            case rel => exact ⟨(t155), (wrap64 (x13_2 + 1)), (by first | rfl | (simp; done) | (simp [*]; done)), (by first | rfl | (simp; done) | (simp [*]; done)), H', ⟨by have := HK1.out; have := HK2.out; have := HK3.out; omega⟩, ⟨bq BK145⟩, ⟨hq HB⟩⟩
        ·
         rw [if_neg c19] at H
         have c19b0 : decide (x13_2 < a0_0) = false := decide_eq_false c19
         clear c19
         simp only [Option.some.injEq, Prod.mk.injEq] at H
         obtain ⟨rfl, rfl⟩ := H
         have hcz33_0 : wr.cell? ⟨gb145, 0, none⟩ = some (.int .i64 a0_0) := bc BK145 0
         have hcz33_1 : wr.cell? ⟨gb145, 1, none⟩ = some (.bool true) := bc BK145 1
         have hfz33_0 := blk_frozen BK145.out 0
         have hfz33_1 := blk_frozen BK145.out 1
         go_wp2
         go_ret2
         exact ⟨rt, hq HB⟩
     ·
      replace c17 := Bool.eq_false_iff.mpr c17
      subst c17
      have H1 : (spec_TourTime.l1 k1 a1 l2 0 0 0) = some (r1, r2) := by rw [if_neg (show ¬ (false = true) by decide)] at H; exact H
      clear H
      have H := H1
      clear H1
      have H' := A_ H
      clear H
      have hcz34_0 : wr.cell? ⟨gb145, 0, none⟩ = some (.int .i64 a0_0) := bc BK145 0
      have hcz34_1 : wr.cell? ⟨gb145, 1, none⟩ = some (.bool false) := bc BK145 1
      have hfz34_0 := blk_frozen BK145.out 0
      have hfz34_1 := blk_frozen BK145.out 1
      go_wp2
      go_loopg [9, 10, 11] k1 (fun kq v9 v10 v11 w' => ∃ (x9_2 : Int) (x10_2 : Int) (x11_2 : Int), v9 = .int .i64 x9_2 ∧ v10 = .int .i64 x10_2 ∧ v11 = .int .i64 x11_2 ∧ Aside0 (spec_TourTime.l1 kq a1 l2 x9_2 x10_2 x11_2 = some (r1, r2)) ∧ Aside0 (kq ≤ k1) ∧ Aside0 (w'.heap[gb145]? = some (.cells #[.int .i64 a0_0, .bool false] 27 (0, 0))) ∧ Aside0 (Below w.heap.size w w'))
      case atStart => exact ⟨(0), (0), (0), (by first | rfl | (simp; done) | (simp [*]; done)), (by first | rfl | (simp; done) | (simp [*]; done)), (by first | rfl | (simp; done) | (simp [*]; done)), H', ⟨Nat.le_refl _⟩, ⟨bq BK145⟩, ⟨hq HB⟩⟩
      case round =>
       clear H'
       try clear c1
       try clear p1
       try clear q1
       try clear hx1
       try clear c2
       try clear p2
       try clear c5
       try clear c6
       try clear p6
       try clear c7
       try clear c9
       try clear c9b0
       try clear c10
       try clear c10b0
       try clear c12
       try clear p14
       try clear q14
       try clear hx14
       try clear p15
       try clear q15
       try clear hx15
       try clear c17
       try clear c19
       try clear c19b0
       try clear c21
       try clear c21b0
       try clear c22
       try clear c22b0
       try clear c24
       try clear c24b0
       try clear hcz18_0
       try clear hcz18_1
       try clear hcz20_0
       try clear hcz20_1
       try clear hcz28_0
       try clear hcz28_1
       try clear hcz33_0
       try clear hcz33_1
       try clear hcz34_0
       try clear hcz34_1
       try clear hcz7_0
       try clear hcz7_1
       try clear hfz18_0
       try clear hfz18_1
       try clear hfz20_0
       try clear hfz20_1
       try clear hfz28_0
       try clear hfz28_1
       try clear hfz33_0
       try clear hfz33_1
       try clear hfz34_0
       try clear hfz34_1
       try clear hfz7_0
       try clear hfz7_1
       try clear hx147_0
       try clear hx156_0
       try clear p1
       try clear p14
       try clear p147
       try clear p156
       try clear p2
       try clear p6
       try clear q1
       try clear q14
       try clear q147
       try clear q156
       obtain ⟨x9_2, x10_2, x11_2, rfl, rfl, rfl, HA, HK2, BK145, HB⟩ := hrel
       cases gk with
       | zero => exact absurd HA.out (by simp [spec_TourTime.l1])
       | succ k2 =>
        have H := HA.out
        clear HA
        simp only [spec_TourTime.l1] at H
        by_cases c35 : x11_2 < (l2.length : Int)
        ·
         rw [if_pos c35] at H
         have c35b0 : decide (x11_2 < (l2.length : Int)) = true := decide_eq_true c35
         clear c35
         by_cases c36 : 0 ≤ x11_2
         ·
          rw [if_pos c36] at H
          have c36b0 : decide (0 ≤ x11_2) = true := decide_eq_true c36
          clear c36
          replace H := Option.bind_eq_some_iff.mp H
          obtain ⟨t150, A370, H⟩ := H
          replace H : ((spec_l1Most.f x10_2 (wrap64 ((rd l2 x11_2) - a1))).bind fun t152 => (spec_TourTime.l1 k2 a1 l2 t150 t152 (wrap64 (x11_2 + 1)))) = some (r1, r2) := H
          have A37 := A_ A370
          clear A370
          replace H := Option.bind_eq_some_iff.mp H
          obtain ⟨t152, A380, H⟩ := H
          replace H : (spec_TourTime.l1 k2 a1 l2 t150 t152 (wrap64 (x11_2 + 1))) = some (r1, r2) := H
          have A38 := A_ A380
          clear A380
          have H' := A_ H
          clear H
          have p149 : 0 ≤ (x11_2 : Int) := of_decide_eq_true (by first | (with_reducible assumption) | assumption)
          have q149 : x11_2 < (l2.length : Int) := of_decide_eq_true (by first | (with_reducible assumption) | assumption)
          obtain ⟨ad149, e149, hx149_0⟩ := Kd.at_int HR2.out x11_2 p149 q149
          cases e149
          replace hx149_0 := (HB.out.cell (World.block_lt_of_cell? w _ hx149_0)).trans hx149_0
          replace p149 := eq_true p149
          replace q149 := eq_true q149
          go_wp2_with (first | ((with_reducible refine gate_callee (f := 70) rfl ?_); refine goesL_ (some 50) rfl rfl Try.func70 (by kernel_rfl) rfl #[.int .i64 x9_2, .int .i64 (wrap64 (a1 - (rd l2 x11_2)))] rfl gq ?_; (with_reducible refine (spec_l1Most.calls x9_2 (wrap64 (a1 - (rd l2 x11_2))) t150 _ A37.out).mono ?_); rintro e w' ⟨rfl, ⟨nd, rfl⟩⟩; refine ⟨_, rfl, ?_⟩; have p151 : 0 ≤ (x11_2 : Int) := of_decide_eq_true (by first | (with_reducible assumption) | assumption); have q151 : x11_2 < (l2.length : Int) := of_decide_eq_true (by first | (with_reducible assumption) | assumption); obtain ⟨ad151, e151, hx151_0⟩ := Kd.at_int HR2.out x11_2 p151 q151; obtain rfl : ad149 = ad151 := (by injection e151); replace hx151_0 := (HB.out.cell (World.block_lt_of_cell? w _ hx151_0)).trans hx151_0; replace p151 := eq_true p151; replace q151 := eq_true q151) | ((with_reducible refine gate_callee (f := 70) rfl ?_); refine goesL_ (some 58) rfl rfl Try.func70 (by kernel_rfl) rfl #[.int .i64 x10_2, .int .i64 (wrap64 ((rd l2 x11_2) - a1))] rfl gq ?_; (with_reducible refine (spec_l1Most.calls x10_2 (wrap64 ((rd l2 x11_2) - a1)) t152 _ A38.out).mono ?_); rintro e w' ⟨rfl, ⟨nd, rfl⟩⟩; refine ⟨_, rfl, ?_⟩))
          go_roundg k2
          case measure => have := HK1.out; have := HK2.out; omega
          case rel => exact ⟨(t150), (t152), (wrap64 (x11_2 + 1)), (by first | rfl | (simp; done) | (simp [*]; done)), (by first | rfl | (simp; done) | (simp [*]; done)), (by first | rfl | (simp; done) | (simp [*]; done)), H', ⟨by have := HK1.out; have := HK2.out; omega⟩, ⟨bq BK145⟩, ⟨hq HB⟩⟩
         ·
          rw [if_neg c36] at H
          exact absurd H (by simp)
        ·
         rw [if_neg c35] at H
         have c35b0 : decide (x11_2 < (l2.length : Int)) = false := decide_eq_false c35
         clear c35
         replace H := Option.bind_eq_some_iff.mp H
         obtain ⟨t153, A390, H⟩ := H
         replace H : (some (t153, true)) = some (r1, r2) := H
         have A39 := A_ A390
         clear A390
         simp only [Option.some.injEq, Prod.mk.injEq] at H
         obtain ⟨rfl, rfl⟩ := H
         go_wp2_with (first | ((with_reducible refine gate_callee (f := 73) rfl ?_); refine goesL_ (some 61) rfl rfl Try.func73 (by kernel_rfl) rfl #[.int .i64 x9_2, .int .i64 x10_2] rfl gq ?_; (with_reducible refine (spec_l2Tour.calls x9_2 x10_2 t153 _ A39.out).mono ?_); rintro e w' ⟨rfl, ⟨nd, rfl⟩⟩; refine ⟨_, rfl, ?_⟩))
         go_ret2
         exact ⟨rt, hq HB⟩
 ·
  replace c5 := Bool.eq_false_iff.mpr c5
  subst c5
  have H1 : (some (0, false)) = some (r1, r2) := by rw [if_neg (show ¬ (false = true) by decide)] at H; exact H
  clear H
  have H := H1
  clear H1
  simp only [Option.some.injEq, Prod.mk.injEq] at H
  obtain ⟨rfl, rfl⟩ := H
  go_enter Try.func58, Try.ntmps58
  go_wp2_with (first | ((with_reducible refine gate_dst (N := 3) rfl ?_); refine box_event ?hg (N := 3) ?hd (cs := #[.int .i64 a0_0, .bool a0_1]) (t := 27) ?hr ?_; (case hd => rfl); (case hg => rfl); (case hr => first | (go_simp; done) | (go_simp; rfl)); intro gb145 hg w40 hbox hb; have n0_ := A_ (below_step (hq HB) hb); have n1_ := A_ (hbox); have n2_ := A_ ((by rw [hg]; exact (below_size (hq HB)) : w.heap.size ≤ gb145)); have n3_ := A_ ((by rw [hg]; exact (below_size (hq HB)) : w.heap.size ≤ gb145)); clear HB; have HB := n0_; have BK145 := n1_; have GW145 := n2_; have GE145 := n3_; clear n0_ n1_ n2_ n3_; clear hb hbox hg; have hcz41_0 : w40.cell? ⟨gb145, 0, none⟩ = some (.int .i64 a0_0) := bc BK145 0; have hcz41_1 : w40.cell? ⟨gb145, 1, none⟩ = some (.bool a0_1) := bc BK145 1; have hfz41_0 := blk_frozen BK145.out 0; have hfz41_1 := blk_frozen BK145.out 1) | ((with_reducible refine gate_callee (f := 21) rfl ?_); refine goesL_ (some 19) rfl rfl Try.func21 (by kernel_rfl) rfl #[.agg #[.int .i64 a0_0, .bool a0_1], .int .i64 a1] rfl gq ?_; (with_reducible refine (spec_l2Place.calls a0_0 a0_1 a1 false _ A4.out).mono ?_); rintro e w42 ⟨rfl, hb⟩; refine ⟨_, rfl, ?_⟩; have n0_ := A_ (blk_below (bq BK145) hb); have n1_ := A_ (below_step (hq HB) hb); clear BK145; clear HB; have BK145 := n0_; have HB := n1_; clear n0_ n1_; (try clear hb); (try clear hb2); (try clear hk); (try clear hi)))
  go_ret2
  exact ⟨rt, hq HB⟩

end Go.Proofs.Ythnaghigpgfchaa.PFnExactFirstOrder
