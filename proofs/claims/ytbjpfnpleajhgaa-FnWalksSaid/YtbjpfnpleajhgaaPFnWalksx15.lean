-- Told shorter still by shrink2.py.
-- Printed, and told shorter by this session's program shrink.py.
-- Printed by this session's program myprint.py.
import Derived.Test.YtbjpfnpleajhgaaPFnWalksx0
import Derived.Test.YtbjpfnpleajhgaaPFnWalksx1
import Derived.Test.YtbjpfnpleajhgaaPFnWalksx4
import Derived.Test.YtbjpfnpleajhgaaPFnWalksx6
namespace Go.Proofs.Ytbjpfnpleajhgaa.PFnWalks
open Go.RowKit Go.Proofs.Ytbjpfnpleajhgaa.Own Go.Proofs.YtbjpfnpleajhgaaW.PrintWords Go.Proofs.YtbjpfnpleajhgaaW.PrintLast Go.Proofs.YtbjpfnpleajhgaaW.PrintMore
attribute [local go_sem] max2_int min2_int max_two min_two max_three min_three max_four min_four   -- for this text's walks alone
set_option linter.unusedVariables false
set_option linter.unusedSimpArgs false

/-! ### impl_at: function 56 -/
def Q63.f (l0 : List Int) (a1 : Int) : Option (Int) := if 0 ≤ (mn a1 (wrap64 ((l0.length : Int) - 1))) then (if (mn a1 (wrap64 ((l0.length : Int) - 1))) < (l0.length : Int) then (some (rd l0 (mn a1 (wrap64 ((l0.length : Int) - 1))))) else (none)) else (none)
set_option maxHeartbeats 8000000 in
set_option maxRecDepth 100000 in
theorem Q63.calls (A0 : Option Addr) (c0 : Nat) (l0 : List Int) (a1 : Int) (r : Int) (w : World) (hr0 : Kd.C (Kd.int .i64) w A0 l0.length l0) (hc0 : l0.length ≤ c0) (h : Q63.f l0 a1 = some r) :
    Calls Try.prog 56 #[.slice A0 l0.length c0, .int .i64 a1] w fun e w' => e = .returned (.int .i64 r) ∧ Below w.heap.size w w' := by
 have HR0 := A_ hr0; have HC0 := A_ hc0; clear hr0 hc0; have HB := A_ (Below.refl w.heap.size w); have H : (if 0 ≤ (mn a1 (wrap64 ((l0.length : Int) - 1))) then (if (mn a1 (wrap64 ((l0.length : Int) - 1))) < (l0.length : Int) then (some (rd l0 (mn a1 (wrap64 ((l0.length : Int) - 1))))) else (none)) else (none)) = some r := h; clear h
 obtain ⟨ji3, hji3⟩ : ∃ j_ : Int, (mn a1 (wrap64 ((l0.length : Int) - 1))) = j_ := ⟨_, rfl⟩
 replace H : (if 0 ≤ (ji3) then (if (ji3) < (l0.length : Int) then (some (rd l0 (ji3))) else (none)) else (none)) = some r := by first | (rw [hji3] at H; exact H) | (simp only [hji3] at H ⊢; exact H)
 have hji3_ : (if (wrap64 ((l0.length : Int) - 1)) < a1 then (wrap64 ((l0.length : Int) - 1)) else a1) = ji3 := hji3; by_cases c4 : 0 ≤ (ji3)
 ·
  rw [if_pos c4] at H; have c4b0 := decide_eq_true c4; clear c4; by_cases c5 : (ji3) < (l0.length : Int)
  ·
   rw [if_pos c5] at H; have c5b0 := decide_eq_true c5; clear c5; obtain rfl := Option.some.inj H; have p568 : 0 ≤ ((ji3) : Int) := dq; have q568 : (ji3) < (l0.length : Int) := dq; obtain ⟨ad568, e568, hx568_0⟩ := Kd.at_int HR0.out (ji3) p568 q568
   cases e568
   replace p568 := eq_true p568; replace q568 := eq_true q568; go_enter Try.func56, Try.ntmps56
   go_wp2
   go_ret
   exact ⟨by first | rfl | (simp [errW_none, errW_some] <;> rfl) | (simp only [← hji3]; first | rfl | (simp [errW_none, errW_some] <;> rfl)) | (simp [*, errW_none, errW_some] <;> rfl), hq HB⟩
  ·
   rw [if_neg c5] at H; exact absurd H (by simp)
 ·
  rw [if_neg c4] at H; exact absurd H (by simp)

/-! ### impl_PlaceAt: function 26 -/
def Q59.f (k : Nat) (a0_0 : Int) (a0_1 : Bool) (l1 : List Int) (a2 : Int) : Option (Int × Bool) := (Q4.f k a0_0 a0_1 (([l1] : List (List Int)))).bind fun t573 => (if t573 = true then (if a2 < 0 then (some (0, false)) else ((Q63.f l1 a2).bind fun t574 => (some (t574, true)))) else (some (0, false)))
set_option maxHeartbeats 8000000 in
set_option maxRecDepth 100000 in
theorem Q59.calls (k : Nat) (a0_0 : Int) (a0_1 : Bool) (A1 : Option Addr) (c1 : Nat) (l1 : List Int) (a2 : Int) (r1 : Int) (r2 : Bool) (w : World) (hr1 : Kd.C (Kd.int .i64) w A1 l1.length l1) (hc1 : l1.length ≤ c1) (h : Q59.f k a0_0 a0_1 l1 a2 = some (r1, r2)) :
    Calls Try.prog 26 #[.agg #[.int .i64 a0_0, .bool a0_1], .slice A1 l1.length c1, .int .i64 a2] w fun e w' => e = .returned (.tuple #[.int .i64 r1, .bool r2]) ∧ Below w.heap.size w w' := by
 have hu25 := Try.underlying25; have HR1 := A_ hr1; have HC1 := A_ hc1; clear hr1 hc1; have HB := A_ (Below.refl w.heap.size w); have H : ((Q4.f k a0_0 a0_1 (([l1] : List (List Int)))).bind fun t573 => (if t573 = true then (if a2 < 0 then (some (0, false)) else ((Q63.f l1 a2).bind fun t574 => (some (t574, true)))) else (some (0, false)))) = some (r1, r2) := h; clear h
 obtain ⟨y570, hy570⟩ : ∃ y_ : List (List Int), y_ = (([l1] : List (List Int))) := ⟨_, rfl⟩
 replace H : ((Q4.f k a0_0 a0_1 y570).bind fun t573 => (if t573 = true then (if a2 < 0 then (some (0, false)) else ((Q63.f l1 a2).bind fun t574 => (some (t574, true)))) else (some (0, false)))) = some (r1, r2) := by first | (rw [hy570]; with_reducible exact H) | (have H2_ := (Option.bind_some _ _).symm.trans H; rw [hy570]; with_reducible exact H2_) | (have H2_ := (Option.bind_some _ _).symm.trans H; with_reducible exact H2_) | with_reducible exact H | (rw [hy570]; exact H) | exact H
 have Ny570 := A_ hy570; clear hy570; replace H := bm H; obtain ⟨t573, A4, H⟩ := H; by_cases c5 : t573 = true
 ·
  subst c5
  have H1 : (if a2 < 0 then (some (0, false)) else ((Q63.f l1 a2).bind fun t574 => (some (t574, true)))) = some (r1, r2) := by rw [if_pos rfl] at H; exact H
  clear H; have H := H1; clear H1; by_cases c6 : a2 < 0
  ·
   rw [if_pos c6] at H; have c6b0 := decide_eq_true c6; clear c6; simp only [Option.some.injEq, Prod.mk.injEq] at H
   obtain ⟨rfl, rfl⟩ := H; go_enter Try.func26, Try.ntmps26
   go_wp2_with (first | ((with_reducible refine gate_dst (N := 3) rfl ?_); refine bx (N := 3) #[.int .i64 a0_0, .bool a0_1] 25 ?_; intro gb569 hg w7 hbox hb; have BK569 := A_ (hbox); have GW569 := A_ (bs hg (hq HB) : w.heap.size ≤ gb569); have GE569 := A_ (bs hg (hq HB) : w.heap.size ≤ gb569); replace HB := A_ (below_step (hq HB) hb); clear hb hbox hg; have hcz8_0 : w7.cell? ⟨gb569, 0, none⟩ = some (.int .i64 a0_0) := bc BK569 0; have hcz8_1 : w7.cell? ⟨gb569, 1, none⟩ = some (.bool a0_1) := bc BK569 1; have hfz8_0 := blk_frozen BK569.out 0; have hfz8_1 := blk_frozen BK569.out 1) | ((with_reducible refine gate_dst (N := 10) rfl ?_); refine V_lit (Kd.slice 3 (Kd.int .i64)) 0 26 ?hg (N' := 10) ?hd (xs := ([l1] : List (List Int))) (inner := [.slice A1 l1.length c1]) ?hr ?hp (by simp) ?_; (case hd => rfl); (case hg => rfl); (case hr => first | (go_simp; done) | (go_simp; rfl)); (case hp => exact (Reps.one (show Kd.FK (Kd.slice 3 (Kd.int .i64)) _ _ l1 [.slice A1 l1.length c1] from (Kd.FK_slice_mk HC1.out (Kd.F_mono (Kd.F_below (Kd.C_F (Kd.heap_int .i64) HR1.out) (hq HB)) (fun _ _ => trivial)))) (Reps.none _ _))); intro v571 w9 ho10 hb; (first | rw [← Ny570.out] at ho10 | (simp only [Int.reduceToNat] at ho10; rw [← Ny570.out] at ho10)); replace BK569 := A_ (blk_below (bq BK569) hb); replace HB := A_ (below_step (hq HB) hb); have HO572 := A_ (ho10); clear hb ho10; obtain ⟨Ao11, co11, eo11⟩ := Kd.V_slice HO572.out; subst eo11) | ((with_reducible refine gate_callee (f := 29) rfl ?_); refine gL (some 11) Try.func29 #[.agg #[.int .i64 a0_0, .bool a0_1], .slice Ao11 y570.length co11] ?_; (with_reducible refine (Q4.calls k a0_0 a0_1 _ _ y570 true _ ?side1 ?side2 A4.out).mono ?_); (case side1 => exact cq (Kd.V_reads' HO572.out).2.2); (case side2 => exact (Kd.V_reads' HO572.out).2.1); rintro e w12 ⟨rfl, hb⟩; refine ⟨_, rfl, ?_⟩; replace HO572 := A_ (Kd.V_below (vq HO572) hb); replace BK569 := A_ (blk_below (bq BK569) hb); replace HB := A_ (below_step (hq HB) hb); clear hb))
   go_ret2
   exact ⟨rt, hq HB⟩
  ·
   rw [if_neg c6] at H; have c6b0 := decide_eq_false c6; clear c6; replace H := bm H; obtain ⟨t574, A13, H⟩ := H; simp only [Option.some.injEq, Prod.mk.injEq] at H
   obtain ⟨rfl, rfl⟩ := H; go_enter Try.func26, Try.ntmps26
   go_wp2_with (first | ((with_reducible refine gate_dst (N := 3) rfl ?_); refine bx (N := 3) #[.int .i64 a0_0, .bool a0_1] 25 ?_; intro gb569 hg w14 hbox hb; have BK569 := A_ (hbox); have GW569 := A_ (bs hg (hq HB) : w.heap.size ≤ gb569); have GE569 := A_ (bs hg (hq HB) : w.heap.size ≤ gb569); replace HB := A_ (below_step (hq HB) hb); clear hb hbox hg; have hcz15_0 : w14.cell? ⟨gb569, 0, none⟩ = some (.int .i64 a0_0) := bc BK569 0; have hcz15_1 : w14.cell? ⟨gb569, 1, none⟩ = some (.bool a0_1) := bc BK569 1; have hfz15_0 := blk_frozen BK569.out 0; have hfz15_1 := blk_frozen BK569.out 1) | ((with_reducible refine gate_dst (N := 10) rfl ?_); refine V_lit (Kd.slice 3 (Kd.int .i64)) 0 26 ?hg (N' := 10) ?hd (xs := ([l1] : List (List Int))) (inner := [.slice A1 l1.length c1]) ?hr ?hp (by simp) ?_; (case hd => rfl); (case hg => rfl); (case hr => first | (go_simp; done) | (go_simp; rfl)); (case hp => exact (Reps.one (show Kd.FK (Kd.slice 3 (Kd.int .i64)) _ _ l1 [.slice A1 l1.length c1] from (Kd.FK_slice_mk HC1.out (Kd.F_mono (Kd.F_below (Kd.C_F (Kd.heap_int .i64) HR1.out) (hq HB)) (fun _ _ => trivial)))) (Reps.none _ _))); intro v571 w16 ho17 hb; (first | rw [← Ny570.out] at ho17 | (simp only [Int.reduceToNat] at ho17; rw [← Ny570.out] at ho17)); replace BK569 := A_ (blk_below (bq BK569) hb); replace HB := A_ (below_step (hq HB) hb); have HO572 := A_ (ho17); clear hb ho17; obtain ⟨Ao18, co18, eo18⟩ := Kd.V_slice HO572.out; subst eo18) | ((with_reducible refine gate_callee (f := 29) rfl ?_); refine gL (some 11) Try.func29 #[.agg #[.int .i64 a0_0, .bool a0_1], .slice Ao18 y570.length co18] ?_; (with_reducible refine (Q4.calls k a0_0 a0_1 _ _ y570 true _ ?side1 ?side2 A4.out).mono ?_); (case side1 => exact cq (Kd.V_reads' HO572.out).2.2); (case side2 => exact (Kd.V_reads' HO572.out).2.1); rintro e w19 ⟨rfl, hb⟩; refine ⟨_, rfl, ?_⟩; replace HO572 := A_ (Kd.V_below (vq HO572) hb); replace BK569 := A_ (blk_below (bq BK569) hb); replace HB := A_ (below_step (hq HB) hb); clear hb) | ((with_reducible refine gate_callee (f := 56) rfl ?_); refine gL (some 19) Try.func56 #[.slice A1 l1.length c1, .int .i64 a2] ?_; (with_reducible refine (Q63.calls _ _ l1 a2 t574 _ ?side1 ?side2 A13.out).mono ?_); (case side1 => exact cq (Kd.C_below HR1.out HB.out)); (case side2 => exact HC1.out); rintro e w20 ⟨rfl, hb⟩; refine ⟨_, rfl, ?_⟩; replace HO572 := A_ (Kd.V_below (vq HO572) hb); replace BK569 := A_ (blk_below (bq BK569) hb); replace HB := A_ (below_step (hq HB) hb); clear hb))
   go_ret2
   exact ⟨rt, hq HB⟩
 ·
  replace c5 := Bool.eq_false_iff.mpr c5; subst c5
  have H1 : (some (0, false)) = some (r1, r2) := by rw [if_neg (show ¬ (false = true) by decide)] at H; exact H
  clear H; have H := H1; clear H1; simp only [Option.some.injEq, Prod.mk.injEq] at H
  obtain ⟨rfl, rfl⟩ := H; go_enter Try.func26, Try.ntmps26
  go_wp2_with (first | ((with_reducible refine gate_dst (N := 3) rfl ?_); refine bx (N := 3) #[.int .i64 a0_0, .bool a0_1] 25 ?_; intro gb569 hg w21 hbox hb; have BK569 := A_ (hbox); have GW569 := A_ (bs hg (hq HB) : w.heap.size ≤ gb569); have GE569 := A_ (bs hg (hq HB) : w.heap.size ≤ gb569); replace HB := A_ (below_step (hq HB) hb); clear hb hbox hg; have hcz22_0 : w21.cell? ⟨gb569, 0, none⟩ = some (.int .i64 a0_0) := bc BK569 0; have hcz22_1 : w21.cell? ⟨gb569, 1, none⟩ = some (.bool a0_1) := bc BK569 1; have hfz22_0 := blk_frozen BK569.out 0; have hfz22_1 := blk_frozen BK569.out 1) | ((with_reducible refine gate_dst (N := 10) rfl ?_); refine V_lit (Kd.slice 3 (Kd.int .i64)) 0 26 ?hg (N' := 10) ?hd (xs := ([l1] : List (List Int))) (inner := [.slice A1 l1.length c1]) ?hr ?hp (by simp) ?_; (case hd => rfl); (case hg => rfl); (case hr => first | (go_simp; done) | (go_simp; rfl)); (case hp => exact (Reps.one (show Kd.FK (Kd.slice 3 (Kd.int .i64)) _ _ l1 [.slice A1 l1.length c1] from (Kd.FK_slice_mk HC1.out (Kd.F_mono (Kd.F_below (Kd.C_F (Kd.heap_int .i64) HR1.out) (hq HB)) (fun _ _ => trivial)))) (Reps.none _ _))); intro v571 w23 ho24 hb; (first | rw [← Ny570.out] at ho24 | (simp only [Int.reduceToNat] at ho24; rw [← Ny570.out] at ho24)); replace BK569 := A_ (blk_below (bq BK569) hb); replace HB := A_ (below_step (hq HB) hb); have HO572 := A_ (ho24); clear hb ho24; obtain ⟨Ao25, co25, eo25⟩ := Kd.V_slice HO572.out; subst eo25) | ((with_reducible refine gate_callee (f := 29) rfl ?_); refine gL (some 11) Try.func29 #[.agg #[.int .i64 a0_0, .bool a0_1], .slice Ao25 y570.length co25] ?_; (with_reducible refine (Q4.calls k a0_0 a0_1 _ _ y570 false _ ?side1 ?side2 A4.out).mono ?_); (case side1 => exact cq (Kd.V_reads' HO572.out).2.2); (case side2 => exact (Kd.V_reads' HO572.out).2.1); rintro e w26 ⟨rfl, hb⟩; refine ⟨_, rfl, ?_⟩; replace HO572 := A_ (Kd.V_below (vq HO572) hb); replace BK569 := A_ (blk_below (bq BK569) hb); replace HB := A_ (below_step (hq HB) hb); clear hb))
  go_ret2
  exact ⟨rt, hq HB⟩

/-! ### spec_l2At: function 57 -/
def Q65.f (l0 : List Int) (a1 : Int) : Option (Int) := (Q27.f a1 (wrap64 ((l0.length : Int) - 1))).bind fun t575 => (if 0 ≤ t575 then (if t575 < (l0.length : Int) then (some (rd l0 t575)) else (none)) else (none))
set_option maxHeartbeats 8000000 in
set_option maxRecDepth 100000 in
theorem Q65.calls (A0 : Option Addr) (c0 : Nat) (l0 : List Int) (a1 : Int) (r : Int) (w : World) (hr0 : Kd.C (Kd.int .i64) w A0 l0.length l0) (hc0 : l0.length ≤ c0) (h : Q65.f l0 a1 = some r) :
    Calls Try.prog 57 #[.slice A0 l0.length c0, .int .i64 a1] w fun e w' => e = .returned (.int .i64 r) ∧ Drawn0 w w' := by
 have HR0 := A_ hr0; have HC0 := A_ hc0; clear hr0 hc0; have H : ((Q27.f a1 (wrap64 ((l0.length : Int) - 1))).bind fun t575 => (if 0 ≤ t575 then (if t575 < (l0.length : Int) then (some (rd l0 t575)) else (none)) else (none))) = some r := h; clear h; replace H := bm H; obtain ⟨t575, A3, H⟩ := H; by_cases c4 : 0 ≤ t575
 ·
  rw [if_pos c4] at H; have c4b0 := decide_eq_true c4; clear c4; by_cases c5 : t575 < (l0.length : Int)
  ·
   rw [if_pos c5] at H; have c5b0 := decide_eq_true c5; clear c5; obtain rfl := Option.some.inj H; go_enter Try.func57, Try.ntmps57
   go_wp2_with (first | ((with_reducible refine gate_callee (f := 68) rfl ?_); refine gL (some 10) Try.func68 #[.int .i64 a1, .int .i64 (wrap64 ((l0.length : Int) - 1))] ?_; (with_reducible refine (Q27.calls a1 (wrap64 ((l0.length : Int) - 1)) t575 _ A3.out).mono ?_); rintro e w' ⟨rfl, ⟨nd, rfl⟩⟩; refine ⟨_, rfl, ?_⟩; have p576 : 0 ≤ (t575 : Int) := dq; have q576 : t575 < (l0.length : Int) := dq; obtain ⟨ad576, e576, hx576_0⟩ := Kd.at_int HR0.out t575 p576 q576; cases e576; replace p576 := eq_true p576; replace q576 := eq_true q576))
   go_ret
   exact ⟨rf, by repeat (first | exact Drawn0.refl _ | apply Drawn0.step)⟩
  ·
   rw [if_neg c5] at H; exact absurd H (by simp)
 ·
  rw [if_neg c4] at H; exact absurd H (by simp)

/-! ### spec_PlaceAt: function 27 -/
def Q61.f (k : Nat) (a0_0 : Int) (a0_1 : Bool) (l1 : List Int) (a2 : Int) : Option (Int × Bool) := (Q1.f k a0_0 a0_1 l1).bind fun t578 => (if t578 = true then (if a2 < 0 then (some (0, false)) else ((Q65.f l1 a2).bind fun t579 => (some (t579, true)))) else (some (0, false)))
set_option maxHeartbeats 8000000 in
set_option maxRecDepth 100000 in
theorem Q61.calls (k : Nat) (a0_0 : Int) (a0_1 : Bool) (A1 : Option Addr) (c1 : Nat) (l1 : List Int) (a2 : Int) (r1 : Int) (r2 : Bool) (w : World) (hr1 : Kd.C (Kd.int .i64) w A1 l1.length l1) (hc1 : l1.length ≤ c1) (h : Q61.f k a0_0 a0_1 l1 a2 = some (r1, r2)) :
    Calls Try.prog 27 #[.agg #[.int .i64 a0_0, .bool a0_1], .slice A1 l1.length c1, .int .i64 a2] w fun e w' => e = .returned (.tuple #[.int .i64 r1, .bool r2]) ∧ Below w.heap.size w w' := by
 have hu25 := Try.underlying25; have HR1 := A_ hr1; have HC1 := A_ hc1; clear hr1 hc1; have HB := A_ (Below.refl w.heap.size w); have H : ((Q1.f k a0_0 a0_1 l1).bind fun t578 => (if t578 = true then (if a2 < 0 then (some (0, false)) else ((Q65.f l1 a2).bind fun t579 => (some (t579, true)))) else (some (0, false)))) = some (r1, r2) := h; clear h; replace H := bm H; obtain ⟨t578, A4, H⟩ := H; by_cases c5 : t578 = true
 ·
  subst c5
  have H1 : (if a2 < 0 then (some (0, false)) else ((Q65.f l1 a2).bind fun t579 => (some (t579, true)))) = some (r1, r2) := by rw [if_pos rfl] at H; exact H
  clear H; have H := H1; clear H1; by_cases c6 : a2 < 0
  ·
   rw [if_pos c6] at H; have c6b0 := decide_eq_true c6; clear c6; simp only [Option.some.injEq, Prod.mk.injEq] at H
   obtain ⟨rfl, rfl⟩ := H; go_enter Try.func27, Try.ntmps27
   go_wp2_with (first | ((with_reducible refine gate_dst (N := 3) rfl ?_); refine bx (N := 3) #[.int .i64 a0_0, .bool a0_1] 25 ?_; intro gb577 hg w7 hbox hb; have BK577 := A_ (hbox); have GW577 := A_ (bs hg (hq HB) : w.heap.size ≤ gb577); have GE577 := A_ (bs hg (hq HB) : w.heap.size ≤ gb577); replace HB := A_ (below_step (hq HB) hb); clear hb hbox hg; have hcz8_0 : w7.cell? ⟨gb577, 0, none⟩ = some (.int .i64 a0_0) := bc BK577 0; have hcz8_1 : w7.cell? ⟨gb577, 1, none⟩ = some (.bool a0_1) := bc BK577 1; have hfz8_0 := blk_frozen BK577.out 0; have hfz8_1 := blk_frozen BK577.out 1) | ((with_reducible refine gate_callee (f := 31) rfl ?_); refine gL (some 10) Try.func31 #[.agg #[.int .i64 a0_0, .bool a0_1], .slice A1 l1.length c1] ?_; (with_reducible refine (Q1.calls k a0_0 a0_1 _ _ l1 true _ ?side1 ?side2 A4.out).mono ?_); (case side1 => exact cq (Kd.C_below HR1.out HB.out)); (case side2 => exact HC1.out); rintro e w9 ⟨rfl, hb⟩; refine ⟨_, rfl, ?_⟩; replace BK577 := A_ (blk_below (bq BK577) hb); replace HB := A_ (below_step (hq HB) hb); clear hb))
   go_ret2
   exact ⟨rt, hq HB⟩
  ·
   rw [if_neg c6] at H; have c6b0 := decide_eq_false c6; clear c6; replace H := bm H; obtain ⟨t579, A10, H⟩ := H; simp only [Option.some.injEq, Prod.mk.injEq] at H
   obtain ⟨rfl, rfl⟩ := H; go_enter Try.func27, Try.ntmps27
   go_wp2_with (first | ((with_reducible refine gate_dst (N := 3) rfl ?_); refine bx (N := 3) #[.int .i64 a0_0, .bool a0_1] 25 ?_; intro gb577 hg w11 hbox hb; have BK577 := A_ (hbox); have GW577 := A_ (bs hg (hq HB) : w.heap.size ≤ gb577); have GE577 := A_ (bs hg (hq HB) : w.heap.size ≤ gb577); replace HB := A_ (below_step (hq HB) hb); clear hb hbox hg; have hcz12_0 : w11.cell? ⟨gb577, 0, none⟩ = some (.int .i64 a0_0) := bc BK577 0; have hcz12_1 : w11.cell? ⟨gb577, 1, none⟩ = some (.bool a0_1) := bc BK577 1; have hfz12_0 := blk_frozen BK577.out 0; have hfz12_1 := blk_frozen BK577.out 1) | ((with_reducible refine gate_callee (f := 31) rfl ?_); refine gL (some 10) Try.func31 #[.agg #[.int .i64 a0_0, .bool a0_1], .slice A1 l1.length c1] ?_; (with_reducible refine (Q1.calls k a0_0 a0_1 _ _ l1 true _ ?side1 ?side2 A4.out).mono ?_); (case side1 => exact cq (Kd.C_below HR1.out HB.out)); (case side2 => exact HC1.out); rintro e w13 ⟨rfl, hb⟩; refine ⟨_, rfl, ?_⟩; replace BK577 := A_ (blk_below (bq BK577) hb); replace HB := A_ (below_step (hq HB) hb); clear hb) | ((with_reducible refine gate_callee (f := 57) rfl ?_); refine gL (some 18) Try.func57 #[.slice A1 l1.length c1, .int .i64 a2] ?_; (with_reducible refine (Q65.calls _ _ l1 a2 t579 _ ?side1 ?side2 A10.out).mono ?_); (case side1 => exact cq (Kd.C_below HR1.out HB.out)); (case side2 => exact HC1.out); rintro e w' ⟨rfl, ⟨nd, rfl⟩⟩; refine ⟨_, rfl, ?_⟩))
   go_ret2
   exact ⟨rt, hq HB⟩
 ·
  replace c5 := Bool.eq_false_iff.mpr c5; subst c5
  have H1 : (some (0, false)) = some (r1, r2) := by rw [if_neg (show ¬ (false = true) by decide)] at H; exact H
  clear H; have H := H1; clear H1; simp only [Option.some.injEq, Prod.mk.injEq] at H
  obtain ⟨rfl, rfl⟩ := H; go_enter Try.func27, Try.ntmps27
  go_wp2_with (first | ((with_reducible refine gate_dst (N := 3) rfl ?_); refine bx (N := 3) #[.int .i64 a0_0, .bool a0_1] 25 ?_; intro gb577 hg w14 hbox hb; have BK577 := A_ (hbox); have GW577 := A_ (bs hg (hq HB) : w.heap.size ≤ gb577); have GE577 := A_ (bs hg (hq HB) : w.heap.size ≤ gb577); replace HB := A_ (below_step (hq HB) hb); clear hb hbox hg; have hcz15_0 : w14.cell? ⟨gb577, 0, none⟩ = some (.int .i64 a0_0) := bc BK577 0; have hcz15_1 : w14.cell? ⟨gb577, 1, none⟩ = some (.bool a0_1) := bc BK577 1; have hfz15_0 := blk_frozen BK577.out 0; have hfz15_1 := blk_frozen BK577.out 1) | ((with_reducible refine gate_callee (f := 31) rfl ?_); refine gL (some 10) Try.func31 #[.agg #[.int .i64 a0_0, .bool a0_1], .slice A1 l1.length c1] ?_; (with_reducible refine (Q1.calls k a0_0 a0_1 _ _ l1 false _ ?side1 ?side2 A4.out).mono ?_); (case side1 => exact cq (Kd.C_below HR1.out HB.out)); (case side2 => exact HC1.out); rintro e w16 ⟨rfl, hb⟩; refine ⟨_, rfl, ?_⟩; replace BK577 := A_ (blk_below (bq BK577) hb); replace HB := A_ (below_step (hq HB) hb); clear hb))
  go_ret2
  exact ⟨rt, hq HB⟩

end Go.Proofs.Ytbjpfnpleajhgaa.PFnWalks
