-- Printed, and told shorter by this session's program shrink.py.
-- Printed by this session's program myprint.py.
import Derived.Test.YtmamhnbhahafgaaPFnLabelsx0
import Derived.Test.YtmamhnbhahafgaaPFnLabelsx1
import Derived.Test.YtmamhnbhahafgaaPFnLabelsx6
namespace Go.Proofs.Ytmamhnbhahafgaa.PFnLabels
open Go.RowKit Go.Proofs.Ytmamhnbhahafgaa.Own Go.Proofs.YtmamhnbhahafgaaW.PrintWords Go.Proofs.YtmamhnbhahafgaaW.PrintLast Go.Proofs.YtmamhnbhahafgaaW.PrintMore
attribute [local go_sem] max2_int min2_int max_two min_two max_three min_three max_four min_four   -- for this text's walks alone
set_option linter.unusedVariables false
set_option linter.unusedSimpArgs false

/-! ### spec_l4Moves: function 124 -/
mutual
def spec_l4Moves.l0 : Nat → List Int → Int → Option (Bool)
  | 0, _, _ => none
  | k + 1, x0, x3 => if x3 < (x0.length : Int) then (spec_l4Moves.j1 k x0 x3 (decide (x3 ≤ 24))) else (spec_l4Moves.j1 k x0 x3 false)
def spec_l4Moves.j1 : Nat → List Int → Int → Bool → Option (Bool)
  | 0, _, _, _ => none
  | k + 1, x0, x3, x11 => if x11 = true then (if 0 ≤ x3 then (if x3 < (x0.length : Int) then ((spec_l1In.f (rd x0 x3) (-1) 1).bind fun t324 => (if t324 = true then (spec_l4Moves.l0 k x0 (wrap64 (x3 + 1))) else (some false))) else (none)) else (none)) else ((spec_l1In.f (x0.length : Int) 1 24).bind fun t325 => (some t325))
end
def spec_l4Moves.f (k : Nat) (l0 : List Int) : Option (Bool) := spec_l4Moves.l0 k l0 0
theorem spec_l4Moves.mono_l : ∀ k, (∀ y0 y1, LeO (spec_l4Moves.l0 k y0 y1) (spec_l4Moves.l0 (k + 1) y0 y1)) ∧ (∀ y0 y1 y2, LeO (spec_l4Moves.j1 k y0 y1 y2) (spec_l4Moves.j1 (k + 1) y0 y1 y2))
  | 0 => ⟨fun _ _ r h => by simp [spec_l4Moves.l0] at h, fun _ _ _ r h => by simp [spec_l4Moves.j1] at h⟩
  | k + 1 => by
    obtain ⟨ih0, ih1⟩ := spec_l4Moves.mono_l k
    refine ⟨?_, ?_⟩
    · intro y0 y1
      unfold spec_l4Moves.l0
      repeat' first
      | (with_reducible exact ih0 _ _)
      | (with_reducible exact ih1 _ _ _)
      | (with_reducible exact LeO.refl _)
      | (with_reducible exact LeO.none _)
      | (with_reducible refine LeO.ite ?_ ?_)
      | (with_reducible refine LeO.bind ?_ (fun _ => ?_))
      | exact ih0 _ _
      | exact ih1 _ _ _
      | exact LeO.none _
      | refine LeO.ite ?_ ?_
      | refine LeO.bind ?_ (fun _ => ?_)
    · intro y0 y1 y2
      unfold spec_l4Moves.j1
      repeat' first
      | (with_reducible exact ih0 _ _)
      | (with_reducible exact ih1 _ _ _)
      | (with_reducible exact LeO.refl _)
      | (with_reducible exact LeO.none _)
      | (with_reducible refine LeO.ite ?_ ?_)
      | (with_reducible refine LeO.bind ?_ (fun _ => ?_))
      | exact ih0 _ _
      | exact ih1 _ _ _
      | exact LeO.none _
      | refine LeO.ite ?_ ?_
      | refine LeO.bind ?_ (fun _ => ?_)
theorem spec_l4Moves.mono : ∀ a0 k, LeO (spec_l4Moves.f k a0) (spec_l4Moves.f (k + 1) a0) := by
  intro a0 k
  obtain ⟨ih0, ih1⟩ := spec_l4Moves.mono_l k
  unfold spec_l4Moves.f
  repeat' first
      | (with_reducible exact ih0 _ _)
      | (with_reducible exact ih1 _ _ _)
      | (with_reducible exact LeO.refl _)
      | (with_reducible exact LeO.none _)
      | (with_reducible refine LeO.ite ?_ ?_)
      | (with_reducible refine LeO.bind ?_ (fun _ => ?_))
      | exact ih0 _ _
      | exact ih1 _ _ _
      | exact LeO.none _
      | refine LeO.ite ?_ ?_
      | refine LeO.bind ?_ (fun _ => ?_)
set_option maxHeartbeats 8000000 in
set_option maxRecDepth 100000 in
theorem spec_l4Moves.calls (k : Nat) (A0 : Option Addr) (c0 : Nat) (l0 : List Int) (r : Bool) (w : World) (hr0 : Kd.C (Kd.int .i64) w A0 l0.length l0) (hc0 : l0.length ≤ c0) (h : spec_l4Moves.f k l0 = some r) :
    Calls Try.prog 124 #[.slice A0 l0.length c0] w fun e w' => e = .returned (.bool r) ∧ Drawn0 w w' := by
 have HR0 := A_ hr0
 have HC0 := A_ hc0
 clear hr0 hc0
 have H : (spec_l4Moves.l0 k l0 0) = some r := h
 clear h
 have H' := A_ H
 clear H
 go_enter Try.func124, Try.ntmps124
 go_wp2
 go_loopg [3] k (fun kq v3 w' => ∃ (x3_1 : Int), v3 = .int .i64 x3_1 ∧ Aside0 (spec_l4Moves.l0 kq l0 x3_1 = some r) ∧ Aside0 (kq ≤ k) ∧ Drawn0 w w')
 case atStart => exact ⟨(0), (by first | rfl | (simp; done) | (simp [*]; done)), H', ⟨Nat.le_refl _⟩, by repeat (first | exact Drawn0.refl _ | apply Drawn0.step)⟩
 case round =>
  clear H'
  try clear c1
  obtain ⟨x3_1, rfl, HA, HK1, ⟨m1, rfl⟩⟩ := hrel
  cases gk with
  | zero => exact absurd HA.out (by simp [spec_l4Moves.l0])
  | succ k1 =>
   have H := HA.out
   clear HA
   simp only [spec_l4Moves.l0] at H
   have HC2 := A_ H
   clear H
   go_upto_region 2 with (fail)
   go_cut [11] (fun v11 wc => ∃ (kq : Nat) (x11_1 : Bool), v11 = .bool x11_1 ∧ Aside0 (spec_l4Moves.j1 kq l0 x3_1 x11_1 = some r) ∧ Aside0 (kq ≤ k1) ∧ Drawn0 w wc)
   case first =>
    have H := HC2.out
    clear HC2
    by_cases c3 : x3_1 < (l0.length : Int)
    ·
     rw [if_pos c3] at H
     have c3b0 : decide (x3_1 < (l0.length : Int)) = true := decide_eq_true c3
     clear c3
     (first | rw [c3b0] | (simp only [i64_w, i32_w]; rw [c3b0]) | skip)
     have H' := A_ H
     clear H
     go_wp2
     go_meet
     case rel => exact ⟨_, (decide (x3_1 ≤ 24)), (by first | rfl | (simp; done) | (simp [*]; done)), H', ⟨by have := HK1.out; first | omega | exact Nat.le_refl _⟩, by repeat (first | exact Drawn0.refl _ | apply Drawn0.step)⟩
    ·
     rw [if_neg c3] at H
     have c3b0 : decide (x3_1 < (l0.length : Int)) = false := decide_eq_false c3
     clear c3
     (first | rw [c3b0] | (simp only [i64_w, i32_w]; rw [c3b0]) | skip)
     have H' := A_ H
     clear H
     go_wp2
     go_meet
     case rel => exact ⟨_, (false), (by first | rfl | (simp; done) | (simp [*]; done)), H', ⟨by have := HK1.out; first | omega | exact Nat.le_refl _⟩, by repeat (first | exact Drawn0.refl _ | apply Drawn0.step)⟩
   case rest =>
    clear HC2
    try clear c1
    try clear p2
    try clear c3
    try clear c3b0
    obtain ⟨kq, x11_1, rfl, HA, HJ1, ⟨mc1, rfl⟩⟩ := hcut
    cases kq with
    | zero => exact absurd HA.out (by simp [spec_l4Moves.j1])
    | succ kj1 =>
     have H := HA.out
     clear HA
     simp only [spec_l4Moves.j1] at H
     by_cases c4 : x11_1 = true
     ·
      subst c4
      have H1 : (if 0 ≤ x3_1 then (if x3_1 < (l0.length : Int) then ((spec_l1In.f (rd l0 x3_1) (-1) 1).bind fun t324 => (if t324 = true then (spec_l4Moves.l0 kj1 l0 (wrap64 (x3_1 + 1))) else (some false))) else (none)) else (none)) = some r := by rw [if_pos rfl] at H; exact H
      clear H
      have H := H1
      clear H1
      by_cases c5 : 0 ≤ x3_1
      ·
       rw [if_pos c5] at H
       have c5b0 : decide (0 ≤ x3_1) = true := decide_eq_true c5
       clear c5
       by_cases c6 : x3_1 < (l0.length : Int)
       ·
        rw [if_pos c6] at H
        have c6b0 : decide (x3_1 < (l0.length : Int)) = true := decide_eq_true c6
        clear c6
        replace H := Option.bind_eq_some_iff.mp H
        obtain ⟨t324, A70, H⟩ := H
        replace H : (if t324 = true then (spec_l4Moves.l0 kj1 l0 (wrap64 (x3_1 + 1))) else (some false)) = some r := H
        have A7 := A_ A70
        clear A70
        by_cases c8 : t324 = true
        ·
         subst c8
         have H1 : (spec_l4Moves.l0 kj1 l0 (wrap64 (x3_1 + 1))) = some r := by rw [if_pos rfl] at H; exact H
         clear H
         have H := H1
         clear H1
         have H' := A_ H
         clear H
         have p323 : 0 ≤ (x3_1 : Int) := of_decide_eq_true (by first | (with_reducible assumption) | assumption)
         have q323 : x3_1 < (l0.length : Int) := of_decide_eq_true (by first | (with_reducible assumption) | assumption)
         obtain ⟨ad323, e323, hx323_0⟩ := Kd.at_int HR0.out x3_1 p323 q323
         cases e323
         replace p323 := eq_true p323
         replace q323 := eq_true q323
         go_wp2_with (first | ((with_reducible refine gate_callee (f := 75) rfl ?_); refine goesL_ (some 18) rfl rfl Try.func75 (by kernel_rfl) rfl #[.int .i64 (rd l0 x3_1), .int .i64 (-1), .int .i64 1] rfl gq ?_; (with_reducible refine (spec_l1In.calls (rd l0 x3_1) (-1) 1 true _ A7.out).mono ?_); rintro e w' ⟨rfl, ⟨nd, rfl⟩⟩; refine ⟨_, rfl, ?_⟩))
         go_roundg kj1
         case measure => have := HK1.out; have := HJ1.out; omega
         case rel => exact ⟨(wrap64 (x3_1 + 1)), (by first | rfl | (simp; done) | (simp [*]; done)), H', ⟨by have := HK1.out; have := HJ1.out; omega⟩, by repeat (first | exact Drawn0.refl _ | apply Drawn0.step)⟩
        ·
         replace c8 := Bool.eq_false_iff.mpr c8
         subst c8
         have H1 : (some false) = some r := by rw [if_neg (show ¬ (false = true) by decide)] at H; exact H
         clear H
         have H := H1
         clear H1
         obtain rfl := Option.some.inj H
         have p323 : 0 ≤ (x3_1 : Int) := of_decide_eq_true (by first | (with_reducible assumption) | assumption)
         have q323 : x3_1 < (l0.length : Int) := of_decide_eq_true (by first | (with_reducible assumption) | assumption)
         obtain ⟨ad323, e323, hx323_0⟩ := Kd.at_int HR0.out x3_1 p323 q323
         cases e323
         replace p323 := eq_true p323
         replace q323 := eq_true q323
         go_wp2_with (first | ((with_reducible refine gate_callee (f := 75) rfl ?_); refine goesL_ (some 18) rfl rfl Try.func75 (by kernel_rfl) rfl #[.int .i64 (rd l0 x3_1), .int .i64 (-1), .int .i64 1] rfl gq ?_; (with_reducible refine (spec_l1In.calls (rd l0 x3_1) (-1) 1 false _ A7.out).mono ?_); rintro e w' ⟨rfl, ⟨nd, rfl⟩⟩; refine ⟨_, rfl, ?_⟩))
         go_ret
         exact ⟨by first | rfl | (simp; done) | (simp [*]; done), by repeat (first | exact Drawn0.refl _ | apply Drawn0.step)⟩
       ·
        rw [if_neg c6] at H
        exact absurd H (by simp)
      ·
       rw [if_neg c5] at H
       exact absurd H (by simp)
     ·
      replace c4 := Bool.eq_false_iff.mpr c4
      subst c4
      have H1 : ((spec_l1In.f (l0.length : Int) 1 24).bind fun t325 => (some t325)) = some r := by rw [if_neg (show ¬ (false = true) by decide)] at H; exact H
      clear H
      have H := H1
      clear H1
      replace H := Option.bind_eq_some_iff.mp H
      obtain ⟨t325, A90, H⟩ := H
      replace H : (some t325) = some r := H
      have A9 := A_ A90
      clear A90
      obtain rfl := Option.some.inj H
      go_wp2_with (first | ((with_reducible refine gate_callee (f := 75) rfl ?_); refine goesL_ (some 22) rfl rfl Try.func75 (by kernel_rfl) rfl #[.int .i64 (l0.length : Int), .int .i64 1, .int .i64 24] rfl gq ?_; (with_reducible refine (spec_l1In.calls (l0.length : Int) 1 24 t325 _ A9.out).mono ?_); rintro e w' ⟨rfl, ⟨nd, rfl⟩⟩; refine ⟨_, rfl, ?_⟩))
      go_ret
      exact ⟨by first | rfl | (simp; done) | (simp [*]; done), by repeat (first | exact Drawn0.refl _ | apply Drawn0.step)⟩

/-! ### spec_l4Walker: function 119 -/
def spec_l4Walker.f (k : Nat) (a0_0 : Int) (a0_1 : Bool) (a1_0 : Int) (a1_1 : Int) (a1_2 : Int) (l1_3 : List Int) : Option (Bool) := (spec_l2Place.f a0_0 a0_1 a1_0).bind fun t328 => (if t328 = true then (if a1_1 = 1 then ((spec_l1In.f a1_2 0 60).bind fun t329 => (if t329 = true then ((spec_l4Moves.f k l1_3).bind fun t330 => (some t330)) else (some false))) else (if a1_1 = (-1) then ((spec_l1In.f a1_2 0 60).bind fun t331 => (if t331 = true then ((spec_l4Moves.f k l1_3).bind fun t332 => (some t332)) else (some false))) else (some false))) else (some false))
theorem spec_l4Walker.mono : ∀ a0 a1 a2 a3 a4 a5 k, LeO (spec_l4Walker.f k a0 a1 a2 a3 a4 a5) (spec_l4Walker.f (k + 1) a0 a1 a2 a3 a4 a5) := by
  intro a0 a1 a2 a3 a4 a5 k
  unfold spec_l4Walker.f
  repeat' first
      | (with_reducible exact spec_l4Moves.mono _ _)
      | (with_reducible exact LeO.refl _)
      | (with_reducible exact LeO.none _)
      | (with_reducible refine LeO.ite ?_ ?_)
      | (with_reducible refine LeO.bind ?_ (fun _ => ?_))
      | exact spec_l4Moves.mono _ _
      | exact LeO.none _
      | refine LeO.ite ?_ ?_
      | refine LeO.bind ?_ (fun _ => ?_)
set_option maxHeartbeats 8000000 in
set_option maxRecDepth 100000 in
theorem spec_l4Walker.calls (k : Nat) (a0_0 : Int) (a0_1 : Bool) (a1_0 : Int) (a1_1 : Int) (a1_2 : Int) (A1_3 : Option Addr) (c1_3 : Nat) (l1_3 : List Int) (r : Bool) (w : World) (hr1_3 : Kd.C (Kd.int .i64) w A1_3 l1_3.length l1_3) (hc1_3 : l1_3.length ≤ c1_3) (h : spec_l4Walker.f k a0_0 a0_1 a1_0 a1_1 a1_2 l1_3 = some r) :
    Calls Try.prog 119 #[.agg #[.int .i64 a0_0, .bool a0_1], .agg #[.int .i64 a1_0, .int .i64 a1_1, .int .i64 a1_2, .slice A1_3 l1_3.length c1_3]] w fun e w' => e = .returned (.bool r) ∧ Below w.heap.size w w' := by
 have hu25 := Try.underlying25
 have hu93 := Try.underlying93
 have HR1_3 := A_ hr1_3
 have HC1_3 := A_ hc1_3
 clear hr1_3 hc1_3
 have HB := A_ (Below.refl w.heap.size w)
 have H : ((spec_l2Place.f a0_0 a0_1 a1_0).bind fun t328 => (if t328 = true then (if a1_1 = 1 then ((spec_l1In.f a1_2 0 60).bind fun t329 => (if t329 = true then ((spec_l4Moves.f k l1_3).bind fun t330 => (some t330)) else (some false))) else (if a1_1 = (-1) then ((spec_l1In.f a1_2 0 60).bind fun t331 => (if t331 = true then ((spec_l4Moves.f k l1_3).bind fun t332 => (some t332)) else (some false))) else (some false))) else (some false))) = some r := h
 clear h
 replace H := Option.bind_eq_some_iff.mp H
 obtain ⟨t328, A30, H⟩ := H
 replace H : (if t328 = true then (if a1_1 = 1 then ((spec_l1In.f a1_2 0 60).bind fun t329 => (if t329 = true then ((spec_l4Moves.f k l1_3).bind fun t330 => (some t330)) else (some false))) else (if a1_1 = (-1) then ((spec_l1In.f a1_2 0 60).bind fun t331 => (if t331 = true then ((spec_l4Moves.f k l1_3).bind fun t332 => (some t332)) else (some false))) else (some false))) else (some false)) = some r := H
 have A3 := A_ A30
 clear A30
 by_cases c4 : t328 = true
 ·
  subst c4
  have H1 : (if a1_1 = 1 then ((spec_l1In.f a1_2 0 60).bind fun t329 => (if t329 = true then ((spec_l4Moves.f k l1_3).bind fun t330 => (some t330)) else (some false))) else (if a1_1 = (-1) then ((spec_l1In.f a1_2 0 60).bind fun t331 => (if t331 = true then ((spec_l4Moves.f k l1_3).bind fun t332 => (some t332)) else (some false))) else (some false))) = some r := by rw [if_pos rfl] at H; exact H
  clear H
  have H := H1
  clear H1
  by_cases c5 : a1_1 = 1
  ·
   rw [if_pos c5] at H
   have c5b0 : (a1_1 == 1) = true := beq_iff_eq.mpr c5
   have c5b1 : (a1_1 != 1) = false := bne_eq_false_iff_eq.mpr c5
   clear c5
   replace H := Option.bind_eq_some_iff.mp H
   obtain ⟨t329, A60, H⟩ := H
   replace H : (if t329 = true then ((spec_l4Moves.f k l1_3).bind fun t330 => (some t330)) else (some false)) = some r := H
   have A6 := A_ A60
   clear A60
   by_cases c7 : t329 = true
   ·
    subst c7
    have H1 : ((spec_l4Moves.f k l1_3).bind fun t330 => (some t330)) = some r := by rw [if_pos rfl] at H; exact H
    clear H
    have H := H1
    clear H1
    replace H := Option.bind_eq_some_iff.mp H
    obtain ⟨t330, A80, H⟩ := H
    replace H : (some t330) = some r := H
    have A8 := A_ A80
    clear A80
    obtain rfl := Option.some.inj H
    go_enter Try.func119, Try.ntmps119
    go_wp2_with (first | ((with_reducible refine gate_dst (N := 2) rfl ?_); refine box_event ?hg (N := 2) ?hd (cs := #[.int .i64 a0_0, .bool a0_1]) (t := 25) ?hr ?_; (case hd => rfl); (case hg => rfl); (case hr => first | (go_simp; done) | (go_simp; rfl)); intro gb326 hg w9 hbox hb; have n0_ := A_ (below_step (hq HB) hb); have n1_ := A_ (hbox); have n2_ := A_ ((by rw [hg]; exact (below_size (hq HB)) : w.heap.size ≤ gb326)); have n3_ := A_ ((by rw [hg]; exact (below_size (hq HB)) : w.heap.size ≤ gb326)); clear HB; have HB := n0_; have BK326 := n1_; have GW326 := n2_; have GE326 := n3_; clear n0_ n1_ n2_ n3_; clear hb hbox hg) | ((with_reducible refine gate_dst (N := 3) rfl ?_); refine box_event ?hg (N := 3) ?hd (cs := #[.int .i64 a1_0, .int .i64 a1_1, .int .i64 a1_2, .slice A1_3 l1_3.length c1_3]) (t := 93) ?hr ?_; (case hd => rfl); (case hg => rfl); (case hr => first | (go_simp; done) | (go_simp; rfl)); intro gb327 hg w10 hbox hb; have n0_ := A_ (blk_below (bq BK326) hb); have n1_ := A_ (below_step (hq HB) hb); have n2_ := A_ (hbox); have n3_ := A_ ((by rw [hg]; exact (below_size (hq HB)) : w.heap.size ≤ gb327)); have n4_ := A_ ((by rw [hg]; exact (below_size (hq HB)) : w.heap.size ≤ gb327)); have n5_ := A_ ((by rw [hg]; exact Nat.ne_of_lt (blk_lt (bq BK326)) : gb326 ≠ gb327)); have n6_ := A_ ((by rw [hg]; exact Nat.ne_of_gt (blk_lt (bq BK326)) : gb327 ≠ gb326)); clear BK326; clear HB; have BK326 := n0_; have HB := n1_; have BK327 := n2_; have GW327 := n3_; have GE327 := n4_; have NB326_327 := n5_; have NB327_326 := n6_; clear n0_ n1_ n2_ n3_ n4_ n5_ n6_; clear hb hbox hg; have hnb11 := NB326_327.out; have hnc11 := NB327_326.out; have hcz12_0 : w10.cell? ⟨gb326, 0, none⟩ = some (.int .i64 a0_0) := bc BK326 0; have hcz12_1 : w10.cell? ⟨gb326, 1, none⟩ = some (.bool a0_1) := bc BK326 1; have hfz12_0 := blk_frozen BK326.out 0; have hfz12_1 := blk_frozen BK326.out 1; have hcz13_0 : w10.cell? ⟨gb327, 0, none⟩ = some (.int .i64 a1_0) := bc BK327 0; have hcz13_1 : w10.cell? ⟨gb327, 1, none⟩ = some (.int .i64 a1_1) := bc BK327 1; have hcz13_2 : w10.cell? ⟨gb327, 2, none⟩ = some (.int .i64 a1_2) := bc BK327 2; have hcz13_3 : w10.cell? ⟨gb327, 3, none⟩ = some (.slice A1_3 l1_3.length c1_3) := bc BK327 3; have hfz13_0 := blk_frozen BK327.out 0; have hfz13_1 := blk_frozen BK327.out 1; have hfz13_2 := blk_frozen BK327.out 2; have hfz13_3 := blk_frozen BK327.out 3) | ((with_reducible refine gate_callee (f := 87) rfl ?_); refine goesL_ (some 8) rfl rfl Try.func87 (by kernel_rfl) rfl #[.agg #[.int .i64 a0_0, .bool a0_1], .int .i64 a1_0] rfl gq ?_; (with_reducible refine (spec_l2Place.calls a0_0 a0_1 a1_0 true _ A3.out).mono ?_); rintro e w14 ⟨rfl, hb⟩; refine ⟨_, rfl, ?_⟩; have n0_ := A_ (blk_below (bq BK326) hb); have n1_ := A_ (blk_below (bq BK327) hb); have n2_ := A_ (below_step (hq HB) hb); clear BK326; clear BK327; clear HB; have BK326 := n0_; have BK327 := n1_; have HB := n2_; clear n0_ n1_ n2_; (try clear hb); (try clear hb2); (try clear hk); (try clear hi); have hcz15_0 : w14.cell? ⟨gb327, 0, none⟩ = some (.int .i64 a1_0) := bc BK327 0; have hcz15_1 : w14.cell? ⟨gb327, 1, none⟩ = some (.int .i64 a1_1) := bc BK327 1; have hcz15_2 : w14.cell? ⟨gb327, 2, none⟩ = some (.int .i64 a1_2) := bc BK327 2; have hcz15_3 : w14.cell? ⟨gb327, 3, none⟩ = some (.slice A1_3 l1_3.length c1_3) := bc BK327 3; have hfz15_0 := blk_frozen BK327.out 0; have hfz15_1 := blk_frozen BK327.out 1; have hfz15_2 := blk_frozen BK327.out 2; have hfz15_3 := blk_frozen BK327.out 3) | (go_at_call 75; (with_reducible refine (spec_l1In.calls a1_2 0 60 true _ A6.out).mono ?_); rintro e w' ⟨rfl, ⟨nd, rfl⟩⟩) | (go_at_call 124; (with_reducible refine (spec_l4Moves.calls k _ _ l1_3 t330 _ ?side1 ?side2 A8.out).mono ?_); (case side1 => exact cq (Kd.C_below HR1_3.out (hq HB))); (case side2 => exact HC1_3.out); rintro e w' ⟨rfl, ⟨nd, rfl⟩⟩))
    go_ret
    exact ⟨rt, hq HB⟩
   ·
    replace c7 := Bool.eq_false_iff.mpr c7
    subst c7
    have H1 : (some false) = some r := by rw [if_neg (show ¬ (false = true) by decide)] at H; exact H
    clear H
    have H := H1
    clear H1
    obtain rfl := Option.some.inj H
    go_enter Try.func119, Try.ntmps119
    go_wp2_with (first | ((with_reducible refine gate_dst (N := 2) rfl ?_); refine box_event ?hg (N := 2) ?hd (cs := #[.int .i64 a0_0, .bool a0_1]) (t := 25) ?hr ?_; (case hd => rfl); (case hg => rfl); (case hr => first | (go_simp; done) | (go_simp; rfl)); intro gb326 hg w16 hbox hb; have n0_ := A_ (below_step (hq HB) hb); have n1_ := A_ (hbox); have n2_ := A_ ((by rw [hg]; exact (below_size (hq HB)) : w.heap.size ≤ gb326)); have n3_ := A_ ((by rw [hg]; exact (below_size (hq HB)) : w.heap.size ≤ gb326)); clear HB; have HB := n0_; have BK326 := n1_; have GW326 := n2_; have GE326 := n3_; clear n0_ n1_ n2_ n3_; clear hb hbox hg) | ((with_reducible refine gate_dst (N := 3) rfl ?_); refine box_event ?hg (N := 3) ?hd (cs := #[.int .i64 a1_0, .int .i64 a1_1, .int .i64 a1_2, .slice A1_3 l1_3.length c1_3]) (t := 93) ?hr ?_; (case hd => rfl); (case hg => rfl); (case hr => first | (go_simp; done) | (go_simp; rfl)); intro gb327 hg w17 hbox hb; have n0_ := A_ (blk_below (bq BK326) hb); have n1_ := A_ (below_step (hq HB) hb); have n2_ := A_ (hbox); have n3_ := A_ ((by rw [hg]; exact (below_size (hq HB)) : w.heap.size ≤ gb327)); have n4_ := A_ ((by rw [hg]; exact (below_size (hq HB)) : w.heap.size ≤ gb327)); have n5_ := A_ ((by rw [hg]; exact Nat.ne_of_lt (blk_lt (bq BK326)) : gb326 ≠ gb327)); have n6_ := A_ ((by rw [hg]; exact Nat.ne_of_gt (blk_lt (bq BK326)) : gb327 ≠ gb326)); clear BK326; clear HB; have BK326 := n0_; have HB := n1_; have BK327 := n2_; have GW327 := n3_; have GE327 := n4_; have NB326_327 := n5_; have NB327_326 := n6_; clear n0_ n1_ n2_ n3_ n4_ n5_ n6_; clear hb hbox hg; have hnb18 := NB326_327.out; have hnc18 := NB327_326.out; have hcz19_0 : w17.cell? ⟨gb326, 0, none⟩ = some (.int .i64 a0_0) := bc BK326 0; have hcz19_1 : w17.cell? ⟨gb326, 1, none⟩ = some (.bool a0_1) := bc BK326 1; have hfz19_0 := blk_frozen BK326.out 0; have hfz19_1 := blk_frozen BK326.out 1; have hcz20_0 : w17.cell? ⟨gb327, 0, none⟩ = some (.int .i64 a1_0) := bc BK327 0; have hcz20_1 : w17.cell? ⟨gb327, 1, none⟩ = some (.int .i64 a1_1) := bc BK327 1; have hcz20_2 : w17.cell? ⟨gb327, 2, none⟩ = some (.int .i64 a1_2) := bc BK327 2; have hcz20_3 : w17.cell? ⟨gb327, 3, none⟩ = some (.slice A1_3 l1_3.length c1_3) := bc BK327 3; have hfz20_0 := blk_frozen BK327.out 0; have hfz20_1 := blk_frozen BK327.out 1; have hfz20_2 := blk_frozen BK327.out 2; have hfz20_3 := blk_frozen BK327.out 3) | ((with_reducible refine gate_callee (f := 87) rfl ?_); refine goesL_ (some 8) rfl rfl Try.func87 (by kernel_rfl) rfl #[.agg #[.int .i64 a0_0, .bool a0_1], .int .i64 a1_0] rfl gq ?_; (with_reducible refine (spec_l2Place.calls a0_0 a0_1 a1_0 true _ A3.out).mono ?_); rintro e w21 ⟨rfl, hb⟩; refine ⟨_, rfl, ?_⟩; have n0_ := A_ (blk_below (bq BK326) hb); have n1_ := A_ (blk_below (bq BK327) hb); have n2_ := A_ (below_step (hq HB) hb); clear BK326; clear BK327; clear HB; have BK326 := n0_; have BK327 := n1_; have HB := n2_; clear n0_ n1_ n2_; (try clear hb); (try clear hb2); (try clear hk); (try clear hi); have hcz22_0 : w21.cell? ⟨gb327, 0, none⟩ = some (.int .i64 a1_0) := bc BK327 0; have hcz22_1 : w21.cell? ⟨gb327, 1, none⟩ = some (.int .i64 a1_1) := bc BK327 1; have hcz22_2 : w21.cell? ⟨gb327, 2, none⟩ = some (.int .i64 a1_2) := bc BK327 2; have hcz22_3 : w21.cell? ⟨gb327, 3, none⟩ = some (.slice A1_3 l1_3.length c1_3) := bc BK327 3; have hfz22_0 := blk_frozen BK327.out 0; have hfz22_1 := blk_frozen BK327.out 1; have hfz22_2 := blk_frozen BK327.out 2; have hfz22_3 := blk_frozen BK327.out 3) | (go_at_call 75; (with_reducible refine (spec_l1In.calls a1_2 0 60 false _ A6.out).mono ?_); rintro e w' ⟨rfl, ⟨nd, rfl⟩⟩))
    go_ret
    exact ⟨rt, hq HB⟩
  ·
   rw [if_neg c5] at H
   have c5b0 : (a1_1 == 1) = false := beq_eq_false_iff_ne.mpr c5
   have c5b1 : (a1_1 != 1) = true := bne_iff_ne.mpr c5
   by_cases c23 : a1_1 = (-1)
   ·
    rw [if_pos c23] at H
    have c23b0 : (a1_1 == (-1)) = true := beq_iff_eq.mpr c23
    have c23b1 : (a1_1 != (-1)) = false := bne_eq_false_iff_eq.mpr c23
    clear c23
    replace H := Option.bind_eq_some_iff.mp H
    obtain ⟨t331, A240, H⟩ := H
    replace H : (if t331 = true then ((spec_l4Moves.f k l1_3).bind fun t332 => (some t332)) else (some false)) = some r := H
    have A24 := A_ A240
    clear A240
    by_cases c25 : t331 = true
    ·
     subst c25
     have H1 : ((spec_l4Moves.f k l1_3).bind fun t332 => (some t332)) = some r := by rw [if_pos rfl] at H; exact H
     clear H
     have H := H1
     clear H1
     replace H := Option.bind_eq_some_iff.mp H
     obtain ⟨t332, A260, H⟩ := H
     replace H : (some t332) = some r := H
     have A26 := A_ A260
     clear A260
     obtain rfl := Option.some.inj H
     go_enter Try.func119, Try.ntmps119
     go_wp2_with (first | ((with_reducible refine gate_dst (N := 2) rfl ?_); refine box_event ?hg (N := 2) ?hd (cs := #[.int .i64 a0_0, .bool a0_1]) (t := 25) ?hr ?_; (case hd => rfl); (case hg => rfl); (case hr => first | (go_simp; done) | (go_simp; rfl)); intro gb326 hg w27 hbox hb; have n0_ := A_ (below_step (hq HB) hb); have n1_ := A_ (hbox); have n2_ := A_ ((by rw [hg]; exact (below_size (hq HB)) : w.heap.size ≤ gb326)); have n3_ := A_ ((by rw [hg]; exact (below_size (hq HB)) : w.heap.size ≤ gb326)); clear HB; have HB := n0_; have BK326 := n1_; have GW326 := n2_; have GE326 := n3_; clear n0_ n1_ n2_ n3_; clear hb hbox hg) | ((with_reducible refine gate_dst (N := 3) rfl ?_); refine box_event ?hg (N := 3) ?hd (cs := #[.int .i64 a1_0, .int .i64 a1_1, .int .i64 a1_2, .slice A1_3 l1_3.length c1_3]) (t := 93) ?hr ?_; (case hd => rfl); (case hg => rfl); (case hr => first | (go_simp; done) | (go_simp; rfl)); intro gb327 hg w28 hbox hb; have n0_ := A_ (blk_below (bq BK326) hb); have n1_ := A_ (below_step (hq HB) hb); have n2_ := A_ (hbox); have n3_ := A_ ((by rw [hg]; exact (below_size (hq HB)) : w.heap.size ≤ gb327)); have n4_ := A_ ((by rw [hg]; exact (below_size (hq HB)) : w.heap.size ≤ gb327)); have n5_ := A_ ((by rw [hg]; exact Nat.ne_of_lt (blk_lt (bq BK326)) : gb326 ≠ gb327)); have n6_ := A_ ((by rw [hg]; exact Nat.ne_of_gt (blk_lt (bq BK326)) : gb327 ≠ gb326)); clear BK326; clear HB; have BK326 := n0_; have HB := n1_; have BK327 := n2_; have GW327 := n3_; have GE327 := n4_; have NB326_327 := n5_; have NB327_326 := n6_; clear n0_ n1_ n2_ n3_ n4_ n5_ n6_; clear hb hbox hg; have hnb29 := NB326_327.out; have hnc29 := NB327_326.out; have hcz30_0 : w28.cell? ⟨gb326, 0, none⟩ = some (.int .i64 a0_0) := bc BK326 0; have hcz30_1 : w28.cell? ⟨gb326, 1, none⟩ = some (.bool a0_1) := bc BK326 1; have hfz30_0 := blk_frozen BK326.out 0; have hfz30_1 := blk_frozen BK326.out 1; have hcz31_0 : w28.cell? ⟨gb327, 0, none⟩ = some (.int .i64 a1_0) := bc BK327 0; have hcz31_1 : w28.cell? ⟨gb327, 1, none⟩ = some (.int .i64 a1_1) := bc BK327 1; have hcz31_2 : w28.cell? ⟨gb327, 2, none⟩ = some (.int .i64 a1_2) := bc BK327 2; have hcz31_3 : w28.cell? ⟨gb327, 3, none⟩ = some (.slice A1_3 l1_3.length c1_3) := bc BK327 3; have hfz31_0 := blk_frozen BK327.out 0; have hfz31_1 := blk_frozen BK327.out 1; have hfz31_2 := blk_frozen BK327.out 2; have hfz31_3 := blk_frozen BK327.out 3) | ((with_reducible refine gate_callee (f := 87) rfl ?_); refine goesL_ (some 8) rfl rfl Try.func87 (by kernel_rfl) rfl #[.agg #[.int .i64 a0_0, .bool a0_1], .int .i64 a1_0] rfl gq ?_; (with_reducible refine (spec_l2Place.calls a0_0 a0_1 a1_0 true _ A3.out).mono ?_); rintro e w32 ⟨rfl, hb⟩; refine ⟨_, rfl, ?_⟩; have n0_ := A_ (blk_below (bq BK326) hb); have n1_ := A_ (blk_below (bq BK327) hb); have n2_ := A_ (below_step (hq HB) hb); clear BK326; clear BK327; clear HB; have BK326 := n0_; have BK327 := n1_; have HB := n2_; clear n0_ n1_ n2_; (try clear hb); (try clear hb2); (try clear hk); (try clear hi); have hcz33_0 : w32.cell? ⟨gb327, 0, none⟩ = some (.int .i64 a1_0) := bc BK327 0; have hcz33_1 : w32.cell? ⟨gb327, 1, none⟩ = some (.int .i64 a1_1) := bc BK327 1; have hcz33_2 : w32.cell? ⟨gb327, 2, none⟩ = some (.int .i64 a1_2) := bc BK327 2; have hcz33_3 : w32.cell? ⟨gb327, 3, none⟩ = some (.slice A1_3 l1_3.length c1_3) := bc BK327 3; have hfz33_0 := blk_frozen BK327.out 0; have hfz33_1 := blk_frozen BK327.out 1; have hfz33_2 := blk_frozen BK327.out 2; have hfz33_3 := blk_frozen BK327.out 3) | (go_at_call 75; (with_reducible refine (spec_l1In.calls a1_2 0 60 true _ A24.out).mono ?_); rintro e w' ⟨rfl, ⟨nd, rfl⟩⟩) | (go_at_call 124; (with_reducible refine (spec_l4Moves.calls k _ _ l1_3 t332 _ ?side1 ?side2 A26.out).mono ?_); (case side1 => exact cq (Kd.C_below HR1_3.out (hq HB))); (case side2 => exact HC1_3.out); rintro e w' ⟨rfl, ⟨nd, rfl⟩⟩))
     go_ret
     exact ⟨rt, hq HB⟩
    ·
     replace c25 := Bool.eq_false_iff.mpr c25
     subst c25
     have H1 : (some false) = some r := by rw [if_neg (show ¬ (false = true) by decide)] at H; exact H
     clear H
     have H := H1
     clear H1
     obtain rfl := Option.some.inj H
     go_enter Try.func119, Try.ntmps119
     go_wp2_with (first | ((with_reducible refine gate_dst (N := 2) rfl ?_); refine box_event ?hg (N := 2) ?hd (cs := #[.int .i64 a0_0, .bool a0_1]) (t := 25) ?hr ?_; (case hd => rfl); (case hg => rfl); (case hr => first | (go_simp; done) | (go_simp; rfl)); intro gb326 hg w34 hbox hb; have n0_ := A_ (below_step (hq HB) hb); have n1_ := A_ (hbox); have n2_ := A_ ((by rw [hg]; exact (below_size (hq HB)) : w.heap.size ≤ gb326)); have n3_ := A_ ((by rw [hg]; exact (below_size (hq HB)) : w.heap.size ≤ gb326)); clear HB; have HB := n0_; have BK326 := n1_; have GW326 := n2_; have GE326 := n3_; clear n0_ n1_ n2_ n3_; clear hb hbox hg) | ((with_reducible refine gate_dst (N := 3) rfl ?_); refine box_event ?hg (N := 3) ?hd (cs := #[.int .i64 a1_0, .int .i64 a1_1, .int .i64 a1_2, .slice A1_3 l1_3.length c1_3]) (t := 93) ?hr ?_; (case hd => rfl); (case hg => rfl); (case hr => first | (go_simp; done) | (go_simp; rfl)); intro gb327 hg w35 hbox hb; have n0_ := A_ (blk_below (bq BK326) hb); have n1_ := A_ (below_step (hq HB) hb); have n2_ := A_ (hbox); have n3_ := A_ ((by rw [hg]; exact (below_size (hq HB)) : w.heap.size ≤ gb327)); have n4_ := A_ ((by rw [hg]; exact (below_size (hq HB)) : w.heap.size ≤ gb327)); have n5_ := A_ ((by rw [hg]; exact Nat.ne_of_lt (blk_lt (bq BK326)) : gb326 ≠ gb327)); have n6_ := A_ ((by rw [hg]; exact Nat.ne_of_gt (blk_lt (bq BK326)) : gb327 ≠ gb326)); clear BK326; clear HB; have BK326 := n0_; have HB := n1_; have BK327 := n2_; have GW327 := n3_; have GE327 := n4_; have NB326_327 := n5_; have NB327_326 := n6_; clear n0_ n1_ n2_ n3_ n4_ n5_ n6_; clear hb hbox hg; have hnb36 := NB326_327.out; have hnc36 := NB327_326.out; have hcz37_0 : w35.cell? ⟨gb326, 0, none⟩ = some (.int .i64 a0_0) := bc BK326 0; have hcz37_1 : w35.cell? ⟨gb326, 1, none⟩ = some (.bool a0_1) := bc BK326 1; have hfz37_0 := blk_frozen BK326.out 0; have hfz37_1 := blk_frozen BK326.out 1; have hcz38_0 : w35.cell? ⟨gb327, 0, none⟩ = some (.int .i64 a1_0) := bc BK327 0; have hcz38_1 : w35.cell? ⟨gb327, 1, none⟩ = some (.int .i64 a1_1) := bc BK327 1; have hcz38_2 : w35.cell? ⟨gb327, 2, none⟩ = some (.int .i64 a1_2) := bc BK327 2; have hcz38_3 : w35.cell? ⟨gb327, 3, none⟩ = some (.slice A1_3 l1_3.length c1_3) := bc BK327 3; have hfz38_0 := blk_frozen BK327.out 0; have hfz38_1 := blk_frozen BK327.out 1; have hfz38_2 := blk_frozen BK327.out 2; have hfz38_3 := blk_frozen BK327.out 3) | ((with_reducible refine gate_callee (f := 87) rfl ?_); refine goesL_ (some 8) rfl rfl Try.func87 (by kernel_rfl) rfl #[.agg #[.int .i64 a0_0, .bool a0_1], .int .i64 a1_0] rfl gq ?_; (with_reducible refine (spec_l2Place.calls a0_0 a0_1 a1_0 true _ A3.out).mono ?_); rintro e w39 ⟨rfl, hb⟩; refine ⟨_, rfl, ?_⟩; have n0_ := A_ (blk_below (bq BK326) hb); have n1_ := A_ (blk_below (bq BK327) hb); have n2_ := A_ (below_step (hq HB) hb); clear BK326; clear BK327; clear HB; have BK326 := n0_; have BK327 := n1_; have HB := n2_; clear n0_ n1_ n2_; (try clear hb); (try clear hb2); (try clear hk); (try clear hi); have hcz40_0 : w39.cell? ⟨gb327, 0, none⟩ = some (.int .i64 a1_0) := bc BK327 0; have hcz40_1 : w39.cell? ⟨gb327, 1, none⟩ = some (.int .i64 a1_1) := bc BK327 1; have hcz40_2 : w39.cell? ⟨gb327, 2, none⟩ = some (.int .i64 a1_2) := bc BK327 2; have hcz40_3 : w39.cell? ⟨gb327, 3, none⟩ = some (.slice A1_3 l1_3.length c1_3) := bc BK327 3; have hfz40_0 := blk_frozen BK327.out 0; have hfz40_1 := blk_frozen BK327.out 1; have hfz40_2 := blk_frozen BK327.out 2; have hfz40_3 := blk_frozen BK327.out 3) | (go_at_call 75; (with_reducible refine (spec_l1In.calls a1_2 0 60 false _ A24.out).mono ?_); rintro e w' ⟨rfl, ⟨nd, rfl⟩⟩))
     go_ret
     exact ⟨rt, hq HB⟩
   ·
    rw [if_neg c23] at H
    have c23b0 : (a1_1 == (-1)) = false := beq_eq_false_iff_ne.mpr c23
    have c23b1 : (a1_1 != (-1)) = true := bne_iff_ne.mpr c23
    obtain rfl := Option.some.inj H
    go_enter Try.func119, Try.ntmps119
    go_wp2_with (first | ((with_reducible refine gate_dst (N := 2) rfl ?_); refine box_event ?hg (N := 2) ?hd (cs := #[.int .i64 a0_0, .bool a0_1]) (t := 25) ?hr ?_; (case hd => rfl); (case hg => rfl); (case hr => first | (go_simp; done) | (go_simp; rfl)); intro gb326 hg w41 hbox hb; have n0_ := A_ (below_step (hq HB) hb); have n1_ := A_ (hbox); have n2_ := A_ ((by rw [hg]; exact (below_size (hq HB)) : w.heap.size ≤ gb326)); have n3_ := A_ ((by rw [hg]; exact (below_size (hq HB)) : w.heap.size ≤ gb326)); clear HB; have HB := n0_; have BK326 := n1_; have GW326 := n2_; have GE326 := n3_; clear n0_ n1_ n2_ n3_; clear hb hbox hg) | ((with_reducible refine gate_dst (N := 3) rfl ?_); refine box_event ?hg (N := 3) ?hd (cs := #[.int .i64 a1_0, .int .i64 a1_1, .int .i64 a1_2, .slice A1_3 l1_3.length c1_3]) (t := 93) ?hr ?_; (case hd => rfl); (case hg => rfl); (case hr => first | (go_simp; done) | (go_simp; rfl)); intro gb327 hg w42 hbox hb; have n0_ := A_ (blk_below (bq BK326) hb); have n1_ := A_ (below_step (hq HB) hb); have n2_ := A_ (hbox); have n3_ := A_ ((by rw [hg]; exact (below_size (hq HB)) : w.heap.size ≤ gb327)); have n4_ := A_ ((by rw [hg]; exact (below_size (hq HB)) : w.heap.size ≤ gb327)); have n5_ := A_ ((by rw [hg]; exact Nat.ne_of_lt (blk_lt (bq BK326)) : gb326 ≠ gb327)); have n6_ := A_ ((by rw [hg]; exact Nat.ne_of_gt (blk_lt (bq BK326)) : gb327 ≠ gb326)); clear BK326; clear HB; have BK326 := n0_; have HB := n1_; have BK327 := n2_; have GW327 := n3_; have GE327 := n4_; have NB326_327 := n5_; have NB327_326 := n6_; clear n0_ n1_ n2_ n3_ n4_ n5_ n6_; clear hb hbox hg; have hnb43 := NB326_327.out; have hnc43 := NB327_326.out; have hcz44_0 : w42.cell? ⟨gb326, 0, none⟩ = some (.int .i64 a0_0) := bc BK326 0; have hcz44_1 : w42.cell? ⟨gb326, 1, none⟩ = some (.bool a0_1) := bc BK326 1; have hfz44_0 := blk_frozen BK326.out 0; have hfz44_1 := blk_frozen BK326.out 1; have hcz45_0 : w42.cell? ⟨gb327, 0, none⟩ = some (.int .i64 a1_0) := bc BK327 0; have hcz45_1 : w42.cell? ⟨gb327, 1, none⟩ = some (.int .i64 a1_1) := bc BK327 1; have hcz45_2 : w42.cell? ⟨gb327, 2, none⟩ = some (.int .i64 a1_2) := bc BK327 2; have hcz45_3 : w42.cell? ⟨gb327, 3, none⟩ = some (.slice A1_3 l1_3.length c1_3) := bc BK327 3; have hfz45_0 := blk_frozen BK327.out 0; have hfz45_1 := blk_frozen BK327.out 1; have hfz45_2 := blk_frozen BK327.out 2; have hfz45_3 := blk_frozen BK327.out 3) | ((with_reducible refine gate_callee (f := 87) rfl ?_); refine goesL_ (some 8) rfl rfl Try.func87 (by kernel_rfl) rfl #[.agg #[.int .i64 a0_0, .bool a0_1], .int .i64 a1_0] rfl gq ?_; (with_reducible refine (spec_l2Place.calls a0_0 a0_1 a1_0 true _ A3.out).mono ?_); rintro e w46 ⟨rfl, hb⟩; refine ⟨_, rfl, ?_⟩; have n0_ := A_ (blk_below (bq BK326) hb); have n1_ := A_ (blk_below (bq BK327) hb); have n2_ := A_ (below_step (hq HB) hb); clear BK326; clear BK327; clear HB; have BK326 := n0_; have BK327 := n1_; have HB := n2_; clear n0_ n1_ n2_; (try clear hb); (try clear hb2); (try clear hk); (try clear hi); have hcz47_0 : w46.cell? ⟨gb327, 0, none⟩ = some (.int .i64 a1_0) := bc BK327 0; have hcz47_1 : w46.cell? ⟨gb327, 1, none⟩ = some (.int .i64 a1_1) := bc BK327 1; have hcz47_2 : w46.cell? ⟨gb327, 2, none⟩ = some (.int .i64 a1_2) := bc BK327 2; have hcz47_3 : w46.cell? ⟨gb327, 3, none⟩ = some (.slice A1_3 l1_3.length c1_3) := bc BK327 3; have hfz47_0 := blk_frozen BK327.out 0; have hfz47_1 := blk_frozen BK327.out 1; have hfz47_2 := blk_frozen BK327.out 2; have hfz47_3 := blk_frozen BK327.out 3))
    go_ret
    exact ⟨rt, hq HB⟩
 ·
  replace c4 := Bool.eq_false_iff.mpr c4
  subst c4
  have H1 : (some false) = some r := by rw [if_neg (show ¬ (false = true) by decide)] at H; exact H
  clear H
  have H := H1
  clear H1
  obtain rfl := Option.some.inj H
  go_enter Try.func119, Try.ntmps119
  go_wp2_with (first | ((with_reducible refine gate_dst (N := 2) rfl ?_); refine box_event ?hg (N := 2) ?hd (cs := #[.int .i64 a0_0, .bool a0_1]) (t := 25) ?hr ?_; (case hd => rfl); (case hg => rfl); (case hr => first | (go_simp; done) | (go_simp; rfl)); intro gb326 hg w48 hbox hb; have n0_ := A_ (below_step (hq HB) hb); have n1_ := A_ (hbox); have n2_ := A_ ((by rw [hg]; exact (below_size (hq HB)) : w.heap.size ≤ gb326)); have n3_ := A_ ((by rw [hg]; exact (below_size (hq HB)) : w.heap.size ≤ gb326)); clear HB; have HB := n0_; have BK326 := n1_; have GW326 := n2_; have GE326 := n3_; clear n0_ n1_ n2_ n3_; clear hb hbox hg) | ((with_reducible refine gate_dst (N := 3) rfl ?_); refine box_event ?hg (N := 3) ?hd (cs := #[.int .i64 a1_0, .int .i64 a1_1, .int .i64 a1_2, .slice A1_3 l1_3.length c1_3]) (t := 93) ?hr ?_; (case hd => rfl); (case hg => rfl); (case hr => first | (go_simp; done) | (go_simp; rfl)); intro gb327 hg w49 hbox hb; have n0_ := A_ (blk_below (bq BK326) hb); have n1_ := A_ (below_step (hq HB) hb); have n2_ := A_ (hbox); have n3_ := A_ ((by rw [hg]; exact (below_size (hq HB)) : w.heap.size ≤ gb327)); have n4_ := A_ ((by rw [hg]; exact (below_size (hq HB)) : w.heap.size ≤ gb327)); have n5_ := A_ ((by rw [hg]; exact Nat.ne_of_lt (blk_lt (bq BK326)) : gb326 ≠ gb327)); have n6_ := A_ ((by rw [hg]; exact Nat.ne_of_gt (blk_lt (bq BK326)) : gb327 ≠ gb326)); clear BK326; clear HB; have BK326 := n0_; have HB := n1_; have BK327 := n2_; have GW327 := n3_; have GE327 := n4_; have NB326_327 := n5_; have NB327_326 := n6_; clear n0_ n1_ n2_ n3_ n4_ n5_ n6_; clear hb hbox hg; have hnb50 := NB326_327.out; have hnc50 := NB327_326.out; have hcz51_0 : w49.cell? ⟨gb326, 0, none⟩ = some (.int .i64 a0_0) := bc BK326 0; have hcz51_1 : w49.cell? ⟨gb326, 1, none⟩ = some (.bool a0_1) := bc BK326 1; have hfz51_0 := blk_frozen BK326.out 0; have hfz51_1 := blk_frozen BK326.out 1; have hcz52_0 : w49.cell? ⟨gb327, 0, none⟩ = some (.int .i64 a1_0) := bc BK327 0; have hcz52_1 : w49.cell? ⟨gb327, 1, none⟩ = some (.int .i64 a1_1) := bc BK327 1; have hcz52_2 : w49.cell? ⟨gb327, 2, none⟩ = some (.int .i64 a1_2) := bc BK327 2; have hcz52_3 : w49.cell? ⟨gb327, 3, none⟩ = some (.slice A1_3 l1_3.length c1_3) := bc BK327 3; have hfz52_0 := blk_frozen BK327.out 0; have hfz52_1 := blk_frozen BK327.out 1; have hfz52_2 := blk_frozen BK327.out 2; have hfz52_3 := blk_frozen BK327.out 3) | ((with_reducible refine gate_callee (f := 87) rfl ?_); refine goesL_ (some 8) rfl rfl Try.func87 (by kernel_rfl) rfl #[.agg #[.int .i64 a0_0, .bool a0_1], .int .i64 a1_0] rfl gq ?_; (with_reducible refine (spec_l2Place.calls a0_0 a0_1 a1_0 false _ A3.out).mono ?_); rintro e w53 ⟨rfl, hb⟩; refine ⟨_, rfl, ?_⟩; have n0_ := A_ (blk_below (bq BK326) hb); have n1_ := A_ (blk_below (bq BK327) hb); have n2_ := A_ (below_step (hq HB) hb); clear BK326; clear BK327; clear HB; have BK326 := n0_; have BK327 := n1_; have HB := n2_; clear n0_ n1_ n2_; (try clear hb); (try clear hb2); (try clear hk); (try clear hi)))
  go_ret
  exact ⟨rt, hq HB⟩

/-! ### spec_l4Both: function 111 -/
def spec_l4Both.f (k : Nat) (a0_0 : Int) (a0_1 : Bool) (a1_0 : Int) (a1_1 : Int) (a1_2 : Int) (l1_3 : List Int) (a2_0 : Int) (a2_1 : Int) (a2_2 : Int) (l2_3 : List Int) : Option (Bool) := (spec_l4Walker.f k a0_0 a0_1 a1_0 a1_1 a1_2 l1_3).bind fun t336 => (if t336 = true then ((spec_l4Walker.f k a0_0 a0_1 a2_0 a2_1 a2_2 l2_3).bind fun t337 => (some t337)) else (some false))
theorem spec_l4Both.mono : ∀ a0 a1 a2 a3 a4 a5 a6 a7 a8 a9 k, LeO (spec_l4Both.f k a0 a1 a2 a3 a4 a5 a6 a7 a8 a9) (spec_l4Both.f (k + 1) a0 a1 a2 a3 a4 a5 a6 a7 a8 a9) := by
  intro a0 a1 a2 a3 a4 a5 a6 a7 a8 a9 k
  unfold spec_l4Both.f
  repeat' first
      | (with_reducible exact spec_l4Walker.mono _ _ _ _ _ _ _)
      | (with_reducible exact LeO.refl _)
      | (with_reducible exact LeO.none _)
      | (with_reducible refine LeO.ite ?_ ?_)
      | (with_reducible refine LeO.bind ?_ (fun _ => ?_))
      | exact spec_l4Walker.mono _ _ _ _ _ _ _
      | exact LeO.none _
      | refine LeO.ite ?_ ?_
      | refine LeO.bind ?_ (fun _ => ?_)
set_option maxHeartbeats 8000000 in
set_option maxRecDepth 100000 in
theorem spec_l4Both.calls (k : Nat) (a0_0 : Int) (a0_1 : Bool) (a1_0 : Int) (a1_1 : Int) (a1_2 : Int) (A1_3 : Option Addr) (c1_3 : Nat) (l1_3 : List Int) (a2_0 : Int) (a2_1 : Int) (a2_2 : Int) (A2_3 : Option Addr) (c2_3 : Nat) (l2_3 : List Int) (r : Bool) (w : World) (hr1_3 : Kd.C (Kd.int .i64) w A1_3 l1_3.length l1_3) (hc1_3 : l1_3.length ≤ c1_3) (hr2_3 : Kd.C (Kd.int .i64) w A2_3 l2_3.length l2_3) (hc2_3 : l2_3.length ≤ c2_3) (h : spec_l4Both.f k a0_0 a0_1 a1_0 a1_1 a1_2 l1_3 a2_0 a2_1 a2_2 l2_3 = some r) :
    Calls Try.prog 111 #[.agg #[.int .i64 a0_0, .bool a0_1], .agg #[.int .i64 a1_0, .int .i64 a1_1, .int .i64 a1_2, .slice A1_3 l1_3.length c1_3], .agg #[.int .i64 a2_0, .int .i64 a2_1, .int .i64 a2_2, .slice A2_3 l2_3.length c2_3]] w fun e w' => e = .returned (.bool r) ∧ Below w.heap.size w w' := by
 have hu25 := Try.underlying25
 have hu93 := Try.underlying93
 have HR1_3 := A_ hr1_3
 have HC1_3 := A_ hc1_3
 clear hr1_3 hc1_3
 have HR2_3 := A_ hr2_3
 have HC2_3 := A_ hc2_3
 clear hr2_3 hc2_3
 have HB := A_ (Below.refl w.heap.size w)
 have H : ((spec_l4Walker.f k a0_0 a0_1 a1_0 a1_1 a1_2 l1_3).bind fun t336 => (if t336 = true then ((spec_l4Walker.f k a0_0 a0_1 a2_0 a2_1 a2_2 l2_3).bind fun t337 => (some t337)) else (some false))) = some r := h
 clear h
 replace H := Option.bind_eq_some_iff.mp H
 obtain ⟨t336, A40, H⟩ := H
 replace H : (if t336 = true then ((spec_l4Walker.f k a0_0 a0_1 a2_0 a2_1 a2_2 l2_3).bind fun t337 => (some t337)) else (some false)) = some r := H
 have A4 := A_ A40
 clear A40
 by_cases c5 : t336 = true
 ·
  subst c5
  have H1 : ((spec_l4Walker.f k a0_0 a0_1 a2_0 a2_1 a2_2 l2_3).bind fun t337 => (some t337)) = some r := by rw [if_pos rfl] at H; exact H
  clear H
  have H := H1
  clear H1
  replace H := Option.bind_eq_some_iff.mp H
  obtain ⟨t337, A60, H⟩ := H
  replace H : (some t337) = some r := H
  have A6 := A_ A60
  clear A60
  obtain rfl := Option.some.inj H
  go_enter Try.func111, Try.ntmps111
  go_wp2_with (first | ((with_reducible refine gate_dst (N := 3) rfl ?_); refine box_event ?hg (N := 3) ?hd (cs := #[.int .i64 a0_0, .bool a0_1]) (t := 25) ?hr ?_; (case hd => rfl); (case hg => rfl); (case hr => first | (go_simp; done) | (go_simp; rfl)); intro gb333 hg w7 hbox hb; have n0_ := A_ (below_step (hq HB) hb); have n1_ := A_ (hbox); have n2_ := A_ ((by rw [hg]; exact (below_size (hq HB)) : w.heap.size ≤ gb333)); have n3_ := A_ ((by rw [hg]; exact (below_size (hq HB)) : w.heap.size ≤ gb333)); clear HB; have HB := n0_; have BK333 := n1_; have GW333 := n2_; have GE333 := n3_; clear n0_ n1_ n2_ n3_; clear hb hbox hg) | ((with_reducible refine gate_dst (N := 4) rfl ?_); refine box_event ?hg (N := 4) ?hd (cs := #[.int .i64 a1_0, .int .i64 a1_1, .int .i64 a1_2, .slice A1_3 l1_3.length c1_3]) (t := 93) ?hr ?_; (case hd => rfl); (case hg => rfl); (case hr => first | (go_simp; done) | (go_simp; rfl)); intro gb334 hg w8 hbox hb; have n0_ := A_ (blk_below (bq BK333) hb); have n1_ := A_ (below_step (hq HB) hb); have n2_ := A_ (hbox); have n3_ := A_ ((by rw [hg]; exact (below_size (hq HB)) : w.heap.size ≤ gb334)); have n4_ := A_ ((by rw [hg]; exact (below_size (hq HB)) : w.heap.size ≤ gb334)); have n5_ := A_ ((by rw [hg]; exact Nat.ne_of_lt (blk_lt (bq BK333)) : gb333 ≠ gb334)); have n6_ := A_ ((by rw [hg]; exact Nat.ne_of_gt (blk_lt (bq BK333)) : gb334 ≠ gb333)); clear BK333; clear HB; have BK333 := n0_; have HB := n1_; have BK334 := n2_; have GW334 := n3_; have GE334 := n4_; have NB333_334 := n5_; have NB334_333 := n6_; clear n0_ n1_ n2_ n3_ n4_ n5_ n6_; clear hb hbox hg) | ((with_reducible refine gate_dst (N := 5) rfl ?_); refine box_event ?hg (N := 5) ?hd (cs := #[.int .i64 a2_0, .int .i64 a2_1, .int .i64 a2_2, .slice A2_3 l2_3.length c2_3]) (t := 93) ?hr ?_; (case hd => rfl); (case hg => rfl); (case hr => first | (go_simp; done) | (go_simp; rfl)); intro gb335 hg w9 hbox hb; have n0_ := A_ (blk_below (bq BK333) hb); have n1_ := A_ (blk_below (bq BK334) hb); have n2_ := A_ (below_step (hq HB) hb); have n3_ := A_ (hbox); have n4_ := A_ ((by rw [hg]; exact (below_size (hq HB)) : w.heap.size ≤ gb335)); have n5_ := A_ ((by rw [hg]; exact (below_size (hq HB)) : w.heap.size ≤ gb335)); have n6_ := A_ ((by rw [hg]; exact Nat.ne_of_lt (blk_lt (bq BK333)) : gb333 ≠ gb335)); have n7_ := A_ ((by rw [hg]; exact Nat.ne_of_gt (blk_lt (bq BK333)) : gb335 ≠ gb333)); have n8_ := A_ ((by rw [hg]; exact Nat.ne_of_lt (blk_lt (bq BK334)) : gb334 ≠ gb335)); have n9_ := A_ ((by rw [hg]; exact Nat.ne_of_gt (blk_lt (bq BK334)) : gb335 ≠ gb334)); clear BK333; clear BK334; clear HB; have BK333 := n0_; have BK334 := n1_; have HB := n2_; have BK335 := n3_; have GW335 := n4_; have GE335 := n5_; have NB333_335 := n6_; have NB335_333 := n7_; have NB334_335 := n8_; have NB335_334 := n9_; clear n0_ n1_ n2_ n3_ n4_ n5_ n6_ n7_ n8_ n9_; clear hb hbox hg; have hnb10 := NB333_334.out; have hnc10 := NB334_333.out; have hnb11 := NB333_335.out; have hnc11 := NB335_333.out; have hcz12_0 : w9.cell? ⟨gb333, 0, none⟩ = some (.int .i64 a0_0) := bc BK333 0; have hcz12_1 : w9.cell? ⟨gb333, 1, none⟩ = some (.bool a0_1) := bc BK333 1; have hfz12_0 := blk_frozen BK333.out 0; have hfz12_1 := blk_frozen BK333.out 1; have hnb13 := NB334_335.out; have hnc13 := NB335_334.out; have hcz14_0 : w9.cell? ⟨gb334, 0, none⟩ = some (.int .i64 a1_0) := bc BK334 0; have hcz14_1 : w9.cell? ⟨gb334, 1, none⟩ = some (.int .i64 a1_1) := bc BK334 1; have hcz14_2 : w9.cell? ⟨gb334, 2, none⟩ = some (.int .i64 a1_2) := bc BK334 2; have hcz14_3 : w9.cell? ⟨gb334, 3, none⟩ = some (.slice A1_3 l1_3.length c1_3) := bc BK334 3; have hfz14_0 := blk_frozen BK334.out 0; have hfz14_1 := blk_frozen BK334.out 1; have hfz14_2 := blk_frozen BK334.out 2; have hfz14_3 := blk_frozen BK334.out 3) | ((with_reducible refine gate_callee (f := 119) rfl ?_); refine goesL_ (some 9) rfl rfl Try.func119 (by kernel_rfl) rfl #[.agg #[.int .i64 a0_0, .bool a0_1], .agg #[.int .i64 a1_0, .int .i64 a1_1, .int .i64 a1_2, .slice A1_3 l1_3.length c1_3]] rfl gq ?_; (with_reducible refine (spec_l4Walker.calls k a0_0 a0_1 a1_0 a1_1 a1_2 _ _ l1_3 true _ ?side1 ?side2 A4.out).mono ?_); (case side1 => exact cq (Kd.C_below HR1_3.out HB.out)); (case side2 => exact HC1_3.out); rintro e w15 ⟨rfl, hb⟩; refine ⟨_, rfl, ?_⟩; have n0_ := A_ (blk_below (bq BK333) hb); have n1_ := A_ (blk_below (bq BK334) hb); have n2_ := A_ (blk_below (bq BK335) hb); have n3_ := A_ (below_step (hq HB) hb); clear BK333; clear BK334; clear BK335; clear HB; have BK333 := n0_; have BK334 := n1_; have BK335 := n2_; have HB := n3_; clear n0_ n1_ n2_ n3_; (try clear hb); (try clear hb2); (try clear hk); (try clear hi); have hcz16_0 : w15.cell? ⟨gb333, 0, none⟩ = some (.int .i64 a0_0) := bc BK333 0; have hcz16_1 : w15.cell? ⟨gb333, 1, none⟩ = some (.bool a0_1) := bc BK333 1; have hfz16_0 := blk_frozen BK333.out 0; have hfz16_1 := blk_frozen BK333.out 1; have hcz17_0 : w15.cell? ⟨gb335, 0, none⟩ = some (.int .i64 a2_0) := bc BK335 0; have hcz17_1 : w15.cell? ⟨gb335, 1, none⟩ = some (.int .i64 a2_1) := bc BK335 1; have hcz17_2 : w15.cell? ⟨gb335, 2, none⟩ = some (.int .i64 a2_2) := bc BK335 2; have hcz17_3 : w15.cell? ⟨gb335, 3, none⟩ = some (.slice A2_3 l2_3.length c2_3) := bc BK335 3; have hfz17_0 := blk_frozen BK335.out 0; have hfz17_1 := blk_frozen BK335.out 1; have hfz17_2 := blk_frozen BK335.out 2; have hfz17_3 := blk_frozen BK335.out 3) | (go_at_call 119; (with_reducible refine (spec_l4Walker.calls k a0_0 a0_1 a2_0 a2_1 a2_2 _ _ l2_3 t337 _ ?side1 ?side2 A6.out).mono ?_); (case side1 => exact cq (Kd.C_below HR2_3.out HB.out)); (case side2 => exact HC2_3.out); rintro e w18 ⟨rfl, hb⟩; have n0_ := A_ (blk_below (bq BK333) hb); have n1_ := A_ (blk_below (bq BK334) hb); have n2_ := A_ (blk_below (bq BK335) hb); have n3_ := A_ (below_step (hq HB) hb); clear BK333; clear BK334; clear BK335; clear HB; have BK333 := n0_; have BK334 := n1_; have BK335 := n2_; have HB := n3_; clear n0_ n1_ n2_ n3_; (try clear hb); (try clear hb2); (try clear hk); (try clear hi)))
  go_ret
  exact ⟨rt, hq HB⟩
 ·
  replace c5 := Bool.eq_false_iff.mpr c5
  subst c5
  have H1 : (some false) = some r := by rw [if_neg (show ¬ (false = true) by decide)] at H; exact H
  clear H
  have H := H1
  clear H1
  obtain rfl := Option.some.inj H
  go_enter Try.func111, Try.ntmps111
  go_wp2_with (first | ((with_reducible refine gate_dst (N := 3) rfl ?_); refine box_event ?hg (N := 3) ?hd (cs := #[.int .i64 a0_0, .bool a0_1]) (t := 25) ?hr ?_; (case hd => rfl); (case hg => rfl); (case hr => first | (go_simp; done) | (go_simp; rfl)); intro gb333 hg w19 hbox hb; have n0_ := A_ (below_step (hq HB) hb); have n1_ := A_ (hbox); have n2_ := A_ ((by rw [hg]; exact (below_size (hq HB)) : w.heap.size ≤ gb333)); have n3_ := A_ ((by rw [hg]; exact (below_size (hq HB)) : w.heap.size ≤ gb333)); clear HB; have HB := n0_; have BK333 := n1_; have GW333 := n2_; have GE333 := n3_; clear n0_ n1_ n2_ n3_; clear hb hbox hg) | ((with_reducible refine gate_dst (N := 4) rfl ?_); refine box_event ?hg (N := 4) ?hd (cs := #[.int .i64 a1_0, .int .i64 a1_1, .int .i64 a1_2, .slice A1_3 l1_3.length c1_3]) (t := 93) ?hr ?_; (case hd => rfl); (case hg => rfl); (case hr => first | (go_simp; done) | (go_simp; rfl)); intro gb334 hg w20 hbox hb; have n0_ := A_ (blk_below (bq BK333) hb); have n1_ := A_ (below_step (hq HB) hb); have n2_ := A_ (hbox); have n3_ := A_ ((by rw [hg]; exact (below_size (hq HB)) : w.heap.size ≤ gb334)); have n4_ := A_ ((by rw [hg]; exact (below_size (hq HB)) : w.heap.size ≤ gb334)); have n5_ := A_ ((by rw [hg]; exact Nat.ne_of_lt (blk_lt (bq BK333)) : gb333 ≠ gb334)); have n6_ := A_ ((by rw [hg]; exact Nat.ne_of_gt (blk_lt (bq BK333)) : gb334 ≠ gb333)); clear BK333; clear HB; have BK333 := n0_; have HB := n1_; have BK334 := n2_; have GW334 := n3_; have GE334 := n4_; have NB333_334 := n5_; have NB334_333 := n6_; clear n0_ n1_ n2_ n3_ n4_ n5_ n6_; clear hb hbox hg) | ((with_reducible refine gate_dst (N := 5) rfl ?_); refine box_event ?hg (N := 5) ?hd (cs := #[.int .i64 a2_0, .int .i64 a2_1, .int .i64 a2_2, .slice A2_3 l2_3.length c2_3]) (t := 93) ?hr ?_; (case hd => rfl); (case hg => rfl); (case hr => first | (go_simp; done) | (go_simp; rfl)); intro gb335 hg w21 hbox hb; have n0_ := A_ (blk_below (bq BK333) hb); have n1_ := A_ (blk_below (bq BK334) hb); have n2_ := A_ (below_step (hq HB) hb); have n3_ := A_ (hbox); have n4_ := A_ ((by rw [hg]; exact (below_size (hq HB)) : w.heap.size ≤ gb335)); have n5_ := A_ ((by rw [hg]; exact (below_size (hq HB)) : w.heap.size ≤ gb335)); have n6_ := A_ ((by rw [hg]; exact Nat.ne_of_lt (blk_lt (bq BK333)) : gb333 ≠ gb335)); have n7_ := A_ ((by rw [hg]; exact Nat.ne_of_gt (blk_lt (bq BK333)) : gb335 ≠ gb333)); have n8_ := A_ ((by rw [hg]; exact Nat.ne_of_lt (blk_lt (bq BK334)) : gb334 ≠ gb335)); have n9_ := A_ ((by rw [hg]; exact Nat.ne_of_gt (blk_lt (bq BK334)) : gb335 ≠ gb334)); clear BK333; clear BK334; clear HB; have BK333 := n0_; have BK334 := n1_; have HB := n2_; have BK335 := n3_; have GW335 := n4_; have GE335 := n5_; have NB333_335 := n6_; have NB335_333 := n7_; have NB334_335 := n8_; have NB335_334 := n9_; clear n0_ n1_ n2_ n3_ n4_ n5_ n6_ n7_ n8_ n9_; clear hb hbox hg; have hnb22 := NB333_334.out; have hnc22 := NB334_333.out; have hnb23 := NB333_335.out; have hnc23 := NB335_333.out; have hcz24_0 : w21.cell? ⟨gb333, 0, none⟩ = some (.int .i64 a0_0) := bc BK333 0; have hcz24_1 : w21.cell? ⟨gb333, 1, none⟩ = some (.bool a0_1) := bc BK333 1; have hfz24_0 := blk_frozen BK333.out 0; have hfz24_1 := blk_frozen BK333.out 1; have hnb25 := NB334_335.out; have hnc25 := NB335_334.out; have hcz26_0 : w21.cell? ⟨gb334, 0, none⟩ = some (.int .i64 a1_0) := bc BK334 0; have hcz26_1 : w21.cell? ⟨gb334, 1, none⟩ = some (.int .i64 a1_1) := bc BK334 1; have hcz26_2 : w21.cell? ⟨gb334, 2, none⟩ = some (.int .i64 a1_2) := bc BK334 2; have hcz26_3 : w21.cell? ⟨gb334, 3, none⟩ = some (.slice A1_3 l1_3.length c1_3) := bc BK334 3; have hfz26_0 := blk_frozen BK334.out 0; have hfz26_1 := blk_frozen BK334.out 1; have hfz26_2 := blk_frozen BK334.out 2; have hfz26_3 := blk_frozen BK334.out 3) | ((with_reducible refine gate_callee (f := 119) rfl ?_); refine goesL_ (some 9) rfl rfl Try.func119 (by kernel_rfl) rfl #[.agg #[.int .i64 a0_0, .bool a0_1], .agg #[.int .i64 a1_0, .int .i64 a1_1, .int .i64 a1_2, .slice A1_3 l1_3.length c1_3]] rfl gq ?_; (with_reducible refine (spec_l4Walker.calls k a0_0 a0_1 a1_0 a1_1 a1_2 _ _ l1_3 false _ ?side1 ?side2 A4.out).mono ?_); (case side1 => exact cq (Kd.C_below HR1_3.out HB.out)); (case side2 => exact HC1_3.out); rintro e w27 ⟨rfl, hb⟩; refine ⟨_, rfl, ?_⟩; have n0_ := A_ (blk_below (bq BK333) hb); have n1_ := A_ (blk_below (bq BK334) hb); have n2_ := A_ (blk_below (bq BK335) hb); have n3_ := A_ (below_step (hq HB) hb); clear BK333; clear BK334; clear BK335; clear HB; have BK333 := n0_; have BK334 := n1_; have BK335 := n2_; have HB := n3_; clear n0_ n1_ n2_ n3_; (try clear hb); (try clear hb2); (try clear hk); (try clear hi)))
  go_ret
  exact ⟨rt, hq HB⟩

/-! ### spec_l4Worst: function 112 -/
mutual
def spec_l4Worst.l0 : Nat → List (List Int) → Int → Int → Option (Int)
  | 0, _, _, _ => none
  | k + 1, x0, x3, x4 => if x4 < (x0.length : Int) then (spec_l4Worst.l1 k x0 x3 x4 0) else (some x3)
def spec_l4Worst.l1 : Nat → List (List Int) → Int → Int → Int → Option (Int)
  | 0, _, _, _, _ => none
  | k + 1, x0, x3, x4, x5 => if 0 ≤ x4 then (if x4 < (x0.length : Int) then (if x5 < ((rd_L2 x0 x4).length : Int) then (if 0 ≤ x5 then (if (rd (rd_L2 x0 x4) x5) < 0 then (some (-1)) else ((spec_l1Most.f x3 (rd (rd_L2 x0 x4) x5)).bind fun t343 => (spec_l4Worst.l1 k x0 t343 x4 (wrap64 (x5 + 1))))) else (none)) else (spec_l4Worst.l0 k x0 x3 (wrap64 (x4 + 1)))) else (none)) else (none)
end
def spec_l4Worst.f (k : Nat) (l0 : List (List Int)) : Option (Int) := spec_l4Worst.l0 k l0 0 0
theorem spec_l4Worst.mono_l : ∀ k, (∀ y0 y1 y2, LeO (spec_l4Worst.l0 k y0 y1 y2) (spec_l4Worst.l0 (k + 1) y0 y1 y2)) ∧ (∀ y0 y1 y2 y3, LeO (spec_l4Worst.l1 k y0 y1 y2 y3) (spec_l4Worst.l1 (k + 1) y0 y1 y2 y3))
  | 0 => ⟨fun _ _ _ r h => by simp [spec_l4Worst.l0] at h, fun _ _ _ _ r h => by simp [spec_l4Worst.l1] at h⟩
  | k + 1 => by
    obtain ⟨ih0, ih1⟩ := spec_l4Worst.mono_l k
    refine ⟨?_, ?_⟩
    · intro y0 y1 y2
      unfold spec_l4Worst.l0
      repeat' first
      | (with_reducible exact ih0 _ _ _)
      | (with_reducible exact ih1 _ _ _ _)
      | (with_reducible exact LeO.refl _)
      | (with_reducible exact LeO.none _)
      | (with_reducible refine LeO.ite ?_ ?_)
      | (with_reducible refine LeO.bind ?_ (fun _ => ?_))
      | exact ih0 _ _ _
      | exact ih1 _ _ _ _
      | exact LeO.none _
      | refine LeO.ite ?_ ?_
      | refine LeO.bind ?_ (fun _ => ?_)
    · intro y0 y1 y2 y3
      unfold spec_l4Worst.l1
      repeat' first
      | (with_reducible exact ih0 _ _ _)
      | (with_reducible exact ih1 _ _ _ _)
      | (with_reducible exact LeO.refl _)
      | (with_reducible exact LeO.none _)
      | (with_reducible refine LeO.ite ?_ ?_)
      | (with_reducible refine LeO.bind ?_ (fun _ => ?_))
      | exact ih0 _ _ _
      | exact ih1 _ _ _ _
      | exact LeO.none _
      | refine LeO.ite ?_ ?_
      | refine LeO.bind ?_ (fun _ => ?_)
theorem spec_l4Worst.mono : ∀ a0 k, LeO (spec_l4Worst.f k a0) (spec_l4Worst.f (k + 1) a0) := by
  intro a0 k
  obtain ⟨ih0, ih1⟩ := spec_l4Worst.mono_l k
  unfold spec_l4Worst.f
  repeat' first
      | (with_reducible exact ih0 _ _ _)
      | (with_reducible exact ih1 _ _ _ _)
      | (with_reducible exact LeO.refl _)
      | (with_reducible exact LeO.none _)
      | (with_reducible refine LeO.ite ?_ ?_)
      | (with_reducible refine LeO.bind ?_ (fun _ => ?_))
      | exact ih0 _ _ _
      | exact ih1 _ _ _ _
      | exact LeO.none _
      | refine LeO.ite ?_ ?_
      | refine LeO.bind ?_ (fun _ => ?_)
set_option maxHeartbeats 8000000 in
set_option maxRecDepth 100000 in
theorem spec_l4Worst.calls (k : Nat) (A0 : Option Addr) (c0 : Nat) (l0 : List (List Int)) (r : Int) (w : World) (hr0 : Kd.C (Kd.slice 3 (Kd.int .i64)) w A0 l0.length l0) (hc0 : l0.length ≤ c0) (h : spec_l4Worst.f k l0 = some r) :
    Calls Try.prog 112 #[.slice A0 l0.length c0] w fun e w' => e = .returned (.int .i64 r) ∧ Drawn0 w w' := by
 have HR0 := A_ hr0
 have HC0 := A_ hc0
 clear hr0 hc0
 have H : (spec_l4Worst.l0 k l0 0 0) = some r := h
 clear h
 have H' := A_ H
 clear H
 go_enter Try.func112, Try.ntmps112
 go_wp2
 go_loopg [3, 4] k (fun kq v3 v4 w' => ∃ (x3_1 : Int) (x4_1 : Int), v3 = .int .i64 x3_1 ∧ v4 = .int .i64 x4_1 ∧ Aside0 (spec_l4Worst.l0 kq l0 x3_1 x4_1 = some r) ∧ Aside0 (kq ≤ k) ∧ Drawn0 w w')
 case atStart => exact ⟨(0), (0), (by first | rfl | (simp; done) | (simp [*]; done)), (by first | rfl | (simp; done) | (simp [*]; done)), H', ⟨Nat.le_refl _⟩, by repeat (first | exact Drawn0.refl _ | apply Drawn0.step)⟩
 case round =>
  clear H'
  try clear c1
  obtain ⟨x3_1, x4_1, rfl, rfl, HA, HK1, ⟨m1, rfl⟩⟩ := hrel
  cases gk with
  | zero => exact absurd HA.out (by simp [spec_l4Worst.l0])
  | succ k1 =>
   have H := HA.out
   clear HA
   simp only [spec_l4Worst.l0] at H
   by_cases c2 : x4_1 < (l0.length : Int)
   ·
    rw [if_pos c2] at H
    have c2b0 : decide (x4_1 < (l0.length : Int)) = true := decide_eq_true c2
    clear c2
    have H' := A_ H
    clear H
    go_wp2
    go_loopg [3, 5] k1 (fun kq v3 v5 w' => ∃ (x3_2 : Int) (x5_2 : Int), v3 = .int .i64 x3_2 ∧ v5 = .int .i64 x5_2 ∧ Aside0 (spec_l4Worst.l1 kq l0 x3_2 x4_1 x5_2 = some r) ∧ Aside0 (kq ≤ k1) ∧ Drawn0 w w')
    case atStart => exact ⟨(x3_1), (0), (by first | rfl | (simp; done) | (simp [*]; done)), (by first | rfl | (simp; done) | (simp [*]; done)), H', ⟨Nat.le_refl _⟩, by repeat (first | exact Drawn0.refl _ | apply Drawn0.step)⟩
    case round =>
     clear H'
     try clear c1
     try clear c2
     try clear c2b0
     try clear p2
     obtain ⟨x3_2, x5_2, rfl, rfl, HA, HK2, ⟨m2, rfl⟩⟩ := hrel
     cases gk with
     | zero => exact absurd HA.out (by simp [spec_l4Worst.l1])
     | succ k2 =>
      have H := HA.out
      clear HA
      simp only [spec_l4Worst.l1] at H
      by_cases c3 : 0 ≤ x4_1
      ·
       rw [if_pos c3] at H
       have c3b0 : decide (0 ≤ x4_1) = true := decide_eq_true c3
       clear c3
       by_cases c4 : x4_1 < (l0.length : Int)
       ·
        rw [if_pos c4] at H
        have c4b0 : decide (x4_1 < (l0.length : Int)) = true := decide_eq_true c4
        clear c4
        by_cases c5 : x5_2 < ((rd_L2 l0 x4_1).length : Int)
        ·
         rw [if_pos c5] at H
         have c5b0 : decide (x5_2 < ((rd_L2 l0 x4_1).length : Int)) = true := decide_eq_true c5
         clear c5
         by_cases c6 : 0 ≤ x5_2
         ·
          rw [if_pos c6] at H
          have c6b0 : decide (0 ≤ x5_2) = true := decide_eq_true c6
          clear c6
          by_cases c7 : (rd (rd_L2 l0 x4_1) x5_2) < 0
          ·
           rw [if_pos c7] at H
           have c7b0 : decide ((rd (rd_L2 l0 x4_1) x5_2) < 0) = true := decide_eq_true c7
           clear c7
           obtain rfl := Option.some.inj H
           have p338 : 0 ≤ (x4_1 : Int) := of_decide_eq_true (by first | (with_reducible assumption) | assumption)
           have q338 : x4_1 < (l0.length : Int) := of_decide_eq_true (by first | (with_reducible assumption) | assumption)
           obtain ⟨ad338, A338_0, c338_0, e338, hx338_0, hl338_0, hi338_0⟩ := at_L2 HR0.out x4_1 p338 q338
           cases e338
           have HR338_0 := A_ hi338_0
           have HC338_0 := A_ hl338_0
           clear hi338_0 hl338_0
           replace p338 := eq_true p338
           replace q338 := eq_true q338
           have p339 : 0 ≤ (x4_1 : Int) := of_decide_eq_true (by first | (with_reducible assumption) | assumption)
           have q339 : x4_1 < (l0.length : Int) := of_decide_eq_true (by first | (with_reducible assumption) | assumption)
           obtain ⟨ad339, A339_0, c339_0, e339, hx339_0, hl339_0, hi339_0⟩ := at_L2 HR0.out x4_1 p339 q339
           obtain rfl : ad338 = ad339 := (by injection e339)
           have HR339_0 := A_ hi339_0
           have HC339_0 := A_ hl339_0
           clear hi339_0 hl339_0
           replace p339 := eq_true p339
           replace q339 := eq_true q339
           have ea_ := Option.some.inj (hx338_0.symm.trans hx339_0)
           injection ea_ with ea_ en_ ec_
           subst ea_
           subst ec_
           clear en_
           have p340 : 0 ≤ (x5_2 : Int) := of_decide_eq_true (by first | (with_reducible assumption) | assumption)
           have q340 : x5_2 < ((rd_L2 l0 x4_1).length : Int) := of_decide_eq_true (by first | (with_reducible assumption) | assumption)
           obtain ⟨ad340, e340, hx340_0⟩ := Kd.at_int HR339_0.out x5_2 p340 q340
           cases e340
           replace p340 := eq_true p340
           replace q340 := eq_true q340
           go_wp2
           go_ret
           exact ⟨by first | rfl | (simp; done) | (simp [*]; done), by repeat (first | exact Drawn0.refl _ | apply Drawn0.step)⟩
          ·
           rw [if_neg c7] at H
           have c7b0 : decide ((rd (rd_L2 l0 x4_1) x5_2) < 0) = false := decide_eq_false c7
           clear c7
           replace H := Option.bind_eq_some_iff.mp H
           obtain ⟨t343, A80, H⟩ := H
           replace H : (spec_l4Worst.l1 k2 l0 t343 x4_1 (wrap64 (x5_2 + 1))) = some r := H
           have A8 := A_ A80
           clear A80
           have H' := A_ H
           clear H
           have p338 : 0 ≤ (x4_1 : Int) := of_decide_eq_true (by first | (with_reducible assumption) | assumption)
           have q338 : x4_1 < (l0.length : Int) := of_decide_eq_true (by first | (with_reducible assumption) | assumption)
           obtain ⟨ad338, A338_0, c338_0, e338, hx338_0, hl338_0, hi338_0⟩ := at_L2 HR0.out x4_1 p338 q338
           cases e338
           have HR338_0 := A_ hi338_0
           have HC338_0 := A_ hl338_0
           clear hi338_0 hl338_0
           replace p338 := eq_true p338
           replace q338 := eq_true q338
           have p339 : 0 ≤ (x4_1 : Int) := of_decide_eq_true (by first | (with_reducible assumption) | assumption)
           have q339 : x4_1 < (l0.length : Int) := of_decide_eq_true (by first | (with_reducible assumption) | assumption)
           obtain ⟨ad339, A339_0, c339_0, e339, hx339_0, hl339_0, hi339_0⟩ := at_L2 HR0.out x4_1 p339 q339
           obtain rfl : ad338 = ad339 := (by injection e339)
           have HR339_0 := A_ hi339_0
           have HC339_0 := A_ hl339_0
           clear hi339_0 hl339_0
           replace p339 := eq_true p339
           replace q339 := eq_true q339
           have ea_ := Option.some.inj (hx338_0.symm.trans hx339_0)
           injection ea_ with ea_ en_ ec_
           subst ea_
           subst ec_
           clear en_
           have p340 : 0 ≤ (x5_2 : Int) := of_decide_eq_true (by first | (with_reducible assumption) | assumption)
           have q340 : x5_2 < ((rd_L2 l0 x4_1).length : Int) := of_decide_eq_true (by first | (with_reducible assumption) | assumption)
           obtain ⟨ad340, e340, hx340_0⟩ := Kd.at_int HR339_0.out x5_2 p340 q340
           cases e340
           replace p340 := eq_true p340
           replace q340 := eq_true q340
           have p341 : 0 ≤ (x4_1 : Int) := of_decide_eq_true (by first | (with_reducible assumption) | assumption)
           have q341 : x4_1 < (l0.length : Int) := of_decide_eq_true (by first | (with_reducible assumption) | assumption)
           obtain ⟨ad341, A341_0, c341_0, e341, hx341_0, hl341_0, hi341_0⟩ := at_L2 HR0.out x4_1 p341 q341
           obtain rfl : ad338 = ad341 := (by injection e341)
           have HR341_0 := A_ hi341_0
           have HC341_0 := A_ hl341_0
           clear hi341_0 hl341_0
           replace p341 := eq_true p341
           replace q341 := eq_true q341
           have ea_ := Option.some.inj (hx338_0.symm.trans hx341_0)
           injection ea_ with ea_ en_ ec_
           subst ea_
           subst ec_
           clear en_
           have p342 : 0 ≤ (x5_2 : Int) := of_decide_eq_true (by first | (with_reducible assumption) | assumption)
           have q342 : x5_2 < ((rd_L2 l0 x4_1).length : Int) := of_decide_eq_true (by first | (with_reducible assumption) | assumption)
           obtain ⟨ad342, e342, hx342_0⟩ := Kd.at_int HR341_0.out x5_2 p342 q342
           cases e342
           replace p342 := eq_true p342
           replace q342 := eq_true q342
           go_wp2_with (first | ((with_reducible refine gate_callee (f := 70) rfl ?_); refine goesL_ (some 37) rfl rfl Try.func70 (by kernel_rfl) rfl #[.int .i64 x3_2, .int .i64 (rd (rd_L2 l0 x4_1) x5_2)] rfl gq ?_; (with_reducible refine (spec_l1Most.calls x3_2 (rd (rd_L2 l0 x4_1) x5_2) t343 _ A8.out).mono ?_); rintro e w' ⟨rfl, ⟨nd, rfl⟩⟩; refine ⟨_, rfl, ?_⟩))
           go_roundg k2
           case measure => have := HK1.out; have := HK2.out; omega
           case rel => exact ⟨(t343), (wrap64 (x5_2 + 1)), (by first | rfl | (simp; done) | (simp [*]; done)), (by first | rfl | (simp; done) | (simp [*]; done)), H', ⟨by have := HK1.out; have := HK2.out; omega⟩, by repeat (first | exact Drawn0.refl _ | apply Drawn0.step)⟩
         ·
          rw [if_neg c6] at H
          exact absurd H (by simp)
        ·
         rw [if_neg c5] at H
         have c5b0 : decide (x5_2 < ((rd_L2 l0 x4_1).length : Int)) = false := decide_eq_false c5
         clear c5
         have H' := A_ H
         clear H
         have p338 : 0 ≤ (x4_1 : Int) := of_decide_eq_true (by first | (with_reducible assumption) | assumption)
         have q338 : x4_1 < (l0.length : Int) := of_decide_eq_true (by first | (with_reducible assumption) | assumption)
         obtain ⟨ad338, A338_0, c338_0, e338, hx338_0, hl338_0, hi338_0⟩ := at_L2 HR0.out x4_1 p338 q338
         cases e338
         have HR338_0 := A_ hi338_0
         have HC338_0 := A_ hl338_0
         clear hi338_0 hl338_0
         replace p338 := eq_true p338
         replace q338 := eq_true q338
         go_wp2
         go_roundg k2
         case measure => have := HK1.out; have := HK2.out; omega
         case rel => exact ⟨(x3_2), (wrap64 (x4_1 + 1)), (by first | rfl | (simp; done) | (simp [*]; done)), (by first | rfl | (simp; done) | (simp [*]; done)), H', ⟨by have := HK1.out; have := HK2.out; omega⟩, by repeat (first | exact Drawn0.refl _ | apply Drawn0.step)⟩
       ·
        rw [if_neg c4] at H
        exact absurd H (by simp)
      ·
       rw [if_neg c3] at H
       exact absurd H (by simp)
   ·
    rw [if_neg c2] at H
    have c2b0 : decide (x4_1 < (l0.length : Int)) = false := decide_eq_false c2
    clear c2
    obtain rfl := Option.some.inj H
    go_wp2
    go_ret
    exact ⟨by first | rfl | (simp; done) | (simp [*]; done), by repeat (first | exact Drawn0.refl _ | apply Drawn0.step)⟩

/-! ### spec_l2Step: function 104 -/
def spec_l2Step.f (a0_0 : Int) (a0_1 : Bool) (a1 : Int) (a2 : Int) : Option (Int) := if a0_1 = true then (if a0_0 = 0 then (none) else (some (Int.tmod (wrap64 ((wrap64 (a1 + a2)) + a0_0)) a0_0))) else ((spec_l1Least.f (wrap64 (a1 + a2)) (wrap64 (a0_0 - 1))).bind fun t345 => ((spec_l1Most.f t345 0).bind fun t346 => (some t346)))
set_option maxHeartbeats 8000000 in
set_option maxRecDepth 100000 in
theorem spec_l2Step.calls (a0_0 : Int) (a0_1 : Bool) (a1 : Int) (a2 : Int) (r : Int) (w : World) (h : spec_l2Step.f a0_0 a0_1 a1 a2 = some r) :
    Calls Try.prog 104 #[.agg #[.int .i64 a0_0, .bool a0_1], .int .i64 a1, .int .i64 a2] w fun e w' => e = .returned (.int .i64 r) ∧ Below w.heap.size w w' := by
 have hu25 := Try.underlying25
 have HB := A_ (Below.refl w.heap.size w)
 have H : (if a0_1 = true then (if a0_0 = 0 then (none) else (some (Int.tmod (wrap64 ((wrap64 (a1 + a2)) + a0_0)) a0_0))) else ((spec_l1Least.f (wrap64 (a1 + a2)) (wrap64 (a0_0 - 1))).bind fun t345 => ((spec_l1Most.f t345 0).bind fun t346 => (some t346)))) = some r := h
 clear h
 by_cases c4 : a0_1 = true
 ·
  subst c4
  have H1 : (if a0_0 = 0 then (none) else (some (Int.tmod (wrap64 ((wrap64 (a1 + a2)) + a0_0)) a0_0))) = some r := by rw [if_pos rfl] at H; exact H
  clear H
  have H := H1
  clear H1
  by_cases c5 : a0_0 = 0
  ·
   rw [if_pos c5] at H
   exact absurd H (by simp)
  ·
   rw [if_neg c5] at H
   have c5b0 : (a0_0 == 0) = false := beq_eq_false_iff_ne.mpr c5
   have c5b1 : (a0_0 != 0) = true := bne_iff_ne.mpr c5
   obtain rfl := Option.some.inj H
   go_enter Try.func104, Try.ntmps104
   go_wp2_with (first | ((with_reducible refine gate_dst (N := 3) rfl ?_); refine box_event ?hg (N := 3) ?hd (cs := #[.int .i64 a0_0, .bool true]) (t := 25) ?hr ?_; (case hd => rfl); (case hg => rfl); (case hr => first | (go_simp; done) | (go_simp; rfl)); intro gb344 hg w6 hbox hb; have n0_ := A_ (below_step (hq HB) hb); have n1_ := A_ (hbox); have n2_ := A_ ((by rw [hg]; exact (below_size (hq HB)) : w.heap.size ≤ gb344)); have n3_ := A_ ((by rw [hg]; exact (below_size (hq HB)) : w.heap.size ≤ gb344)); clear HB; have HB := n0_; have BK344 := n1_; have GW344 := n2_; have GE344 := n3_; clear n0_ n1_ n2_ n3_; clear hb hbox hg; have hcz7_0 : w6.cell? ⟨gb344, 0, none⟩ = some (.int .i64 a0_0) := bc BK344 0; have hcz7_1 : w6.cell? ⟨gb344, 1, none⟩ = some (.bool true) := bc BK344 1; have hfz7_0 := blk_frozen BK344.out 0; have hfz7_1 := blk_frozen BK344.out 1))
   go_ret
   exact ⟨rt, hq HB⟩
 ·
  replace c4 := Bool.eq_false_iff.mpr c4
  subst c4
  have H1 : ((spec_l1Least.f (wrap64 (a1 + a2)) (wrap64 (a0_0 - 1))).bind fun t345 => ((spec_l1Most.f t345 0).bind fun t346 => (some t346))) = some r := by rw [if_neg (show ¬ (false = true) by decide)] at H; exact H
  clear H
  have H := H1
  clear H1
  replace H := Option.bind_eq_some_iff.mp H
  obtain ⟨t345, A80, H⟩ := H
  replace H : ((spec_l1Most.f t345 0).bind fun t346 => (some t346)) = some r := H
  have A8 := A_ A80
  clear A80
  replace H := Option.bind_eq_some_iff.mp H
  obtain ⟨t346, A90, H⟩ := H
  replace H : (some t346) = some r := H
  have A9 := A_ A90
  clear A90
  obtain rfl := Option.some.inj H
  go_enter Try.func104, Try.ntmps104
  go_wp2_with (first | ((with_reducible refine gate_dst (N := 3) rfl ?_); refine box_event ?hg (N := 3) ?hd (cs := #[.int .i64 a0_0, .bool false]) (t := 25) ?hr ?_; (case hd => rfl); (case hg => rfl); (case hr => first | (go_simp; done) | (go_simp; rfl)); intro gb344 hg w10 hbox hb; have n0_ := A_ (below_step (hq HB) hb); have n1_ := A_ (hbox); have n2_ := A_ ((by rw [hg]; exact (below_size (hq HB)) : w.heap.size ≤ gb344)); have n3_ := A_ ((by rw [hg]; exact (below_size (hq HB)) : w.heap.size ≤ gb344)); clear HB; have HB := n0_; have BK344 := n1_; have GW344 := n2_; have GE344 := n3_; clear n0_ n1_ n2_ n3_; clear hb hbox hg; have hcz11_0 : w10.cell? ⟨gb344, 0, none⟩ = some (.int .i64 a0_0) := bc BK344 0; have hcz11_1 : w10.cell? ⟨gb344, 1, none⟩ = some (.bool false) := bc BK344 1; have hfz11_0 := blk_frozen BK344.out 0; have hfz11_1 := blk_frozen BK344.out 1) | ((with_reducible refine gate_callee (f := 90) rfl ?_); refine goesL_ (some 24) rfl rfl Try.func90 (by kernel_rfl) rfl #[.int .i64 (wrap64 (a1 + a2)), .int .i64 (wrap64 (a0_0 - 1))] rfl gq ?_; (with_reducible refine (spec_l1Least.calls (wrap64 (a1 + a2)) (wrap64 (a0_0 - 1)) t345 _ A8.out).mono ?_); rintro e w' ⟨rfl, ⟨nd, rfl⟩⟩; refine ⟨_, rfl, ?_⟩) | ((with_reducible refine gate_callee (f := 70) rfl ?_); refine goesL_ (some 25) rfl rfl Try.func70 (by kernel_rfl) rfl #[.int .i64 t345, .int .i64 0] rfl gq ?_; (with_reducible refine (spec_l1Most.calls t345 0 t346 _ A9.out).mono ?_); rintro e w' ⟨rfl, ⟨nd, rfl⟩⟩; refine ⟨_, rfl, ?_⟩))
  go_ret
  exact ⟨rt, hq HB⟩

end Go.Proofs.Ytmamhnbhahafgaa.PFnLabels
