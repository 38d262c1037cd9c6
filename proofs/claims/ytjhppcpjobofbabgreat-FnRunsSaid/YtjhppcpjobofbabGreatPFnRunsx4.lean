-- Told shorter still by shrink2.py.
-- Printed, and told shorter by this session's program shrink.py.
-- Printed by this session's program myprint.py.
import Derived.Test.YtjhppcpjobofbabGreatPFnRunsx0
namespace Go.Proofs.YtjhppcpjobofbabGreat.PFnRuns
open Go.RowKit Go.Proofs.YtjhppcpjobofbabGreat.Own Go.Proofs.YtjhppcpjobofbabGreatW.PrintWords Go.Proofs.YtjhppcpjobofbabGreatW.PrintLast Go.Proofs.YtjhppcpjobofbabGreatW.PrintMore
attribute [local go_sem] max2_int min2_int max_two min_two max_three min_three max_four min_four   -- for this text's walks alone
set_option linter.unusedVariables false
set_option linter.unusedSimpArgs false

/-! ### impl_within: function 68 -/
def Q30.f (a0 : Int) (a1 : Int) (a2 : Int) : Option (Bool) := if a0 ≥ a1 then (some (decide (a0 ≤ a2))) else (some false)
set_option maxHeartbeats 8000000 in
set_option maxRecDepth 100000 in
theorem Q30.calls (a0 : Int) (a1 : Int) (a2 : Int) (r : Bool) (w : World) (h : Q30.f a0 a1 a2 = some r) :
    Calls Tryz.prog 68 #[.int .i64 a0, .int .i64 a1, .int .i64 a2] w fun e w' => e = .returned (.bool r) ∧ Drawn0 w w' := by
 have H : (if a0 ≥ a1 then (some (decide (a0 ≤ a2))) else (some false)) = some r := h; clear h; by_cases c4 : a0 ≥ a1
 ·
  rw [if_pos c4] at H; have c4b0 : decide (a1 ≤ a0) = true := decide_eq_true c4; clear c4; obtain rfl := Option.some.inj H; go_enter Tryz.func68, Tryz.ntmps68
  go_wp2
  go_ret
  exact ⟨rf, by repeat (first | exact Drawn0.refl _ | apply Drawn0.step)⟩
 ·
  rw [if_neg c4] at H; have c4b0 : decide (a1 ≤ a0) = false := decide_eq_false c4; clear c4; obtain rfl := Option.some.inj H; go_enter Tryz.func68, Tryz.ntmps68
  go_wp2
  go_ret
  exact ⟨rf, by repeat (first | exact Drawn0.refl _ | apply Drawn0.step)⟩

/-! ### impl_IsRoad: function 42 -/
def Q20.f (a0_0 : Int) (a0_1 : Bool) : Option (Bool) := (Q30.f a0_0 2 24).bind fun t300 => (if t300 = true then (if a0_1 = true then (some (decide (a0_0 ≥ 3))) else (some true)) else (some false))
set_option maxHeartbeats 8000000 in
set_option maxRecDepth 100000 in
theorem Q20.calls (a0_0 : Int) (a0_1 : Bool) (r : Bool) (w : World) (h : Q20.f a0_0 a0_1 = some r) :
    Calls Tryz.prog 42 #[.agg #[.int .i64 a0_0, .bool a0_1]] w fun e w' => e = .returned (.bool r) ∧ Below w.heap.size w w' := by
 have hu25 := Tryz.underlying25; have HB := A_ (Below.refl w.heap.size w); have H : ((Q30.f a0_0 2 24).bind fun t300 => (if t300 = true then (if a0_1 = true then (some (decide (a0_0 ≥ 3))) else (some true)) else (some false))) = some r := h; clear h; replace H := bm H; obtain ⟨t300, A2, H⟩ := H; by_cases c3 : t300 = true
 ·
  subst c3
  rw [if_pos rfl] at H; by_cases c4 : a0_1 = true
  ·
   subst c4
   rw [if_pos rfl] at H; obtain rfl := Option.some.inj H; go_enter Tryz.func42, Tryz.ntmps42
   go_wp2_with (first | ((with_reducible refine gate_dst (N := 1) rfl ?_); refine bx (N := 1) #[.int .i64 a0_0, .bool true] 25 ?_; intro gb299 hg w5 hbox hb; have BK299 := A_ (hbox); have GW299 := A_ (bs hg (hq HB) : w.heap.size ≤ gb299); have GE299 := A_ (bs hg (hq HB) : w.heap.size ≤ gb299); replace HB := A_ (below_step (hq HB) hb); clear hb hbox hg; obtain ⟨hcz6_0, hcz6_1, hfz6_0, hfz6_1⟩ := zc4 BK299) | ((with_reducible refine gate_callee (f := 68) rfl ?_); refine gL (some 5) Tryz.func68 #[.int .i64 a0_0, .int .i64 2, .int .i64 24] ?_; (with_reducible refine (Q30.calls a0_0 2 24 true _ A2.out).mono ?_); rintro e w' ⟨rfl, ⟨nd, rfl⟩⟩; refine ⟨_, rfl, ?_⟩))
   go_ret
   exact ⟨rt, hq HB⟩
  ·
   replace c4 := Bool.eq_false_iff.mpr c4; subst c4
   rw [if_neg nf] at H; obtain rfl := Option.some.inj H; go_enter Tryz.func42, Tryz.ntmps42
   go_wp2_with (first | ((with_reducible refine gate_dst (N := 1) rfl ?_); refine bx (N := 1) #[.int .i64 a0_0, .bool false] 25 ?_; intro gb299 hg w7 hbox hb; have BK299 := A_ (hbox); have GW299 := A_ (bs hg (hq HB) : w.heap.size ≤ gb299); have GE299 := A_ (bs hg (hq HB) : w.heap.size ≤ gb299); replace HB := A_ (below_step (hq HB) hb); clear hb hbox hg; obtain ⟨hcz8_0, hcz8_1, hfz8_0, hfz8_1⟩ := zc4 BK299) | ((with_reducible refine gate_callee (f := 68) rfl ?_); refine gL (some 5) Tryz.func68 #[.int .i64 a0_0, .int .i64 2, .int .i64 24] ?_; (with_reducible refine (Q30.calls a0_0 2 24 true _ A2.out).mono ?_); rintro e w' ⟨rfl, ⟨nd, rfl⟩⟩; refine ⟨_, rfl, ?_⟩))
   go_ret
   exact ⟨rt, hq HB⟩
 ·
  replace c3 := Bool.eq_false_iff.mpr c3; subst c3
  rw [if_neg nf] at H; obtain rfl := Option.some.inj H; go_enter Tryz.func42, Tryz.ntmps42
  go_wp2_with (first | ((with_reducible refine gate_dst (N := 1) rfl ?_); refine bx (N := 1) #[.int .i64 a0_0, .bool a0_1] 25 ?_; intro gb299 hg w9 hbox hb; have BK299 := A_ (hbox); have GW299 := A_ (bs hg (hq HB) : w.heap.size ≤ gb299); have GE299 := A_ (bs hg (hq HB) : w.heap.size ≤ gb299); replace HB := A_ (below_step (hq HB) hb); clear hb hbox hg; obtain ⟨hcz10_0, hcz10_1, hfz10_0, hfz10_1⟩ := zc4 BK299) | ((with_reducible refine gate_callee (f := 68) rfl ?_); refine gL (some 5) Tryz.func68 #[.int .i64 a0_0, .int .i64 2, .int .i64 24] ?_; (with_reducible refine (Q30.calls a0_0 2 24 false _ A2.out).mono ?_); rintro e w' ⟨rfl, ⟨nd, rfl⟩⟩; refine ⟨_, rfl, ?_⟩))
  go_ret
  exact ⟨rt, hq HB⟩

/-! ### impl_allWithin: function 54 -/
def Q35.l0 : Nat → Int → Int → List Int → Int → Int → Option (Bool)
  | 0, _, _, _, _, _ => none
  | k + 1, x1, x2, x9, x10, x11 => if x11 < x10 then (if 0 ≤ x11 then (if x11 < (x9.length : Int) then ((Q30.f (rd x9 x11) x1 x2).bind fun t302 => (if t302 = true then (Q35.l0 k x1 x2 x9 x10 (wrap64 (x11 + 1))) else (some false))) else (none)) else (none)) else (some true)
def Q35.f (k : Nat) (l0 : List Int) (a1 : Int) (a2 : Int) : Option (Bool) := Q35.l0 k a1 a2 l0 (l0.length : Int) 0
set_option maxHeartbeats 8000000 in
set_option maxRecDepth 100000 in
theorem Q35.calls (k : Nat) (A0 : Option Addr) (c0 : Nat) (l0 : List Int) (a1 : Int) (a2 : Int) (r : Bool) (w : World) (hr0 : Kd.C (Kd.int .i64) w A0 l0.length l0) (hc0 : l0.length ≤ c0) (h : Q35.f k l0 a1 a2 = some r) :
    Calls Tryz.prog 54 #[.slice A0 l0.length c0, .int .i64 a1, .int .i64 a2] w fun e w' => e = .returned (.bool r) ∧ Drawn0 w w' := by
 have HR0 := A_ hr0; have HC0 := A_ hc0; clear hr0 hc0; have H : (Q35.l0 k a1 a2 l0 (l0.length : Int) 0) = some r := h; clear h; have H' := A_ H; clear H; go_enter Tryz.func54, Tryz.ntmps54
 go_wp2
 go_loopg [11] k (fun kq v11 w' => ∃ (x11_1 : Int), v11 = .int .i64 x11_1 ∧ Aside0 (Q35.l0 kq a1 a2 l0 (l0.length : Int) x11_1 = some r) ∧ Aside0 (kq ≤ k) ∧ Drawn0 w w')
 case atStart => exact ⟨(0), rf, H', ⟨Nat.le_refl _⟩, by repeat (first | exact Drawn0.refl _ | apply Drawn0.step)⟩
 case round =>
  clear H'; obtain ⟨x11_1, rfl, HA, HK1, ⟨m1, rfl⟩⟩ := hrel
  cases gk with
  | zero => exact absurd HA.out (by simp [Q35.l0])
  | succ k1 =>
   have H := HA.out; clear HA; simp only [Q35.l0] at H
   by_cases c4 : x11_1 < (l0.length : Int)
   ·
    rw [if_pos c4] at H; have c4b0 := decide_eq_true c4; clear c4; by_cases c5 : 0 ≤ x11_1
    ·
     rw [if_pos c5] at H; have c5b0 := decide_eq_true c5; clear c5; by_cases c6 : x11_1 < (l0.length : Int)
     ·
      rw [if_pos c6] at H; have c6b0 := decide_eq_true c6; clear c6; replace H := bm H; obtain ⟨t302, A7, H⟩ := H; by_cases c8 : t302 = true
      ·
       subst c8
       rw [if_pos rfl] at H; have H' := A_ H; clear H; have p301 : 0 ≤ (x11_1 : Int) := dq; have q301 : x11_1 < (l0.length : Int) := dq; obtain ⟨ad301, e301, hx301_0⟩ := Kd.at_int HR0.out x11_1 p301 q301
       cases e301
       replace p301 := eq_true p301; replace q301 := eq_true q301; go_wp2_with (first | ((with_reducible refine gate_callee (f := 68) rfl ?_); refine gL (some 18) Tryz.func68 #[.int .i64 (rd l0 x11_1), .int .i64 a1, .int .i64 a2] ?_; (with_reducible refine (Q30.calls (rd l0 x11_1) a1 a2 true _ A7.out).mono ?_); rintro e w' ⟨rfl, ⟨nd, rfl⟩⟩; refine ⟨_, rfl, ?_⟩))
       go_roundg k1
       case measure => have := HK1.out; omega
       case rel => exact ⟨(wrap64 (x11_1 + 1)), rf, H', ⟨by have := HK1.out; omega⟩, by repeat (first | exact Drawn0.refl _ | apply Drawn0.step)⟩
      ·
       replace c8 := Bool.eq_false_iff.mpr c8; subst c8
       rw [if_neg nf] at H; obtain rfl := Option.some.inj H; have p301 : 0 ≤ (x11_1 : Int) := dq; have q301 : x11_1 < (l0.length : Int) := dq; obtain ⟨ad301, e301, hx301_0⟩ := Kd.at_int HR0.out x11_1 p301 q301
       cases e301
       replace p301 := eq_true p301; replace q301 := eq_true q301; go_wp2_with (first | ((with_reducible refine gate_callee (f := 68) rfl ?_); refine gL (some 18) Tryz.func68 #[.int .i64 (rd l0 x11_1), .int .i64 a1, .int .i64 a2] ?_; (with_reducible refine (Q30.calls (rd l0 x11_1) a1 a2 false _ A7.out).mono ?_); rintro e w' ⟨rfl, ⟨nd, rfl⟩⟩; refine ⟨_, rfl, ?_⟩))
       go_ret
       exact ⟨rf, by repeat (first | exact Drawn0.refl _ | apply Drawn0.step)⟩
     ·
      rw [if_neg c6] at H; exact absurd H (by simp)
    ·
     rw [if_neg c5] at H; exact absurd H (by simp)
   ·
    rw [if_neg c4] at H; have c4b0 := decide_eq_false c4; clear c4; obtain rfl := Option.some.inj H; go_wp2
    go_ret
    exact ⟨rf, by repeat (first | exact Drawn0.refl _ | apply Drawn0.step)⟩

/-! ### impl_Road_has: function 28 -/
def Q6.f (k : Nat) (a0_0 : Int) (a0_1 : Bool) (l1 : List Int) : Option (Bool) := (Q35.f k l1 0 (wrap64 (a0_0 - 1))).bind fun t304 => (some t304)
set_option maxHeartbeats 8000000 in
set_option maxRecDepth 100000 in
theorem Q6.calls (k : Nat) (a0_0 : Int) (a0_1 : Bool) (A1 : Option Addr) (c1 : Nat) (l1 : List Int) (r : Bool) (w : World) (hr1 : Kd.C (Kd.int .i64) w A1 l1.length l1) (hc1 : l1.length ≤ c1) (h : Q6.f k a0_0 a0_1 l1 = some r) :
    Calls Tryz.prog 28 #[.agg #[.int .i64 a0_0, .bool a0_1], .slice A1 l1.length c1] w fun e w' => e = .returned (.bool r) ∧ Below w.heap.size w w' := by
 have hu25 := Tryz.underlying25; have HR1 := A_ hr1; have HC1 := A_ hc1; clear hr1 hc1; have HB := A_ (Below.refl w.heap.size w); have H : ((Q35.f k l1 0 (wrap64 (a0_0 - 1))).bind fun t304 => (some t304)) = some r := h; clear h; replace H := bm H; obtain ⟨t304, A3, H⟩ := H; obtain rfl := Option.some.inj H; go_enter Tryz.func28, Tryz.ntmps28
 go_wp2_with (first | ((with_reducible refine gate_dst (N := 2) rfl ?_); refine bx (N := 2) #[.int .i64 a0_0, .bool a0_1] 25 ?_; intro gb303 hg w4 hbox hb; have BK303 := A_ (hbox); have GW303 := A_ (bs hg (hq HB) : w.heap.size ≤ gb303); have GE303 := A_ (bs hg (hq HB) : w.heap.size ≤ gb303); replace HB := A_ (below_step (hq HB) hb); clear hb hbox hg; obtain ⟨hcz5_0, hcz5_1, hfz5_0, hfz5_1⟩ := zc4 BK303) | ((with_reducible refine gate_callee (f := 54) rfl ?_); refine gL (some 9) Tryz.func54 #[.slice A1 l1.length c1, .int .i64 0, .int .i64 (wrap64 (a0_0 - 1))] ?_; (with_reducible refine (Q35.calls k _ _ l1 0 (wrap64 (a0_0 - 1)) t304 _ ?side1 ?side2 A3.out).mono ?_); (case side1 => exact cq (Kd.C_below HR1.out HB.out)); (case side2 => exact HC1.out); rintro e w' ⟨rfl, ⟨nd, rfl⟩⟩; refine ⟨_, rfl, ?_⟩))
 go_ret
 exact ⟨rt, hq HB⟩

/-! ### impl_Road_areExplorers: function 53 -/
def Q61.f (k : Nat) (a0_0 : Int) (a0_1 : Bool) (l1 : List Int) : Option (Bool) := (Q30.f (l1.length : Int) 1 4).bind fun t306 => (if t306 = true then ((Q6.f k a0_0 a0_1 l1).bind fun t307 => (some t307)) else (some false))
set_option maxHeartbeats 8000000 in
set_option maxRecDepth 100000 in
theorem Q61.calls (k : Nat) (a0_0 : Int) (a0_1 : Bool) (A1 : Option Addr) (c1 : Nat) (l1 : List Int) (r : Bool) (w : World) (hr1 : Kd.C (Kd.int .i64) w A1 l1.length l1) (hc1 : l1.length ≤ c1) (h : Q61.f k a0_0 a0_1 l1 = some r) :
    Calls Tryz.prog 53 #[.agg #[.int .i64 a0_0, .bool a0_1], .slice A1 l1.length c1] w fun e w' => e = .returned (.bool r) ∧ Below w.heap.size w w' := by
 have hu25 := Tryz.underlying25; have HR1 := A_ hr1; have HC1 := A_ hc1; clear hr1 hc1; have HB := A_ (Below.refl w.heap.size w); have H : ((Q30.f (l1.length : Int) 1 4).bind fun t306 => (if t306 = true then ((Q6.f k a0_0 a0_1 l1).bind fun t307 => (some t307)) else (some false))) = some r := h; clear h; replace H := bm H; obtain ⟨t306, A3, H⟩ := H; by_cases c4 : t306 = true
 ·
  subst c4
  rw [if_pos rfl] at H; replace H := bm H; obtain ⟨t307, A5, H⟩ := H; obtain rfl := Option.some.inj H; go_enter Tryz.func53, Tryz.ntmps53
  go_wp2_with (first | ((with_reducible refine gate_dst (N := 2) rfl ?_); refine bx (N := 2) #[.int .i64 a0_0, .bool a0_1] 25 ?_; intro gb305 hg w6 hbox hb; have BK305 := A_ (hbox); have GW305 := A_ (bs hg (hq HB) : w.heap.size ≤ gb305); have GE305 := A_ (bs hg (hq HB) : w.heap.size ≤ gb305); replace HB := A_ (below_step (hq HB) hb); clear hb hbox hg) | ((with_reducible refine gate_callee (f := 68) rfl ?_); refine gL (some 7) Tryz.func68 #[.int .i64 (l1.length : Int), .int .i64 1, .int .i64 4] ?_; (with_reducible refine (Q30.calls (l1.length : Int) 1 4 true _ A3.out).mono ?_); rintro e w' ⟨rfl, ⟨nd, rfl⟩⟩; refine ⟨_, rfl, ?_⟩; obtain ⟨hcz7_0, hcz7_1, hfz7_0, hfz7_1⟩ := zc4 BK305) | (go_at_call 28; (with_reducible refine (Q6.calls k a0_0 a0_1 _ _ l1 t307 _ ?side1 ?side2 A5.out).mono ?_); (case side1 => exact cq (Kd.C_below HR1.out (hq HB))); (case side2 => exact HC1.out); rintro e w8 ⟨rfl, hb⟩; replace BK305 := A_ (blk_below (bq BK305) hb); replace HB := A_ (below_step (hq HB) hb); clear hb))
  go_ret
  exact ⟨rt, hq HB⟩
 ·
  replace c4 := Bool.eq_false_iff.mpr c4; subst c4
  rw [if_neg nf] at H; obtain rfl := Option.some.inj H; go_enter Tryz.func53, Tryz.ntmps53
  go_wp2_with (first | ((with_reducible refine gate_dst (N := 2) rfl ?_); refine bx (N := 2) #[.int .i64 a0_0, .bool a0_1] 25 ?_; intro gb305 hg w9 hbox hb; have BK305 := A_ (hbox); have GW305 := A_ (bs hg (hq HB) : w.heap.size ≤ gb305); have GE305 := A_ (bs hg (hq HB) : w.heap.size ≤ gb305); replace HB := A_ (below_step (hq HB) hb); clear hb hbox hg) | ((with_reducible refine gate_callee (f := 68) rfl ?_); refine gL (some 7) Tryz.func68 #[.int .i64 (l1.length : Int), .int .i64 1, .int .i64 4] ?_; (with_reducible refine (Q30.calls (l1.length : Int) 1 4 false _ A3.out).mono ?_); rintro e w' ⟨rfl, ⟨nd, rfl⟩⟩; refine ⟨_, rfl, ?_⟩))
  go_ret
  exact ⟨rt, hq HB⟩

/-! ### impl_areBudgets: function 27 -/
def Q50.f (k : Nat) (a0_0 : Int) (a0_1 : Bool) (l1 : List Int) (l2 : List Int) : Option (Bool) := (Q20.f a0_0 a0_1).bind fun t309 => (if t309 = true then ((Q61.f k a0_0 a0_1 l1).bind fun t310 => (if t310 = true then (if (l2.length : Int) = (l1.length : Int) then ((Q35.f k l2 0 99).bind fun t311 => (some t311)) else (some false)) else (some false))) else (some false))
set_option maxHeartbeats 8000000 in
set_option maxRecDepth 100000 in
theorem Q50.calls (k : Nat) (a0_0 : Int) (a0_1 : Bool) (A1 : Option Addr) (c1 : Nat) (l1 : List Int) (A2 : Option Addr) (c2 : Nat) (l2 : List Int) (r : Bool) (w : World) (hr1 : Kd.C (Kd.int .i64) w A1 l1.length l1) (hc1 : l1.length ≤ c1) (hr2 : Kd.C (Kd.int .i64) w A2 l2.length l2) (hc2 : l2.length ≤ c2) (h : Q50.f k a0_0 a0_1 l1 l2 = some r) :
    Calls Tryz.prog 27 #[.agg #[.int .i64 a0_0, .bool a0_1], .slice A1 l1.length c1, .slice A2 l2.length c2] w fun e w' => e = .returned (.bool r) ∧ Below w.heap.size w w' := by
 have hu25 := Tryz.underlying25; have HR1 := A_ hr1; have HC1 := A_ hc1; clear hr1 hc1; have HR2 := A_ hr2; have HC2 := A_ hc2; clear hr2 hc2; have HB := A_ (Below.refl w.heap.size w); have H : ((Q20.f a0_0 a0_1).bind fun t309 => (if t309 = true then ((Q61.f k a0_0 a0_1 l1).bind fun t310 => (if t310 = true then (if (l2.length : Int) = (l1.length : Int) then ((Q35.f k l2 0 99).bind fun t311 => (some t311)) else (some false)) else (some false))) else (some false))) = some r := h; clear h; replace H := bm H; obtain ⟨t309, A4, H⟩ := H; by_cases c5 : t309 = true
 ·
  subst c5
  rw [if_pos rfl] at H; replace H := bm H; obtain ⟨t310, A6, H⟩ := H; by_cases c7 : t310 = true
  ·
   subst c7
   rw [if_pos rfl] at H; by_cases c8 : (l2.length : Int) = (l1.length : Int)
   ·
    rw [if_pos c8] at H; have c8b0 : ((l2.length : Int) == (l1.length : Int)) = true := beq_iff_eq.mpr c8; have c8b1 : ((l2.length : Int) != (l1.length : Int)) = false := bne_eq_false_iff_eq.mpr c8
    have c8b2 : (l2.length == l1.length) = true := by first | simpa using c8 | (simp at c8 ⊢; omega)
    clear c8; replace H := bm H; obtain ⟨t311, A9, H⟩ := H; obtain rfl := Option.some.inj H; go_enter Tryz.func27, Tryz.ntmps27
    go_wp2_with (first | ((with_reducible refine gate_dst (N := 3) rfl ?_); (try (refine gate_guard (by rfl) ?_; dsimp only)); refine bx (N := 3) #[.int .i64 a0_0, .bool a0_1] 25 ?_; intro gb308 hg w10 hbox hb; have BK308 := A_ (hbox); have GW308 := A_ (bs hg (hq HB) : w.heap.size ≤ gb308); have GE308 := A_ (bs hg (hq HB) : w.heap.size ≤ gb308); replace HB := A_ (below_step (hq HB) hb); clear hb hbox hg; obtain ⟨hcz11_0, hcz11_1, hfz11_0, hfz11_1⟩ := zc4 BK308) | ((with_reducible refine gate_callee (f := 42) rfl ?_); refine gL (some 8) Tryz.func42 #[.agg #[.int .i64 a0_0, .bool a0_1]] ?_; (with_reducible refine (Q20.calls a0_0 a0_1 true _ A4.out).mono ?_); rintro e w12 ⟨rfl, hb⟩; refine ⟨_, rfl, ?_⟩; replace BK308 := A_ (blk_below (bq BK308) hb); replace HB := A_ (below_step (hq HB) hb); clear hb; obtain ⟨hcz13_0, hcz13_1, hfz13_0, hfz13_1⟩ := zc4 BK308) | (go_at_call 53; (with_reducible refine (Q61.calls k a0_0 a0_1 _ _ l1 true _ ?side1 ?side2 A6.out).mono ?_); (case side1 => exact cq (Kd.C_below HR1.out HB.out)); (case side2 => exact HC1.out); rintro e w14 ⟨rfl, hb⟩; replace BK308 := A_ (blk_below (bq BK308) hb); replace HB := A_ (below_step (hq HB) hb); clear hb) | (go_at_call 54; (with_reducible refine (Q35.calls k _ _ l2 0 99 t311 _ ?side1 ?side2 A9.out).mono ?_); (case side1 => exact cq (Kd.C_below HR2.out HB.out)); (case side2 => exact HC2.out); rintro e w' ⟨rfl, ⟨nd, rfl⟩⟩))
    go_ret
    exact ⟨rt, hq HB⟩
   ·
    rw [if_neg c8] at H; have c8b0 : ((l2.length : Int) == (l1.length : Int)) = false := beq_eq_false_iff_ne.mpr c8; have c8b1 : ((l2.length : Int) != (l1.length : Int)) = true := bne_iff_ne.mpr c8
    have c8b2 : (l2.length == l1.length) = false := by first | simpa using c8 | (simp at c8 ⊢; omega)
    obtain rfl := Option.some.inj H; go_enter Tryz.func27, Tryz.ntmps27
    go_wp2_with (first | ((with_reducible refine gate_dst (N := 3) rfl ?_); (try (refine gate_guard (by rfl) ?_; dsimp only)); refine bx (N := 3) #[.int .i64 a0_0, .bool a0_1] 25 ?_; intro gb308 hg w15 hbox hb; have BK308 := A_ (hbox); have GW308 := A_ (bs hg (hq HB) : w.heap.size ≤ gb308); have GE308 := A_ (bs hg (hq HB) : w.heap.size ≤ gb308); replace HB := A_ (below_step (hq HB) hb); clear hb hbox hg; obtain ⟨hcz16_0, hcz16_1, hfz16_0, hfz16_1⟩ := zc4 BK308) | ((with_reducible refine gate_callee (f := 42) rfl ?_); refine gL (some 8) Tryz.func42 #[.agg #[.int .i64 a0_0, .bool a0_1]] ?_; (with_reducible refine (Q20.calls a0_0 a0_1 true _ A4.out).mono ?_); rintro e w17 ⟨rfl, hb⟩; refine ⟨_, rfl, ?_⟩; replace BK308 := A_ (blk_below (bq BK308) hb); replace HB := A_ (below_step (hq HB) hb); clear hb; obtain ⟨hcz18_0, hcz18_1, hfz18_0, hfz18_1⟩ := zc4 BK308) | (go_at_call 53; (with_reducible refine (Q61.calls k a0_0 a0_1 _ _ l1 true _ ?side1 ?side2 A6.out).mono ?_); (case side1 => exact cq (Kd.C_below HR1.out HB.out)); (case side2 => exact HC1.out); rintro e w19 ⟨rfl, hb⟩; replace BK308 := A_ (blk_below (bq BK308) hb); replace HB := A_ (below_step (hq HB) hb); clear hb))
    go_ret
    exact ⟨rt, hq HB⟩
  ·
   replace c7 := Bool.eq_false_iff.mpr c7; subst c7
   rw [if_neg nf] at H; obtain rfl := Option.some.inj H; go_enter Tryz.func27, Tryz.ntmps27
   go_wp2_with (first | ((with_reducible refine gate_dst (N := 3) rfl ?_); (try (refine gate_guard (by rfl) ?_; dsimp only)); refine bx (N := 3) #[.int .i64 a0_0, .bool a0_1] 25 ?_; intro gb308 hg w20 hbox hb; have BK308 := A_ (hbox); have GW308 := A_ (bs hg (hq HB) : w.heap.size ≤ gb308); have GE308 := A_ (bs hg (hq HB) : w.heap.size ≤ gb308); replace HB := A_ (below_step (hq HB) hb); clear hb hbox hg; obtain ⟨hcz21_0, hcz21_1, hfz21_0, hfz21_1⟩ := zc4 BK308) | ((with_reducible refine gate_callee (f := 42) rfl ?_); refine gL (some 8) Tryz.func42 #[.agg #[.int .i64 a0_0, .bool a0_1]] ?_; (with_reducible refine (Q20.calls a0_0 a0_1 true _ A4.out).mono ?_); rintro e w22 ⟨rfl, hb⟩; refine ⟨_, rfl, ?_⟩; replace BK308 := A_ (blk_below (bq BK308) hb); replace HB := A_ (below_step (hq HB) hb); clear hb; obtain ⟨hcz23_0, hcz23_1, hfz23_0, hfz23_1⟩ := zc4 BK308) | (go_at_call 53; (with_reducible refine (Q61.calls k a0_0 a0_1 _ _ l1 false _ ?side1 ?side2 A6.out).mono ?_); (case side1 => exact cq (Kd.C_below HR1.out HB.out)); (case side2 => exact HC1.out); rintro e w24 ⟨rfl, hb⟩; replace BK308 := A_ (blk_below (bq BK308) hb); replace HB := A_ (below_step (hq HB) hb); clear hb))
   go_ret
   exact ⟨rt, hq HB⟩
 ·
  replace c5 := Bool.eq_false_iff.mpr c5; subst c5
  rw [if_neg nf] at H; obtain rfl := Option.some.inj H; go_enter Tryz.func27, Tryz.ntmps27
  go_wp2_with (first | ((with_reducible refine gate_dst (N := 3) rfl ?_); (try (refine gate_guard (by rfl) ?_; dsimp only)); refine bx (N := 3) #[.int .i64 a0_0, .bool a0_1] 25 ?_; intro gb308 hg w25 hbox hb; have BK308 := A_ (hbox); have GW308 := A_ (bs hg (hq HB) : w.heap.size ≤ gb308); have GE308 := A_ (bs hg (hq HB) : w.heap.size ≤ gb308); replace HB := A_ (below_step (hq HB) hb); clear hb hbox hg; obtain ⟨hcz26_0, hcz26_1, hfz26_0, hfz26_1⟩ := zc4 BK308) | ((with_reducible refine gate_callee (f := 42) rfl ?_); refine gL (some 8) Tryz.func42 #[.agg #[.int .i64 a0_0, .bool a0_1]] ?_; (with_reducible refine (Q20.calls a0_0 a0_1 false _ A4.out).mono ?_); rintro e w27 ⟨rfl, hb⟩; refine ⟨_, rfl, ?_⟩; replace BK308 := A_ (blk_below (bq BK308) hb); replace HB := A_ (below_step (hq HB) hb); clear hb))
  go_ret
  exact ⟨rt, hq HB⟩

/-! ### slices.Sorted at ints, of what slices.Values hands back (the printed text tells both calls as one) -/
def sortV (l : List Int) : List Int := l.mergeSort fun x y => decide (x ≤ y)
def Q71.f (k : Nat) (l0 : List Int) : Option (List Int) := if l0.length ≤ 1048576 then some (sortV l0) else none
theorem Q71.calls (k : Nat) (A0 : Option Addr) (c0 : Nat) (l0 : List Int) (r : List Int) (w : World) (hr0 : Kd.C (Kd.int .i64) w A0 l0.length l0) (hc0 : l0.length ≤ c0) (h : Q71.f k l0 = some r) :
    Calls Tryz.prog 29 #[.func (.func 57) #[] #[.pointer (some ⟨w.heap.size, 0, none⟩)]] (w.alloc (.cells #[.slice A0 l0.length c0] 26)) fun e w' => ∃ v0_ : Value, e = .returned (v0_) ∧ Kd.R (Kd.int .i64) 3 w' w.heap.size (fun _ => True) v0_ r ∧ Below w.heap.size w w' := by
 unfold Q71.f at h; by_cases c : l0.length ≤ 1048576
 ·
  rw [if_pos c] at h; obtain rfl := Option.some.inj h; refine (Go.Proofs.YtjhppcpjobofbabGreat.Iter.sorted_values w A0 c0 l0 c (fun j hj => ?_)).mono ?_
  ·
   obtain ⟨ad, e, hx⟩ := Kd.at_int hr0 (j : Int) (by omega) (by omega); refine ⟨ad, e, ?_⟩; rw [Int.toNat_natCast] at hx; rw [hx]; simp [rd, List.getD_eq_getElem?_getD]
  ·
   rintro e w' ⟨v, rfl, hrow, hb⟩; refine ⟨v, rfl, Kd.R_of_own ?_ (fun _ _ => trivial), hb⟩; have hs : (sortV l0).length = l0.length := List.length_mergeSort _; rw [hs]; exact hrow
 ·
  rw [if_neg c] at h; exact absurd h (by simp)

/-! ### slices_Equal_int_int: function 31 -/
def Q49.l0 : Nat → List Int → List Int → Int → Int → Option (Bool)
  | 0, _, _, _, _ => none
  | k + 1, x0, x1, x12, x13 => if x13 < x12 then (if 0 ≤ x13 then (if x13 < (x0.length : Int) then (if x13 < (x1.length : Int) then (if (rd x0 x13) = (rd x1 x13) then (Q49.l0 k x0 x1 x12 (wrap64 (x13 + 1))) else (some false)) else (none)) else (none)) else (none)) else (some true)
def Q49.f (k : Nat) (l0 : List Int) (l1 : List Int) : Option (Bool) := if (l0.length : Int) = (l1.length : Int) then (Q49.l0 k l0 l1 (l0.length : Int) 0) else (some false)
set_option maxHeartbeats 8000000 in
set_option maxRecDepth 100000 in
theorem Q49.calls (k : Nat) (A0 : Option Addr) (c0 : Nat) (l0 : List Int) (A1 : Option Addr) (c1 : Nat) (l1 : List Int) (r : Bool) (w : World) (hr0 : Kd.C (Kd.int .i64) w A0 l0.length l0) (hc0 : l0.length ≤ c0) (hr1 : Kd.C (Kd.int .i64) w A1 l1.length l1) (hc1 : l1.length ≤ c1) (h : Q49.f k l0 l1 = some r) :
    Calls Tryz.prog 31 #[.slice A0 l0.length c0, .slice A1 l1.length c1] w fun e w' => e = .returned (.bool r) ∧ Drawn0 w w' := by
 have HR0 := A_ hr0; have HC0 := A_ hc0; clear hr0 hc0; have HR1 := A_ hr1; have HC1 := A_ hc1; clear hr1 hc1; have H : (if (l0.length : Int) = (l1.length : Int) then (Q49.l0 k l0 l1 (l0.length : Int) 0) else (some false)) = some r := h; clear h; by_cases c3 : (l0.length : Int) = (l1.length : Int)
 ·
  rw [if_pos c3] at H; have c3b0 : ((l0.length : Int) == (l1.length : Int)) = true := beq_iff_eq.mpr c3; have c3b1 : ((l0.length : Int) != (l1.length : Int)) = false := bne_eq_false_iff_eq.mpr c3
  have c3b2 : (l0.length == l1.length) = true := by first | simpa using c3 | (simp at c3 ⊢; omega)
  clear c3; have H' := A_ H; clear H; go_enter Tryz.func31, Tryz.ntmps31
  go_wp2
  repeat (go_quiet (fail); try go_wp2)
  go_loopg [13] k (fun kq v13 w' => ∃ (x13_1 : Int), v13 = .int .i64 x13_1 ∧ Aside0 (Q49.l0 kq l0 l1 (l0.length : Int) x13_1 = some r) ∧ Aside0 (kq ≤ k) ∧ Drawn0 w w')
  case atStart => exact ⟨(0), rf, H', ⟨Nat.le_refl _⟩, by repeat (first | exact Drawn0.refl _ | apply Drawn0.step)⟩
  case round =>
   clear H'; (try clear c3); (try clear c3b0); (try clear c3b1); (try clear c3b2); obtain ⟨x13_1, rfl, HA, HK1, ⟨m1, rfl⟩⟩ := hrel
   cases gk with
   | zero => exact absurd HA.out (by simp [Q49.l0])
   | succ k1 =>
    have H := HA.out; clear HA; simp only [Q49.l0] at H
    by_cases c4 : x13_1 < (l0.length : Int)
    ·
     rw [if_pos c4] at H; have c4b0 := decide_eq_true c4; clear c4; by_cases c5 : 0 ≤ x13_1
     ·
      rw [if_pos c5] at H; have c5b0 := decide_eq_true c5; clear c5; by_cases c6 : x13_1 < (l0.length : Int)
      ·
       rw [if_pos c6] at H; have c6b0 := decide_eq_true c6; clear c6; by_cases c7 : x13_1 < (l1.length : Int)
       ·
        rw [if_pos c7] at H; have c7b0 := decide_eq_true c7; clear c7; by_cases c8 : (rd l0 x13_1) = (rd l1 x13_1)
        ·
         rw [if_pos c8] at H; have c8b0 : ((rd l0 x13_1) == (rd l1 x13_1)) = true := beq_iff_eq.mpr c8; have c8b1 : ((rd l0 x13_1) != (rd l1 x13_1)) = false := bne_eq_false_iff_eq.mpr c8; clear c8; have H' := A_ H; clear H; have p312 : 0 ≤ (x13_1 : Int) := dq; have q312 : x13_1 < (l0.length : Int) := dq; obtain ⟨ad312, e312, hx312_0⟩ := Kd.at_int HR0.out x13_1 p312 q312
         cases e312
         replace p312 := eq_true p312; replace q312 := eq_true q312; have p313 : 0 ≤ (x13_1 : Int) := dq; have q313 : x13_1 < (l1.length : Int) := dq; obtain ⟨ad313, e313, hx313_0⟩ := Kd.at_int HR1.out x13_1 p313 q313
         cases e313
         replace p313 := eq_true p313; replace q313 := eq_true q313; go_wp2
         repeat (go_quiet (fail); try go_wp2)
         go_roundg k1
         case measure => have := HK1.out; omega
         case rel => exact ⟨(wrap64 (x13_1 + 1)), rf, H', ⟨by have := HK1.out; omega⟩, by repeat (first | exact Drawn0.refl _ | apply Drawn0.step)⟩
        ·
         rw [if_neg c8] at H; have c8b0 : ((rd l0 x13_1) == (rd l1 x13_1)) = false := beq_eq_false_iff_ne.mpr c8; have c8b1 : ((rd l0 x13_1) != (rd l1 x13_1)) = true := bne_iff_ne.mpr c8; obtain rfl := Option.some.inj H; have p312 : 0 ≤ (x13_1 : Int) := dq; have q312 : x13_1 < (l0.length : Int) := dq; obtain ⟨ad312, e312, hx312_0⟩ := Kd.at_int HR0.out x13_1 p312 q312
         cases e312
         replace p312 := eq_true p312; replace q312 := eq_true q312; have p313 : 0 ≤ (x13_1 : Int) := dq; have q313 : x13_1 < (l1.length : Int) := dq; obtain ⟨ad313, e313, hx313_0⟩ := Kd.at_int HR1.out x13_1 p313 q313
         cases e313
         replace p313 := eq_true p313; replace q313 := eq_true q313; go_wp2
         repeat (go_quiet (fail); try go_wp2)
         go_ret
         exact ⟨rf, by repeat (first | exact Drawn0.refl _ | apply Drawn0.step)⟩
       ·
        rw [if_neg c7] at H; exact absurd H (by simp)
      ·
       rw [if_neg c6] at H; exact absurd H (by simp)
     ·
      rw [if_neg c5] at H; exact absurd H (by simp)
    ·
     rw [if_neg c4] at H; have c4b0 := decide_eq_false c4; clear c4; obtain rfl := Option.some.inj H; go_wp2
     repeat (go_quiet (fail); try go_wp2)
     go_ret
     exact ⟨rf, by repeat (first | exact Drawn0.refl _ | apply Drawn0.step)⟩
 ·
  rw [if_neg c3] at H; have c3b0 : ((l0.length : Int) == (l1.length : Int)) = false := beq_eq_false_iff_ne.mpr c3; have c3b1 : ((l0.length : Int) != (l1.length : Int)) = true := bne_iff_ne.mpr c3
  have c3b2 : (l0.length == l1.length) = false := by first | simpa using c3 | (simp at c3 ⊢; omega)
  obtain rfl := Option.some.inj H; go_enter Tryz.func31, Tryz.ntmps31
  go_wp2
  repeat (go_quiet (fail); try go_wp2)
  go_ret
  exact ⟨rf, by repeat (first | exact Drawn0.refl _ | apply Drawn0.step)⟩

/-! ### impl_copied: function 59 -/
def Q74.f (l0 : List Int) : Option (List Int) := (some (([] : List Int) : List Int)).bind fun y314 => (if y314.length + l0.length < 17592186044416 then (some (y314 ++ l0)) else (none))
set_option maxHeartbeats 8000000 in
set_option maxRecDepth 100000 in
theorem Q74.calls (A0 : Option Addr) (c0 : Nat) (l0 : List Int) (r : List Int) (w : World) (hr0 : Kd.C (Kd.int .i64) w A0 l0.length l0) (hc0 : l0.length ≤ c0) (h : Q74.f l0 = some r) :
    Calls Tryz.prog 59 #[.slice A0 l0.length c0] w fun e w' => ∃ v0_ : Value, e = .returned (v0_) ∧ Kd.R (Kd.int .i64) 3 w' w.heap.size (fun _ => True) v0_ r ∧ Below w.heap.size w w' := by
 have HR0 := A_ hr0; have HC0 := A_ hc0; clear hr0 hc0; have HB := A_ (Below.refl w.heap.size w); have H : ((some (([] : List Int) : List Int)).bind fun y314 => (if y314.length + l0.length < 17592186044416 then (some (y314 ++ l0)) else (none))) = some r := h; clear h
 obtain ⟨y314, hy314⟩ : ∃ y_ : List Int, y_ = (([] : List Int)) := ⟨_, rfl⟩
 replace H : (if y314.length + l0.length < 17592186044416 then (some (y314 ++ l0)) else (none)) = some r := by first | (rw [hy314]; with_reducible exact H) | (have H2_ := (Option.bind_some _ _).symm.trans H; rw [hy314]; with_reducible exact H2_) | (have H2_ := (Option.bind_some _ _).symm.trans H; with_reducible exact H2_) | with_reducible exact H | (rw [hy314]; exact H) | exact H
 have Ny314 := A_ hy314; clear hy314; by_cases c2 : y314.length + l0.length < 17592186044416
 ·
  rw [if_pos c2] at H; have LMc2 := A_ c2; clear c2
  obtain ⟨y317, hy317⟩ : ∃ y_ : List Int, y_ = (y314 ++ l0) := ⟨_, rfl⟩
  replace H : (some y317) = some r := by first | (rw [hy317]; with_reducible exact H) | (have H2_ := (Option.bind_some _ _).symm.trans H; rw [hy317]; with_reducible exact H2_) | (have H2_ := (Option.bind_some _ _).symm.trans H; with_reducible exact H2_) | with_reducible exact H | (rw [hy317]; exact H) | exact H
  have Ny317 := A_ hy317; clear hy317; obtain rfl := Option.some.inj H; go_enter Tryz.func59, Tryz.ntmps59
  go_wp2_with (first | ((with_reducible refine gate_dst (N := 3) rfl ?_); refine Kd.R_lit (Kd.int .i64) _ 3 ?hg (N := 3) ?hd (xs := ([] : List Int)) (inner := []) (ok := fun _ => True) (okp := fun _ => True) ?hr ?hp (fun _ hk => hk) trivial (Below.refl _ _) (Nat.le_refl _) (by simp) ?_; (case hd => rfl); (case hg => rfl); (case hr => first | (go_simp; done) | (go_simp; rfl)); (case hp => exact (Reps.none _ _)); intro v315 w3 ho4 hb hg_ hnew_; clear hg_ hnew_; (first | rw [← Ny314.out] at ho4 | (simp only [Int.reduceToNat] at ho4; rw [← Ny314.out] at ho4)); have HO316 := A_ (Kd.R_lower ho4 (below_size (hq HB))); replace HB := A_ (below_step (hq HB) hb); clear hb ho4) | ((with_reducible refine gate_builtin (b := .append) (xs := #[.tmp 3, .tmp 4]) rfl ?_); at_builtin; refine Kd.R_append_rows (Kd.int .i64) (w0 := w) w.heap.size rfl (.tmp 3) (.tmp 4) 26 3 (.int .i64 0) 8 rfl Tryz.underlying26 info3 rfl (by decide) (by omega) v315 y314 l0 _ _ _ (fun _ => True) (fun _ => False) rfl rfl ?aO ?aR (fun _ _ h => h) (fun _ h => h.elim) ?aF ?aB ?aS ?aL ?_; (case aR => repeat (first | exact (Kd.C_below HR0.out HB.out) | (with_reducible refine Kd.C_alloc ?_ _) | (with_reducible refine Kd.C_drewN ?_ _) | (with_reducible refine Kd.C_drew ?_))); (case aB => exact (hq HB)); (case aF => exact (fun _ _ => trivial)); (case aO => exact (rq HO316)); (case aS => exact (below_size (hq HB))); (case aL => have := LMc2.out; omega); intro v318 w5 ho hb hg hat; rw [← Ny317.out] at ho; have n0_ := A_ (hb); have n1_ := A_ (ho); clear HB; clear HO316; have HB := n0_; have HO319 := n1_; clear n0_ n1_; clear ho hb hg hat))
  go_ret
  exact ⟨_, rt, rq HO319, hq HB⟩
 ·
  rw [if_neg c2] at H; exact absurd H (by simp)

/-! ### slices_Index_int_int: function 80 -/
def Q41.l0 : Nat → List Int → Int → Int → Int → Option (Int)
  | 0, _, _, _, _ => none
  | k + 1, x0, x1, x7, x8 => if x8 < x7 then (if 0 ≤ x8 then (if x8 < (x0.length : Int) then (if x1 = (rd x0 x8) then (some x8) else (Q41.l0 k x0 x1 x7 (wrap64 (x8 + 1)))) else (none)) else (none)) else (some (-1))
def Q41.f (k : Nat) (l0 : List Int) (a1 : Int) : Option (Int) := Q41.l0 k l0 a1 (l0.length : Int) 0
set_option maxHeartbeats 8000000 in
set_option maxRecDepth 100000 in
theorem Q41.calls (k : Nat) (A0 : Option Addr) (c0 : Nat) (l0 : List Int) (a1 : Int) (r : Int) (w : World) (hr0 : Kd.C (Kd.int .i64) w A0 l0.length l0) (hc0 : l0.length ≤ c0) (h : Q41.f k l0 a1 = some r) :
    Calls Tryz.prog 80 #[.slice A0 l0.length c0, .int .i64 a1] w fun e w' => e = .returned (.int .i64 r) ∧ Drawn0 w w' := by
 have HR0 := A_ hr0; have HC0 := A_ hc0; clear hr0 hc0; have H : (Q41.l0 k l0 a1 (l0.length : Int) 0) = some r := h; clear h; have H' := A_ H; clear H; go_enter Tryz.func80, Tryz.ntmps80
 go_wp2
 go_loopg [8] k (fun kq v8 w' => ∃ (x8_1 : Int), v8 = .int .i64 x8_1 ∧ Aside0 (Q41.l0 kq l0 a1 (l0.length : Int) x8_1 = some r) ∧ Aside0 (kq ≤ k) ∧ Drawn0 w w')
 case atStart => exact ⟨(0), rf, H', ⟨Nat.le_refl _⟩, by repeat (first | exact Drawn0.refl _ | apply Drawn0.step)⟩
 case round =>
  clear H'; obtain ⟨x8_1, rfl, HA, HK1, ⟨m1, rfl⟩⟩ := hrel
  cases gk with
  | zero => exact absurd HA.out (by simp [Q41.l0])
  | succ k1 =>
   have H := HA.out; clear HA; simp only [Q41.l0] at H
   by_cases c3 : x8_1 < (l0.length : Int)
   ·
    rw [if_pos c3] at H; have c3b0 := decide_eq_true c3; clear c3; by_cases c4 : 0 ≤ x8_1
    ·
     rw [if_pos c4] at H; have c4b0 := decide_eq_true c4; clear c4; by_cases c5 : x8_1 < (l0.length : Int)
     ·
      rw [if_pos c5] at H; have c5b0 := decide_eq_true c5; clear c5; by_cases c6 : a1 = (rd l0 x8_1)
      ·
       rw [if_pos c6] at H; have c6b0 : (a1 == (rd l0 x8_1)) = true := beq_iff_eq.mpr c6; have c6b1 : (a1 != (rd l0 x8_1)) = false := bne_eq_false_iff_eq.mpr c6; clear c6; obtain rfl := Option.some.inj H; have p320 : 0 ≤ (x8_1 : Int) := dq; have q320 : x8_1 < (l0.length : Int) := dq; obtain ⟨ad320, e320, hx320_0⟩ := Kd.at_int HR0.out x8_1 p320 q320
       cases e320
       replace p320 := eq_true p320; replace q320 := eq_true q320; go_wp2
       go_ret
       exact ⟨rf, by repeat (first | exact Drawn0.refl _ | apply Drawn0.step)⟩
      ·
       rw [if_neg c6] at H; have c6b0 : (a1 == (rd l0 x8_1)) = false := beq_eq_false_iff_ne.mpr c6; have c6b1 : (a1 != (rd l0 x8_1)) = true := bne_iff_ne.mpr c6; have H' := A_ H; clear H; have p320 : 0 ≤ (x8_1 : Int) := dq; have q320 : x8_1 < (l0.length : Int) := dq; obtain ⟨ad320, e320, hx320_0⟩ := Kd.at_int HR0.out x8_1 p320 q320
       cases e320
       replace p320 := eq_true p320; replace q320 := eq_true q320; go_wp2
       go_roundg k1
       case measure => have := HK1.out; omega
       case rel => exact ⟨(wrap64 (x8_1 + 1)), rf, H', ⟨by have := HK1.out; omega⟩, by repeat (first | exact Drawn0.refl _ | apply Drawn0.step)⟩
     ·
      rw [if_neg c5] at H; exact absurd H (by simp)
    ·
     rw [if_neg c4] at H; exact absurd H (by simp)
   ·
    rw [if_neg c3] at H; have c3b0 := decide_eq_false c3; clear c3; obtain rfl := Option.some.inj H; go_wp2
    go_ret
    exact ⟨rf, by repeat (first | exact Drawn0.refl _ | apply Drawn0.step)⟩

/-! ### slices_Contains_int_int: function 60 -/
def Q62.f (k : Nat) (l0 : List Int) (a1 : Int) : Option (Bool) := (Q41.f k l0 a1).bind fun t321 => (some (decide (t321 ≥ 0)))
set_option maxHeartbeats 8000000 in
set_option maxRecDepth 100000 in
theorem Q62.calls (k : Nat) (A0 : Option Addr) (c0 : Nat) (l0 : List Int) (a1 : Int) (r : Bool) (w : World) (hr0 : Kd.C (Kd.int .i64) w A0 l0.length l0) (hc0 : l0.length ≤ c0) (h : Q62.f k l0 a1 = some r) :
    Calls Tryz.prog 60 #[.slice A0 l0.length c0, .int .i64 a1] w fun e w' => e = .returned (.bool r) ∧ Drawn0 w w' := by
 have HR0 := A_ hr0; have HC0 := A_ hc0; clear hr0 hc0; have H : ((Q41.f k l0 a1).bind fun t321 => (some (decide (t321 ≥ 0)))) = some r := h; clear h; replace H := bm H; obtain ⟨t321, A3, H⟩ := H; obtain rfl := Option.some.inj H; go_enter Tryz.func60, Tryz.ntmps60
 go_wp2_with (first | ((with_reducible refine gate_callee (f := 80) rfl ?_); refine gL (some 7) Tryz.func80 #[.slice A0 l0.length c0, .int .i64 a1] ?_; (with_reducible refine (Q41.calls k _ _ l0 a1 t321 _ ?side1 ?side2 A3.out).mono ?_); (case side1 => exact cq HR0.out); (case side2 => exact HC0.out); rintro e w' ⟨rfl, ⟨nd, rfl⟩⟩; refine ⟨_, rfl, ?_⟩))
 go_ret
 exact ⟨rf, by repeat (first | exact Drawn0.refl _ | apply Drawn0.step)⟩

end Go.Proofs.YtjhppcpjobofbabGreat.PFnRuns
