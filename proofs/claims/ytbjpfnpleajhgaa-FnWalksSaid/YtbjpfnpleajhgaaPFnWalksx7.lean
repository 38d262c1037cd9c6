-- Told shorter still by shrink2.py.
-- Printed, and told shorter by this session's program shrink.py.
-- Printed by this session's program myprint.py.
import Derived.Test.YtbjpfnpleajhgaaPFnWalksx0
import Derived.Test.YtbjpfnpleajhgaaPFnWalksx1
import Derived.Test.YtbjpfnpleajhgaaPFnWalksx3
import Derived.Test.YtbjpfnpleajhgaaPFnWalksx4
import Derived.Test.YtbjpfnpleajhgaaPFnWalksx6
namespace Go.Proofs.Ytbjpfnpleajhgaa.PFnWalks
open Go.RowKit Go.Proofs.Ytbjpfnpleajhgaa.Own Go.Proofs.YtbjpfnpleajhgaaW.PrintWords Go.Proofs.YtbjpfnpleajhgaaW.PrintLast Go.Proofs.YtbjpfnpleajhgaaW.PrintMore
attribute [local go_sem] max2_int min2_int max_two min_two max_three min_three max_four min_four   -- for this text's walks alone
set_option linter.unusedVariables false
set_option linter.unusedSimpArgs false

/-! ### spec_l2First: function 32 -/
def Q34.l0 : Nat → List Int → Int → Int → Option (Int)
  | 0, _, _, _ => none
  | k + 1, x0, x1, x5 => if x5 < (x0.length : Int) then (if 0 ≤ x5 then (if (rd x0 x5) = x1 then (some x5) else (Q34.l0 k x0 x1 (wrap64 (x5 + 1)))) else (none)) else (some (-1))
def Q34.f (k : Nat) (l0 : List Int) (a1 : Int) : Option (Int) := Q34.l0 k l0 a1 0
set_option maxHeartbeats 8000000 in
set_option maxRecDepth 100000 in
theorem Q34.calls (k : Nat) (A0 : Option Addr) (c0 : Nat) (l0 : List Int) (a1 : Int) (r : Int) (w : World) (hr0 : Kd.C (Kd.int .i64) w A0 l0.length l0) (hc0 : l0.length ≤ c0) (h : Q34.f k l0 a1 = some r) :
    Calls Try.prog 32 #[.slice A0 l0.length c0, .int .i64 a1] w fun e w' => e = .returned (.int .i64 r) ∧ Drawn0 w w' := by
 have HR0 := A_ hr0; have HC0 := A_ hc0; clear hr0 hc0; have H : (Q34.l0 k l0 a1 0) = some r := h; clear h; have H' := A_ H; clear H; go_enter Try.func32, Try.ntmps32
 go_wp2
 go_loopg [5] k (fun kq v5 w' => ∃ (x5_1 : Int), v5 = .int .i64 x5_1 ∧ Aside0 (Q34.l0 kq l0 a1 x5_1 = some r) ∧ Aside0 (kq ≤ k) ∧ Drawn0 w w')
 case atStart => exact ⟨(0), rf, H', ⟨Nat.le_refl _⟩, by repeat (first | exact Drawn0.refl _ | apply Drawn0.step)⟩
 case round =>
  clear H'; obtain ⟨x5_1, rfl, HA, HK1, ⟨m1, rfl⟩⟩ := hrel
  cases gk with
  | zero => exact absurd HA.out (by simp [Q34.l0])
  | succ k1 =>
   have H := HA.out; clear HA; simp only [Q34.l0] at H
   by_cases c3 : x5_1 < (l0.length : Int)
   ·
    rw [if_pos c3] at H; have c3b0 := decide_eq_true c3; clear c3; by_cases c4 : 0 ≤ x5_1
    ·
     rw [if_pos c4] at H; have c4b0 := decide_eq_true c4; clear c4; by_cases c5 : (rd l0 x5_1) = a1
     ·
      rw [if_pos c5] at H; have c5b0 : ((rd l0 x5_1) == a1) = true := beq_iff_eq.mpr c5; have c5b1 : ((rd l0 x5_1) != a1) = false := bne_eq_false_iff_eq.mpr c5; clear c5; obtain rfl := Option.some.inj H; have p294 : 0 ≤ (x5_1 : Int) := dq; have q294 : x5_1 < (l0.length : Int) := dq; obtain ⟨ad294, e294, hx294_0⟩ := Kd.at_int HR0.out x5_1 p294 q294
      cases e294
      replace p294 := eq_true p294; replace q294 := eq_true q294; go_wp2
      go_ret
      exact ⟨rf, by repeat (first | exact Drawn0.refl _ | apply Drawn0.step)⟩
     ·
      rw [if_neg c5] at H; have c5b0 : ((rd l0 x5_1) == a1) = false := beq_eq_false_iff_ne.mpr c5; have c5b1 : ((rd l0 x5_1) != a1) = true := bne_iff_ne.mpr c5; have H' := A_ H; clear H; have p294 : 0 ≤ (x5_1 : Int) := dq; have q294 : x5_1 < (l0.length : Int) := dq; obtain ⟨ad294, e294, hx294_0⟩ := Kd.at_int HR0.out x5_1 p294 q294
      cases e294
      replace p294 := eq_true p294; replace q294 := eq_true q294; go_wp2
      go_roundg k1
      case measure => have := HK1.out; omega
      case rel => exact ⟨(wrap64 (x5_1 + 1)), rf, H', ⟨by have := HK1.out; omega⟩, by repeat (first | exact Drawn0.refl _ | apply Drawn0.step)⟩
    ·
     rw [if_neg c4] at H; exact absurd H (by simp)
   ·
    rw [if_neg c3] at H; have c3b0 := decide_eq_false c3; clear c3; obtain rfl := Option.some.inj H; go_wp2
    go_ret
    exact ⟨rf, by repeat (first | exact Drawn0.refl _ | apply Drawn0.step)⟩

/-! ### spec_FirstVisits: function 7 -/
def Q22.l0 : Nat → List Int → List Int → Int → Int → Bool → Option (List Int × Bool)
  | 0, _, _, _, _, _ => none
  | k + 1, x1, x6, x7, x296000, x296001 => if x7 < x296000 then ((Q34.f k x1 x7).bind fun t300 => (if x6.length < 17592186044416 then (Q22.l0 k x1 (x6 ++ [t300]) (wrap64 (x7 + 1)) x296000 x296001) else (none))) else (some (x6, true))
def Q22.f (k : Nat) (a0_0 : Int) (a0_1 : Bool) (l1 : List Int) : Option (List Int × Bool) := (some (([] : List Int) : List Int)).bind fun y296 => ((Q1.f k a0_0 a0_1 l1).bind fun t299 => (if t299 = true then (Q22.l0 k l1 y296 0 a0_0 a0_1) else (some (y296, false))))
set_option maxHeartbeats 8000000 in
set_option maxRecDepth 100000 in
theorem Q22.calls (k : Nat) (a0_0 : Int) (a0_1 : Bool) (A1 : Option Addr) (c1 : Nat) (l1 : List Int) (r1 : List Int) (r2 : Bool) (w : World) (hr1 : Kd.C (Kd.int .i64) w A1 l1.length l1) (hc1 : l1.length ≤ c1) (h : Q22.f k a0_0 a0_1 l1 = some (r1, r2)) :
    Calls Try.prog 7 #[.agg #[.int .i64 a0_0, .bool a0_1], .slice A1 l1.length c1] w fun e w' => ∃ v0_ : Value, e = .returned (.tuple #[v0_, .bool r2]) ∧ Kd.R (Kd.int .i64) 3 w' w.heap.size (fun _ => True) v0_ r1 ∧ Below w.heap.size w w' := by
 have hu25 := Try.underlying25; have HR1 := A_ hr1; have HC1 := A_ hc1; clear hr1 hc1; have HB := A_ (Below.refl w.heap.size w); have H : ((some (([] : List Int) : List Int)).bind fun y296 => ((Q1.f k a0_0 a0_1 l1).bind fun t299 => (if t299 = true then (Q22.l0 k l1 y296 0 a0_0 a0_1) else (some (y296, false))))) = some (r1, r2) := h; clear h
 obtain ⟨y296, hy296⟩ : ∃ y_ : List Int, y_ = (([] : List Int)) := ⟨_, rfl⟩
 replace H : ((Q1.f k a0_0 a0_1 l1).bind fun t299 => (if t299 = true then (Q22.l0 k l1 y296 0 a0_0 a0_1) else (some (y296, false)))) = some (r1, r2) := by first | (rw [hy296]; with_reducible exact H) | (have H2_ := (Option.bind_some _ _).symm.trans H; rw [hy296]; with_reducible exact H2_) | (have H2_ := (Option.bind_some _ _).symm.trans H; with_reducible exact H2_) | with_reducible exact H | (rw [hy296]; exact H) | exact H
 have Ny296 := A_ hy296; clear hy296; replace H := bm H; obtain ⟨t299, A3, H⟩ := H; by_cases c4 : t299 = true
 ·
  subst c4
  have H1 : (Q22.l0 k l1 y296 0 a0_0 a0_1) = some (r1, r2) := by rw [if_pos rfl] at H; exact H
  clear H; have H := H1; clear H1; have H' := A_ H; clear H; go_enter Try.func7, Try.ntmps7
  go_wp2_with (first | ((with_reducible refine gate_dst (N := 2) rfl ?_); refine bx (N := 2) #[.int .i64 a0_0, .bool a0_1] 25 ?_; intro gb295 hg w5 hbox hb; have BK295 := A_ (hbox); have GW295 := A_ (bs hg (hq HB) : w.heap.size ≤ gb295); have GE295 := A_ (bs hg (hq HB) : w.heap.size ≤ gb295); replace HB := A_ (below_step (hq HB) hb); clear hb hbox hg) | ((with_reducible refine gate_dst (N := 8) rfl ?_); refine Kd.R_lit (Kd.int .i64) _ 3 ?hg (N := 8) ?hd (xs := ([] : List Int)) (inner := []) (ok := fun _ => True) (okp := fun _ => True) ?hr ?hp (fun _ hk => hk) trivial (Below.refl _ _) (Nat.le_refl _) (by simp) ?_; (case hd => rfl); (case hg => rfl); (case hr => first | (go_simp; done) | (go_simp; rfl)); (case hp => exact (Reps.none _ _)); intro v297 w6 ho7 hb hg_ hnew_; clear hg_ hnew_; (first | rw [← Ny296.out] at ho7 | (simp only [Int.reduceToNat] at ho7; rw [← Ny296.out] at ho7)); have HO298 := A_ (Kd.R_lower ho7 (below_size (hq HB))); replace BK295 := A_ (blk_below (bq BK295) hb); replace HB := A_ (below_step (hq HB) hb); clear hb ho7; have hcz8_0 : w6.cell? ⟨gb295, 0, none⟩ = some (.int .i64 a0_0) := bc BK295 0; have hcz8_1 : w6.cell? ⟨gb295, 1, none⟩ = some (.bool a0_1) := bc BK295 1; have hfz8_0 := blk_frozen BK295.out 0; have hfz8_1 := blk_frozen BK295.out 1) | ((with_reducible refine gate_callee (f := 31) rfl ?_); refine gL (some 11) Try.func31 #[.agg #[.int .i64 a0_0, .bool a0_1], .slice A1 l1.length c1] ?_; (with_reducible refine (Q1.calls k a0_0 a0_1 _ _ l1 true _ ?side1 ?side2 A3.out).mono ?_); (case side1 => exact cq (Kd.C_below HR1.out HB.out)); (case side2 => exact HC1.out); rintro e w9 ⟨rfl, hb⟩; refine ⟨_, rfl, ?_⟩; replace HO298 := A_ (Kd.R_below (rq HO298) hb); replace BK295 := A_ (blk_below (bq BK295) hb); replace HB := A_ (below_step (hq HB) hb); clear hb))
  go_loopg [6, 7] k (fun kq v6 v7 w' => ∃ (x6_1 : List Int) (x7_1 : Int), v7 = .int .i64 x7_1 ∧ Aside0 (Q22.l0 kq l1 x6_1 x7_1 a0_0 a0_1 = some (r1, r2)) ∧ Aside0 (kq ≤ k) ∧ Aside0 (Kd.R (Kd.int .i64) 3 w' w.heap.size (fun _ => True) v6 x6_1) ∧ Aside0 (w'.heap[gb295]? = some (.cells #[.int .i64 a0_0, .bool a0_1] 25 (0, 0))) ∧ Aside0 (Below w.heap.size w w'))
  case atStart => exact ⟨(y296), (0), rf, H', ⟨Nat.le_refl _⟩, ⟨rq HO298⟩, ⟨bq BK295⟩, ⟨hq HB⟩⟩
  case round =>
   clear H'; (try clear c4); (try clear hcz8_0); (try clear hcz8_1); (try clear hfz8_0); (try clear hfz8_1); obtain ⟨x6_1, x7_1, rfl, HA, HK1, HO_6, BK295, HB⟩ := hrel
   cases gk with
   | zero => exact absurd HA.out (by simp [Q22.l0])
   | succ k1 =>
    have H := HA.out; clear HA; simp only [Q22.l0] at H
    by_cases c10 : x7_1 < a0_0
    ·
     rw [if_pos c10] at H; have c10b0 := decide_eq_true c10; clear c10; replace H := bm H; obtain ⟨t300, A11, H⟩ := H; by_cases c12 : x6_1.length < 17592186044416
     ·
      rw [if_pos c12] at H; have LMc12 := A_ c12; clear c12
      obtain ⟨y301, hy301⟩ : ∃ y_ : List Int, y_ = (x6_1 ++ [t300]) := ⟨_, rfl⟩
      replace H : (Q22.l0 k1 l1 y301 (wrap64 (x7_1 + 1)) a0_0 a0_1) = some (r1, r2) := by first | (rw [hy301]; with_reducible exact H) | (have H2_ := (Option.bind_some _ _).symm.trans H; rw [hy301]; with_reducible exact H2_) | (have H2_ := (Option.bind_some _ _).symm.trans H; with_reducible exact H2_) | with_reducible exact H | (rw [hy301]; exact H) | exact H
      have Ny301 := A_ hy301; clear hy301; have H' := A_ H; clear H; have hcz13_0 : wr.cell? ⟨gb295, 0, none⟩ = some (.int .i64 a0_0) := bc BK295 0; have hcz13_1 : wr.cell? ⟨gb295, 1, none⟩ = some (.bool a0_1) := bc BK295 1; have hfz13_0 := blk_frozen BK295.out 0; have hfz13_1 := blk_frozen BK295.out 1; go_wp2_with (first | ((with_reducible refine gate_callee (f := 32) rfl ?_); refine gL (some 23) Try.func32 #[.slice A1 l1.length c1, .int .i64 x7_1] ?_; (with_reducible refine (Q34.calls k1 _ _ l1 x7_1 t300 _ ?side1 ?side2 A11.out).mono ?_); (case side1 => exact cq (Kd.C_below HR1.out HB.out)); (case side2 => exact HC1.out); rintro e w' ⟨rfl, ⟨nd, rfl⟩⟩; refine ⟨_, rfl, ?_⟩) | ((with_reducible refine gate_builtin (b := .append) (xs := #[.tmp 20, .tmp 24]) rfl ?_); at_builtin; refine Kd.R_append (Kd.int .i64) (w0 := w) w.heap.size rfl (.tmp 20) (.tmp 24) 26 3 (.int .i64 0) 8 rfl Try.underlying26 info3 rfl (by decide) (by omega) u6 x6_1 t300 [.int .i64 t300] (fun _ => True) (fun _ => False) rfl rfl ?aP (fun _ hk => hk.elim) ?aF ?aO ?aB ?aS ?aL ?_; (case aP => exact rfl); (case aB => exact (hq HB)); (case aF => exact (fun _ _ => trivial)); (case aO => exact (rq HO_6)); (case aS => exact (below_size (hq HB))); (case aL => have := LMc12.out; omega); intro v302 w14 ho hb hg hat; rw [← Ny301.out] at ho; have n0_ := A_ (blk_grown (g := gb295) (o := .cells #[.int .i64 a0_0, .bool a0_1] 25 (0, 0)) (bq BK295) hg (Kd.R_ne HO_6.out BK295.out (by decide))); have n1_ := A_ (hb); have n2_ := A_ (ho); clear BK295; clear HB; clear HO_6; have BK295 := n0_; have HB := n1_; have HO303 := n2_; clear n0_ n1_ n2_; clear ho hb hg hat))
      go_roundg k1
      case measure => have := HK1.out; omega
      case rel => exact ⟨(y301), (wrap64 (x7_1 + 1)), rf, H', ⟨by have := HK1.out; omega⟩, ⟨rq HO303⟩, ⟨bq BK295⟩, ⟨hq HB⟩⟩
     ·
      rw [if_neg c12] at H; exact absurd H (by simp)
    ·
     rw [if_neg c10] at H; have c10b0 := decide_eq_false c10; clear c10; simp only [Option.some.injEq, Prod.mk.injEq] at H
     obtain ⟨rfl, rfl⟩ := H; have hcz15_0 : wr.cell? ⟨gb295, 0, none⟩ = some (.int .i64 a0_0) := bc BK295 0; have hcz15_1 : wr.cell? ⟨gb295, 1, none⟩ = some (.bool a0_1) := bc BK295 1; have hfz15_0 := blk_frozen BK295.out 0; have hfz15_1 := blk_frozen BK295.out 1; go_wp2
     go_ret2
     exact ⟨_, rt, rq HO_6, hq HB⟩
 ·
  replace c4 := Bool.eq_false_iff.mpr c4; subst c4
  have H1 : (some (y296, false)) = some (r1, r2) := by rw [if_neg (show ¬ (false = true) by decide)] at H; exact H
  clear H; have H := H1; clear H1; simp only [Option.some.injEq, Prod.mk.injEq] at H
  obtain ⟨rfl, rfl⟩ := H; go_enter Try.func7, Try.ntmps7
  go_wp2_with (first | ((with_reducible refine gate_dst (N := 2) rfl ?_); refine bx (N := 2) #[.int .i64 a0_0, .bool a0_1] 25 ?_; intro gb295 hg w16 hbox hb; have BK295 := A_ (hbox); have GW295 := A_ (bs hg (hq HB) : w.heap.size ≤ gb295); have GE295 := A_ (bs hg (hq HB) : w.heap.size ≤ gb295); replace HB := A_ (below_step (hq HB) hb); clear hb hbox hg) | ((with_reducible refine gate_dst (N := 8) rfl ?_); refine Kd.R_lit (Kd.int .i64) _ 3 ?hg (N := 8) ?hd (xs := ([] : List Int)) (inner := []) (ok := fun _ => True) (okp := fun _ => True) ?hr ?hp (fun _ hk => hk) trivial (Below.refl _ _) (Nat.le_refl _) (by simp) ?_; (case hd => rfl); (case hg => rfl); (case hr => first | (go_simp; done) | (go_simp; rfl)); (case hp => exact (Reps.none _ _)); intro v297 w17 ho18 hb hg_ hnew_; clear hg_ hnew_; (first | rw [← Ny296.out] at ho18 | (simp only [Int.reduceToNat] at ho18; rw [← Ny296.out] at ho18)); have HO298 := A_ (Kd.R_lower ho18 (below_size (hq HB))); replace BK295 := A_ (blk_below (bq BK295) hb); replace HB := A_ (below_step (hq HB) hb); clear hb ho18; have hcz19_0 : w17.cell? ⟨gb295, 0, none⟩ = some (.int .i64 a0_0) := bc BK295 0; have hcz19_1 : w17.cell? ⟨gb295, 1, none⟩ = some (.bool a0_1) := bc BK295 1; have hfz19_0 := blk_frozen BK295.out 0; have hfz19_1 := blk_frozen BK295.out 1) | ((with_reducible refine gate_callee (f := 31) rfl ?_); refine gL (some 11) Try.func31 #[.agg #[.int .i64 a0_0, .bool a0_1], .slice A1 l1.length c1] ?_; (with_reducible refine (Q1.calls k a0_0 a0_1 _ _ l1 false _ ?side1 ?side2 A3.out).mono ?_); (case side1 => exact cq (Kd.C_below HR1.out HB.out)); (case side2 => exact HC1.out); rintro e w20 ⟨rfl, hb⟩; refine ⟨_, rfl, ?_⟩; replace HO298 := A_ (Kd.R_below (rq HO298) hb); replace BK295 := A_ (blk_below (bq BK295) hb); replace HB := A_ (below_step (hq HB) hb); clear hb))
  go_ret2
  exact ⟨_, rt, rq HO298, hq HB⟩

/-! ### laws_rInts: function 8 -/
def Q6.l0 : Nat → List Int → List Int → Int → Option (Bool)
  | 0, _, _, _ => none
  | k + 1, x0, x1, x5 => if x5 < (x0.length : Int) then (if 0 ≤ x5 then (if x5 < (x1.length : Int) then (if (rd x0 x5) = (rd x1 x5) then (Q6.l0 k x0 x1 (wrap64 (x5 + 1))) else (some false)) else (none)) else (none)) else (some true)
def Q6.f (k : Nat) (l0 : List Int) (l1 : List Int) : Option (Bool) := if (l0.length : Int) = (l1.length : Int) then (Q6.l0 k l0 l1 0) else (some false)
set_option maxHeartbeats 8000000 in
set_option maxRecDepth 100000 in
theorem Q6.calls (k : Nat) (A0 : Option Addr) (c0 : Nat) (l0 : List Int) (A1 : Option Addr) (c1 : Nat) (l1 : List Int) (r : Bool) (w : World) (hr0 : Kd.C (Kd.int .i64) w A0 l0.length l0) (hc0 : l0.length ≤ c0) (hr1 : Kd.C (Kd.int .i64) w A1 l1.length l1) (hc1 : l1.length ≤ c1) (h : Q6.f k l0 l1 = some r) :
    Calls Try.prog 8 #[.slice A0 l0.length c0, .slice A1 l1.length c1] w fun e w' => e = .returned (.bool r) ∧ Drawn0 w w' := by
 have HR0 := A_ hr0; have HC0 := A_ hc0; clear hr0 hc0; have HR1 := A_ hr1; have HC1 := A_ hc1; clear hr1 hc1; have H : (if (l0.length : Int) = (l1.length : Int) then (Q6.l0 k l0 l1 0) else (some false)) = some r := h; clear h; by_cases c3 : (l0.length : Int) = (l1.length : Int)
 ·
  rw [if_pos c3] at H; have c3b0 : ((l0.length : Int) == (l1.length : Int)) = true := beq_iff_eq.mpr c3; have c3b1 : ((l0.length : Int) != (l1.length : Int)) = false := bne_eq_false_iff_eq.mpr c3
  have c3b2 : (l0.length == l1.length) = true := by first | simpa using c3 | (simp at c3 ⊢; omega)
  clear c3; have H' := A_ H; clear H; go_enter Try.func8, Try.ntmps8
  go_wp2
  repeat (go_quiet (fail); try go_wp2)
  go_loopg [5] k (fun kq v5 w' => ∃ (x5_1 : Int), v5 = .int .i64 x5_1 ∧ Aside0 (Q6.l0 kq l0 l1 x5_1 = some r) ∧ Aside0 (kq ≤ k) ∧ Drawn0 w w')
  case atStart => exact ⟨(0), rf, H', ⟨Nat.le_refl _⟩, by repeat (first | exact Drawn0.refl _ | apply Drawn0.step)⟩
  case round =>
   clear H'; (try clear c3); (try clear c3b0); (try clear c3b1); (try clear c3b2); obtain ⟨x5_1, rfl, HA, HK1, ⟨m1, rfl⟩⟩ := hrel
   cases gk with
   | zero => exact absurd HA.out (by simp [Q6.l0])
   | succ k1 =>
    have H := HA.out; clear HA; simp only [Q6.l0] at H
    by_cases c4 : x5_1 < (l0.length : Int)
    ·
     rw [if_pos c4] at H; have c4b0 := decide_eq_true c4; clear c4; by_cases c5 : 0 ≤ x5_1
     ·
      rw [if_pos c5] at H; have c5b0 := decide_eq_true c5; clear c5; by_cases c6 : x5_1 < (l1.length : Int)
      ·
       rw [if_pos c6] at H; have c6b0 := decide_eq_true c6; clear c6; by_cases c7 : (rd l0 x5_1) = (rd l1 x5_1)
       ·
        rw [if_pos c7] at H; have c7b0 : ((rd l0 x5_1) == (rd l1 x5_1)) = true := beq_iff_eq.mpr c7; have c7b1 : ((rd l0 x5_1) != (rd l1 x5_1)) = false := bne_eq_false_iff_eq.mpr c7; clear c7; have H' := A_ H; clear H; have p304 : 0 ≤ (x5_1 : Int) := dq; have q304 : x5_1 < (l0.length : Int) := dq; obtain ⟨ad304, e304, hx304_0⟩ := Kd.at_int HR0.out x5_1 p304 q304
        cases e304
        replace p304 := eq_true p304; replace q304 := eq_true q304; have p305 : 0 ≤ (x5_1 : Int) := dq; have q305 : x5_1 < (l1.length : Int) := dq; obtain ⟨ad305, e305, hx305_0⟩ := Kd.at_int HR1.out x5_1 p305 q305
        cases e305
        replace p305 := eq_true p305; replace q305 := eq_true q305; go_wp2
        repeat (go_quiet (fail); try go_wp2)
        go_roundg k1
        case measure => have := HK1.out; omega
        case rel => exact ⟨(wrap64 (x5_1 + 1)), rf, H', ⟨by have := HK1.out; omega⟩, by repeat (first | exact Drawn0.refl _ | apply Drawn0.step)⟩
       ·
        rw [if_neg c7] at H; have c7b0 : ((rd l0 x5_1) == (rd l1 x5_1)) = false := beq_eq_false_iff_ne.mpr c7; have c7b1 : ((rd l0 x5_1) != (rd l1 x5_1)) = true := bne_iff_ne.mpr c7; obtain rfl := Option.some.inj H; have p304 : 0 ≤ (x5_1 : Int) := dq; have q304 : x5_1 < (l0.length : Int) := dq; obtain ⟨ad304, e304, hx304_0⟩ := Kd.at_int HR0.out x5_1 p304 q304
        cases e304
        replace p304 := eq_true p304; replace q304 := eq_true q304; have p305 : 0 ≤ (x5_1 : Int) := dq; have q305 : x5_1 < (l1.length : Int) := dq; obtain ⟨ad305, e305, hx305_0⟩ := Kd.at_int HR1.out x5_1 p305 q305
        cases e305
        replace p305 := eq_true p305; replace q305 := eq_true q305; go_wp2
        repeat (go_quiet (fail); try go_wp2)
        go_ret
        exact ⟨rf, by repeat (first | exact Drawn0.refl _ | apply Drawn0.step)⟩
      ·
       rw [if_neg c6] at H; exact absurd H (by simp)
     ·
      rw [if_neg c5] at H; exact absurd H (by simp)
    ·
     rw [if_neg c4] at H; have c4b0 := decide_eq_false c4; clear c4; obtain rfl := Option.some.inj H; go_wp2
     repeat (go_quiet (fail); try go_wp2)
     go_ret
     exact ⟨rf, by repeat (first | exact Drawn0.refl _ | apply Drawn0.step)⟩
 ·
  rw [if_neg c3] at H; have c3b0 : ((l0.length : Int) == (l1.length : Int)) = false := beq_eq_false_iff_ne.mpr c3; have c3b1 : ((l0.length : Int) != (l1.length : Int)) = true := bne_iff_ne.mpr c3
  have c3b2 : (l0.length == l1.length) = false := by first | simpa using c3 | (simp at c3 ⊢; omega)
  obtain rfl := Option.some.inj H; go_enter Try.func8, Try.ntmps8
  go_wp2
  repeat (go_quiet (fail); try go_wp2)
  go_ret
  exact ⟨rf, by repeat (first | exact Drawn0.refl _ | apply Drawn0.step)⟩

/-! ### impl_IsWalk: function 9 -/
def Q36.f (k : Nat) (a0_0 : Int) (a0_1 : Bool) (l1 : List Int) : Option (Bool × Bool) := (Q50.f a0_0 a0_1).bind fun t307 => (if t307 = true then ((Q7.f k a0_0 a0_1 l1).bind fun t308 => (some (t308, true))) else (some (false, false)))
set_option maxHeartbeats 8000000 in
set_option maxRecDepth 100000 in
theorem Q36.calls (k : Nat) (a0_0 : Int) (a0_1 : Bool) (A1 : Option Addr) (c1 : Nat) (l1 : List Int) (r1 : Bool) (r2 : Bool) (w : World) (hr1 : Kd.C (Kd.int .i64) w A1 l1.length l1) (hc1 : l1.length ≤ c1) (h : Q36.f k a0_0 a0_1 l1 = some (r1, r2)) :
    Calls Try.prog 9 #[.agg #[.int .i64 a0_0, .bool a0_1], .slice A1 l1.length c1] w fun e w' => e = .returned (.tuple #[.bool r1, .bool r2]) ∧ Below w.heap.size w w' := by
 have hu25 := Try.underlying25; have HR1 := A_ hr1; have HC1 := A_ hc1; clear hr1 hc1; have HB := A_ (Below.refl w.heap.size w); have H : ((Q50.f a0_0 a0_1).bind fun t307 => (if t307 = true then ((Q7.f k a0_0 a0_1 l1).bind fun t308 => (some (t308, true))) else (some (false, false)))) = some (r1, r2) := h; clear h; replace H := bm H; obtain ⟨t307, A3, H⟩ := H; by_cases c4 : t307 = true
 ·
  subst c4
  have H1 : ((Q7.f k a0_0 a0_1 l1).bind fun t308 => (some (t308, true))) = some (r1, r2) := by rw [if_pos rfl] at H; exact H
  clear H; have H := H1; clear H1; replace H := bm H; obtain ⟨t308, A5, H⟩ := H; simp only [Option.some.injEq, Prod.mk.injEq] at H
  obtain ⟨rfl, rfl⟩ := H; go_enter Try.func9, Try.ntmps9
  go_wp2_with (first | ((with_reducible refine gate_dst (N := 2) rfl ?_); refine bx (N := 2) #[.int .i64 a0_0, .bool a0_1] 25 ?_; intro gb306 hg w6 hbox hb; have BK306 := A_ (hbox); have GW306 := A_ (bs hg (hq HB) : w.heap.size ≤ gb306); have GE306 := A_ (bs hg (hq HB) : w.heap.size ≤ gb306); replace HB := A_ (below_step (hq HB) hb); clear hb hbox hg; have hcz7_0 : w6.cell? ⟨gb306, 0, none⟩ = some (.int .i64 a0_0) := bc BK306 0; have hcz7_1 : w6.cell? ⟨gb306, 1, none⟩ = some (.bool a0_1) := bc BK306 1; have hfz7_0 := blk_frozen BK306.out 0; have hfz7_1 := blk_frozen BK306.out 1) | ((with_reducible refine gate_callee (f := 33) rfl ?_); refine gL (some 7) Try.func33 #[.agg #[.int .i64 a0_0, .bool a0_1]] ?_; (with_reducible refine (Q50.calls a0_0 a0_1 true _ A3.out).mono ?_); rintro e w8 ⟨rfl, hb⟩; refine ⟨_, rfl, ?_⟩; replace BK306 := A_ (blk_below (bq BK306) hb); replace HB := A_ (below_step (hq HB) hb); clear hb; have hcz9_0 : w8.cell? ⟨gb306, 0, none⟩ = some (.int .i64 a0_0) := bc BK306 0; have hcz9_1 : w8.cell? ⟨gb306, 1, none⟩ = some (.bool a0_1) := bc BK306 1; have hfz9_0 := blk_frozen BK306.out 0; have hfz9_1 := blk_frozen BK306.out 1) | ((with_reducible refine gate_callee (f := 34) rfl ?_); refine gL (some 11) Try.func34 #[.agg #[.int .i64 a0_0, .bool a0_1], .slice A1 l1.length c1] ?_; (with_reducible refine (Q7.calls k a0_0 a0_1 _ _ l1 t308 _ ?side1 ?side2 A5.out).mono ?_); (case side1 => exact cq (Kd.C_below HR1.out HB.out)); (case side2 => exact HC1.out); rintro e w10 ⟨rfl, hb⟩; refine ⟨_, rfl, ?_⟩; replace BK306 := A_ (blk_below (bq BK306) hb); replace HB := A_ (below_step (hq HB) hb); clear hb))
  go_ret2
  exact ⟨rt, hq HB⟩
 ·
  replace c4 := Bool.eq_false_iff.mpr c4; subst c4
  have H1 : (some (false, false)) = some (r1, r2) := by rw [if_neg (show ¬ (false = true) by decide)] at H; exact H
  clear H; have H := H1; clear H1; simp only [Option.some.injEq, Prod.mk.injEq] at H
  obtain ⟨rfl, rfl⟩ := H; go_enter Try.func9, Try.ntmps9
  go_wp2_with (first | ((with_reducible refine gate_dst (N := 2) rfl ?_); refine bx (N := 2) #[.int .i64 a0_0, .bool a0_1] 25 ?_; intro gb306 hg w11 hbox hb; have BK306 := A_ (hbox); have GW306 := A_ (bs hg (hq HB) : w.heap.size ≤ gb306); have GE306 := A_ (bs hg (hq HB) : w.heap.size ≤ gb306); replace HB := A_ (below_step (hq HB) hb); clear hb hbox hg; have hcz12_0 : w11.cell? ⟨gb306, 0, none⟩ = some (.int .i64 a0_0) := bc BK306 0; have hcz12_1 : w11.cell? ⟨gb306, 1, none⟩ = some (.bool a0_1) := bc BK306 1; have hfz12_0 := blk_frozen BK306.out 0; have hfz12_1 := blk_frozen BK306.out 1) | ((with_reducible refine gate_callee (f := 33) rfl ?_); refine gL (some 7) Try.func33 #[.agg #[.int .i64 a0_0, .bool a0_1]] ?_; (with_reducible refine (Q50.calls a0_0 a0_1 false _ A3.out).mono ?_); rintro e w13 ⟨rfl, hb⟩; refine ⟨_, rfl, ?_⟩; replace BK306 := A_ (blk_below (bq BK306) hb); replace HB := A_ (below_step (hq HB) hb); clear hb))
  go_ret2
  exact ⟨rt, hq HB⟩

/-! ### spec_IsWalk: function 10 -/
def Q60.f (k : Nat) (a0_0 : Int) (a0_1 : Bool) (l1 : List Int) : Option (Bool × Bool) := (Q41.f a0_0 a0_1).bind fun t310 => (if t310 = true then ((Q1.f k a0_0 a0_1 l1).bind fun t311 => (some (t311, true))) else (some (false, false)))
set_option maxHeartbeats 8000000 in
set_option maxRecDepth 100000 in
theorem Q60.calls (k : Nat) (a0_0 : Int) (a0_1 : Bool) (A1 : Option Addr) (c1 : Nat) (l1 : List Int) (r1 : Bool) (r2 : Bool) (w : World) (hr1 : Kd.C (Kd.int .i64) w A1 l1.length l1) (hc1 : l1.length ≤ c1) (h : Q60.f k a0_0 a0_1 l1 = some (r1, r2)) :
    Calls Try.prog 10 #[.agg #[.int .i64 a0_0, .bool a0_1], .slice A1 l1.length c1] w fun e w' => e = .returned (.tuple #[.bool r1, .bool r2]) ∧ Below w.heap.size w w' := by
 have hu25 := Try.underlying25; have HR1 := A_ hr1; have HC1 := A_ hc1; clear hr1 hc1; have HB := A_ (Below.refl w.heap.size w); have H : ((Q41.f a0_0 a0_1).bind fun t310 => (if t310 = true then ((Q1.f k a0_0 a0_1 l1).bind fun t311 => (some (t311, true))) else (some (false, false)))) = some (r1, r2) := h; clear h; replace H := bm H; obtain ⟨t310, A3, H⟩ := H; by_cases c4 : t310 = true
 ·
  subst c4
  have H1 : ((Q1.f k a0_0 a0_1 l1).bind fun t311 => (some (t311, true))) = some (r1, r2) := by rw [if_pos rfl] at H; exact H
  clear H; have H := H1; clear H1; replace H := bm H; obtain ⟨t311, A5, H⟩ := H; simp only [Option.some.injEq, Prod.mk.injEq] at H
  obtain ⟨rfl, rfl⟩ := H; go_enter Try.func10, Try.ntmps10
  go_wp2_with (first | ((with_reducible refine gate_dst (N := 2) rfl ?_); refine bx (N := 2) #[.int .i64 a0_0, .bool a0_1] 25 ?_; intro gb309 hg w6 hbox hb; have BK309 := A_ (hbox); have GW309 := A_ (bs hg (hq HB) : w.heap.size ≤ gb309); have GE309 := A_ (bs hg (hq HB) : w.heap.size ≤ gb309); replace HB := A_ (below_step (hq HB) hb); clear hb hbox hg; have hcz7_0 : w6.cell? ⟨gb309, 0, none⟩ = some (.int .i64 a0_0) := bc BK309 0; have hcz7_1 : w6.cell? ⟨gb309, 1, none⟩ = some (.bool a0_1) := bc BK309 1; have hfz7_0 := blk_frozen BK309.out 0; have hfz7_1 := blk_frozen BK309.out 1) | ((with_reducible refine gate_callee (f := 35) rfl ?_); refine gL (some 7) Try.func35 #[.agg #[.int .i64 a0_0, .bool a0_1]] ?_; (with_reducible refine (Q41.calls a0_0 a0_1 true _ A3.out).mono ?_); rintro e w8 ⟨rfl, hb⟩; refine ⟨_, rfl, ?_⟩; replace BK309 := A_ (blk_below (bq BK309) hb); replace HB := A_ (below_step (hq HB) hb); clear hb; have hcz9_0 : w8.cell? ⟨gb309, 0, none⟩ = some (.int .i64 a0_0) := bc BK309 0; have hcz9_1 : w8.cell? ⟨gb309, 1, none⟩ = some (.bool a0_1) := bc BK309 1; have hfz9_0 := blk_frozen BK309.out 0; have hfz9_1 := blk_frozen BK309.out 1) | ((with_reducible refine gate_callee (f := 31) rfl ?_); refine gL (some 11) Try.func31 #[.agg #[.int .i64 a0_0, .bool a0_1], .slice A1 l1.length c1] ?_; (with_reducible refine (Q1.calls k a0_0 a0_1 _ _ l1 t311 _ ?side1 ?side2 A5.out).mono ?_); (case side1 => exact cq (Kd.C_below HR1.out HB.out)); (case side2 => exact HC1.out); rintro e w10 ⟨rfl, hb⟩; refine ⟨_, rfl, ?_⟩; replace BK309 := A_ (blk_below (bq BK309) hb); replace HB := A_ (below_step (hq HB) hb); clear hb))
  go_ret2
  exact ⟨rt, hq HB⟩
 ·
  replace c4 := Bool.eq_false_iff.mpr c4; subst c4
  have H1 : (some (false, false)) = some (r1, r2) := by rw [if_neg (show ¬ (false = true) by decide)] at H; exact H
  clear H; have H := H1; clear H1; simp only [Option.some.injEq, Prod.mk.injEq] at H
  obtain ⟨rfl, rfl⟩ := H; go_enter Try.func10, Try.ntmps10
  go_wp2_with (first | ((with_reducible refine gate_dst (N := 2) rfl ?_); refine bx (N := 2) #[.int .i64 a0_0, .bool a0_1] 25 ?_; intro gb309 hg w11 hbox hb; have BK309 := A_ (hbox); have GW309 := A_ (bs hg (hq HB) : w.heap.size ≤ gb309); have GE309 := A_ (bs hg (hq HB) : w.heap.size ≤ gb309); replace HB := A_ (below_step (hq HB) hb); clear hb hbox hg; have hcz12_0 : w11.cell? ⟨gb309, 0, none⟩ = some (.int .i64 a0_0) := bc BK309 0; have hcz12_1 : w11.cell? ⟨gb309, 1, none⟩ = some (.bool a0_1) := bc BK309 1; have hfz12_0 := blk_frozen BK309.out 0; have hfz12_1 := blk_frozen BK309.out 1) | ((with_reducible refine gate_callee (f := 35) rfl ?_); refine gL (some 7) Try.func35 #[.agg #[.int .i64 a0_0, .bool a0_1]] ?_; (with_reducible refine (Q41.calls a0_0 a0_1 false _ A3.out).mono ?_); rintro e w13 ⟨rfl, hb⟩; refine ⟨_, rfl, ?_⟩; replace BK309 := A_ (blk_below (bq BK309) hb); replace HB := A_ (below_step (hq HB) hb); clear hb))
  go_ret2
  exact ⟨rt, hq HB⟩

/-! ### impl_StepCount: function 11 -/
def Q15.l0 : Nat → List Int → Int → Int → Option (Int × Bool)
  | 0, _, _, _ => none
  | k + 1, x1, x6, x7 => if x7 < (x1.length : Int) then (if 0 ≤ x7 then (if 0 ≤ (wrap64 (x7 - 1)) then (if (wrap64 (x7 - 1)) < (x1.length : Int) then (if (rd x1 x7) = (rd x1 (wrap64 (x7 - 1))) then (Q15.l0 k x1 x6 (wrap64 (x7 + 1))) else (Q15.l0 k x1 (wrap64 (x6 + 1)) (wrap64 (x7 + 1)))) else (none)) else (none)) else (none)) else (some (x6, true))
def Q15.f (k : Nat) (a0_0 : Int) (a0_1 : Bool) (l1 : List Int) : Option (Int × Bool) := (Q4.f k a0_0 a0_1 (([l1] : List (List Int)))).bind fun t316 => (if t316 = true then (Q15.l0 k l1 0 1) else (some (0, false)))
set_option maxHeartbeats 8000000 in
set_option maxRecDepth 100000 in
theorem Q15.calls (k : Nat) (a0_0 : Int) (a0_1 : Bool) (A1 : Option Addr) (c1 : Nat) (l1 : List Int) (r1 : Int) (r2 : Bool) (w : World) (hr1 : Kd.C (Kd.int .i64) w A1 l1.length l1) (hc1 : l1.length ≤ c1) (h : Q15.f k a0_0 a0_1 l1 = some (r1, r2)) :
    Calls Try.prog 11 #[.agg #[.int .i64 a0_0, .bool a0_1], .slice A1 l1.length c1] w fun e w' => e = .returned (.tuple #[.int .i64 r1, .bool r2]) ∧ Below w.heap.size w w' := by
 have hu25 := Try.underlying25; have HR1 := A_ hr1; have HC1 := A_ hc1; clear hr1 hc1; have HB := A_ (Below.refl w.heap.size w); have H : ((Q4.f k a0_0 a0_1 (([l1] : List (List Int)))).bind fun t316 => (if t316 = true then (Q15.l0 k l1 0 1) else (some (0, false)))) = some (r1, r2) := h; clear h
 obtain ⟨y313, hy313⟩ : ∃ y_ : List (List Int), y_ = (([l1] : List (List Int))) := ⟨_, rfl⟩
 replace H : ((Q4.f k a0_0 a0_1 y313).bind fun t316 => (if t316 = true then (Q15.l0 k l1 0 1) else (some (0, false)))) = some (r1, r2) := by first | (rw [hy313]; with_reducible exact H) | (have H2_ := (Option.bind_some _ _).symm.trans H; rw [hy313]; with_reducible exact H2_) | (have H2_ := (Option.bind_some _ _).symm.trans H; with_reducible exact H2_) | with_reducible exact H | (rw [hy313]; exact H) | exact H
 have Ny313 := A_ hy313; clear hy313; replace H := bm H; obtain ⟨t316, A3, H⟩ := H; by_cases c4 : t316 = true
 ·
  subst c4
  have H1 : (Q15.l0 k l1 0 1) = some (r1, r2) := by rw [if_pos rfl] at H; exact H
  clear H; have H := H1; clear H1; have H' := A_ H; clear H; go_enter Try.func11, Try.ntmps11
  go_wp2_with (first | ((with_reducible refine gate_dst (N := 2) rfl ?_); refine bx (N := 2) #[.int .i64 a0_0, .bool a0_1] 25 ?_; intro gb312 hg w5 hbox hb; have BK312 := A_ (hbox); have GW312 := A_ (bs hg (hq HB) : w.heap.size ≤ gb312); have GE312 := A_ (bs hg (hq HB) : w.heap.size ≤ gb312); replace HB := A_ (below_step (hq HB) hb); clear hb hbox hg; have hcz6_0 : w5.cell? ⟨gb312, 0, none⟩ = some (.int .i64 a0_0) := bc BK312 0; have hcz6_1 : w5.cell? ⟨gb312, 1, none⟩ = some (.bool a0_1) := bc BK312 1; have hfz6_0 := blk_frozen BK312.out 0; have hfz6_1 := blk_frozen BK312.out 1) | ((with_reducible refine gate_dst (N := 10) rfl ?_); refine V_lit (Kd.slice 3 (Kd.int .i64)) 0 26 ?hg (N' := 10) ?hd (xs := ([l1] : List (List Int))) (inner := [.slice A1 l1.length c1]) ?hr ?hp (by simp) ?_; (case hd => rfl); (case hg => rfl); (case hr => first | (go_simp; done) | (go_simp; rfl)); (case hp => exact (Reps.one (show Kd.FK (Kd.slice 3 (Kd.int .i64)) _ _ l1 [.slice A1 l1.length c1] from (Kd.FK_slice_mk HC1.out (Kd.F_mono (Kd.F_below (Kd.C_F (Kd.heap_int .i64) HR1.out) (hq HB)) (fun _ _ => trivial)))) (Reps.none _ _))); intro v314 w7 ho8 hb; (first | rw [← Ny313.out] at ho8 | (simp only [Int.reduceToNat] at ho8; rw [← Ny313.out] at ho8)); replace BK312 := A_ (blk_below (bq BK312) hb); replace HB := A_ (below_step (hq HB) hb); have HO315 := A_ (ho8); clear hb ho8; obtain ⟨Ao9, co9, eo9⟩ := Kd.V_slice HO315.out; subst eo9) | (go_at_call 29; (with_reducible refine (Q4.calls k a0_0 a0_1 _ _ y313 true _ ?side1 ?side2 A3.out).mono ?_); (case side1 => exact cq (Kd.V_reads' HO315.out).2.2); (case side2 => exact (Kd.V_reads' HO315.out).2.1); rintro e w10 ⟨rfl, hb⟩; replace HO315 := A_ (Kd.V_below (vq HO315) hb); replace BK312 := A_ (blk_below (bq BK312) hb); replace HB := A_ (below_step (hq HB) hb); clear hb))
  repeat (go_quiet (first | ((with_reducible refine gate_dst (N := 2) rfl ?_); refine bx (N := 2) #[.int .i64 a0_0, .bool a0_1] 25 ?_; intro gb312 hg w5 hbox hb; have BK312 := A_ (hbox); have GW312 := A_ (bs hg (hq HB) : w.heap.size ≤ gb312); have GE312 := A_ (bs hg (hq HB) : w.heap.size ≤ gb312); replace HB := A_ (below_step (hq HB) hb); clear hb hbox hg; have hcz6_0 : w5.cell? ⟨gb312, 0, none⟩ = some (.int .i64 a0_0) := bc BK312 0; have hcz6_1 : w5.cell? ⟨gb312, 1, none⟩ = some (.bool a0_1) := bc BK312 1; have hfz6_0 := blk_frozen BK312.out 0; have hfz6_1 := blk_frozen BK312.out 1) | ((with_reducible refine gate_dst (N := 10) rfl ?_); refine V_lit (Kd.slice 3 (Kd.int .i64)) 0 26 ?hg (N' := 10) ?hd (xs := ([l1] : List (List Int))) (inner := [.slice A1 l1.length c1]) ?hr ?hp (by simp) ?_; (case hd => rfl); (case hg => rfl); (case hr => first | (go_simp; done) | (go_simp; rfl)); (case hp => exact (Reps.one (show Kd.FK (Kd.slice 3 (Kd.int .i64)) _ _ l1 [.slice A1 l1.length c1] from (Kd.FK_slice_mk HC1.out (Kd.F_mono (Kd.F_below (Kd.C_F (Kd.heap_int .i64) HR1.out) (hq HB)) (fun _ _ => trivial)))) (Reps.none _ _))); intro v314 w7 ho8 hb; (first | rw [← Ny313.out] at ho8 | (simp only [Int.reduceToNat] at ho8; rw [← Ny313.out] at ho8)); replace BK312 := A_ (blk_below (bq BK312) hb); replace HB := A_ (below_step (hq HB) hb); have HO315 := A_ (ho8); clear hb ho8; obtain ⟨Ao9, co9, eo9⟩ := Kd.V_slice HO315.out; subst eo9) | (go_at_call 29; (with_reducible refine (Q4.calls k a0_0 a0_1 _ _ y313 true _ ?side1 ?side2 A3.out).mono ?_); (case side1 => exact cq (Kd.V_reads' HO315.out).2.2); (case side2 => exact (Kd.V_reads' HO315.out).2.1); rintro e w10 ⟨rfl, hb⟩; replace HO315 := A_ (Kd.V_below (vq HO315) hb); replace BK312 := A_ (blk_below (bq BK312) hb); replace HB := A_ (below_step (hq HB) hb); clear hb)); try go_wp2_with (first | ((with_reducible refine gate_dst (N := 2) rfl ?_); refine bx (N := 2) #[.int .i64 a0_0, .bool a0_1] 25 ?_; intro gb312 hg w5 hbox hb; have BK312 := A_ (hbox); have GW312 := A_ (bs hg (hq HB) : w.heap.size ≤ gb312); have GE312 := A_ (bs hg (hq HB) : w.heap.size ≤ gb312); replace HB := A_ (below_step (hq HB) hb); clear hb hbox hg; have hcz6_0 : w5.cell? ⟨gb312, 0, none⟩ = some (.int .i64 a0_0) := bc BK312 0; have hcz6_1 : w5.cell? ⟨gb312, 1, none⟩ = some (.bool a0_1) := bc BK312 1; have hfz6_0 := blk_frozen BK312.out 0; have hfz6_1 := blk_frozen BK312.out 1) | ((with_reducible refine gate_dst (N := 10) rfl ?_); refine V_lit (Kd.slice 3 (Kd.int .i64)) 0 26 ?hg (N' := 10) ?hd (xs := ([l1] : List (List Int))) (inner := [.slice A1 l1.length c1]) ?hr ?hp (by simp) ?_; (case hd => rfl); (case hg => rfl); (case hr => first | (go_simp; done) | (go_simp; rfl)); (case hp => exact (Reps.one (show Kd.FK (Kd.slice 3 (Kd.int .i64)) _ _ l1 [.slice A1 l1.length c1] from (Kd.FK_slice_mk HC1.out (Kd.F_mono (Kd.F_below (Kd.C_F (Kd.heap_int .i64) HR1.out) (hq HB)) (fun _ _ => trivial)))) (Reps.none _ _))); intro v314 w7 ho8 hb; (first | rw [← Ny313.out] at ho8 | (simp only [Int.reduceToNat] at ho8; rw [← Ny313.out] at ho8)); replace BK312 := A_ (blk_below (bq BK312) hb); replace HB := A_ (below_step (hq HB) hb); have HO315 := A_ (ho8); clear hb ho8; obtain ⟨Ao9, co9, eo9⟩ := Kd.V_slice HO315.out; subst eo9) | (go_at_call 29; (with_reducible refine (Q4.calls k a0_0 a0_1 _ _ y313 true _ ?side1 ?side2 A3.out).mono ?_); (case side1 => exact cq (Kd.V_reads' HO315.out).2.2); (case side2 => exact (Kd.V_reads' HO315.out).2.1); rintro e w10 ⟨rfl, hb⟩; replace HO315 := A_ (Kd.V_below (vq HO315) hb); replace BK312 := A_ (blk_below (bq BK312) hb); replace HB := A_ (below_step (hq HB) hb); clear hb)))
  go_loopg [6, 7] k (fun kq v6 v7 w' => ∃ (x6_1 : Int) (x7_1 : Int), v6 = .int .i64 x6_1 ∧ v7 = .int .i64 x7_1 ∧ Aside0 (Q15.l0 kq l1 x6_1 x7_1 = some (r1, r2)) ∧ Aside0 (kq ≤ k) ∧ Aside0 (w'.heap[gb312]? = some (.cells #[.int .i64 a0_0, .bool a0_1] 25 (0, 0))) ∧ Aside0 (Below w.heap.size w w'))
  case atStart => exact ⟨(0), (1), rf, rf, H', ⟨Nat.le_refl _⟩, ⟨bq BK312⟩, ⟨hq HB⟩⟩
  case round =>
   clear H'; (try clear c4); (try clear hcz6_0); (try clear hcz6_1); (try clear hfz6_0); (try clear hfz6_1); obtain ⟨x6_1, x7_1, rfl, rfl, HA, HK1, BK312, HB⟩ := hrel
   cases gk with
   | zero => exact absurd HA.out (by simp [Q15.l0])
   | succ k1 =>
    have H := HA.out; clear HA; simp only [Q15.l0] at H
    by_cases c11 : x7_1 < (l1.length : Int)
    ·
     rw [if_pos c11] at H; have c11b0 := decide_eq_true c11; clear c11; by_cases c12 : 0 ≤ x7_1
     ·
      rw [if_pos c12] at H; have c12b0 := decide_eq_true c12; clear c12
      obtain ⟨ji13, hji13⟩ : ∃ j_ : Int, (wrap64 (x7_1 - 1)) = j_ := ⟨_, rfl⟩
      replace H : (if 0 ≤ (ji13) then (if (ji13) < (l1.length : Int) then (if (rd l1 x7_1) = (rd l1 (ji13)) then (Q15.l0 k1 l1 x6_1 (wrap64 (x7_1 + 1))) else (Q15.l0 k1 l1 (wrap64 (x6_1 + 1)) (wrap64 (x7_1 + 1)))) else (none)) else (none)) = some (r1, r2) := by first | (rw [hji13] at H; exact H) | (simp only [hji13] at H ⊢; exact H)
      have hji13w : (IntKind.i64.wrap (x7_1 - 1)) = ji13 := (i64_w _).trans hji13; by_cases c14 : 0 ≤ (ji13)
      ·
       rw [if_pos c14] at H; have c14b0 := decide_eq_true c14; clear c14; by_cases c15 : (ji13) < (l1.length : Int)
       ·
        rw [if_pos c15] at H; have c15b0 := decide_eq_true c15; clear c15; by_cases c16 : (rd l1 x7_1) = (rd l1 (ji13))
        ·
         rw [if_pos c16] at H; have c16b0 : ((rd l1 x7_1) == (rd l1 (ji13))) = true := beq_iff_eq.mpr c16; have c16b1 : ((rd l1 x7_1) != (rd l1 (ji13))) = false := bne_eq_false_iff_eq.mpr c16; clear c16; have H' := A_ H; clear H; have p317 : 0 ≤ (x7_1 : Int) := dq; have q317 : x7_1 < (l1.length : Int) := dq; obtain ⟨ad317, e317, hx317_0⟩ := Kd.at_int HR1.out x7_1 p317 q317
         cases e317
         replace hx317_0 := (HB.out.cell (World.block_lt_of_cell? w _ hx317_0)).trans hx317_0; replace p317 := eq_true p317; replace q317 := eq_true q317; have p318 : 0 ≤ ((ji13) : Int) := dq; have q318 : (ji13) < (l1.length : Int) := dq; obtain ⟨ad318, e318, hx318_0⟩ := Kd.at_int HR1.out (ji13) p318 q318
         obtain rfl : ad317 = ad318 := (by injection e318)
         replace hx318_0 := (HB.out.cell (World.block_lt_of_cell? w _ hx318_0)).trans hx318_0; replace p318 := eq_true p318; replace q318 := eq_true q318; go_wp2
         repeat (go_quiet (fail); try go_wp2)
         go_roundg k1
         case measure => have := HK1.out; omega
         case rel => exact ⟨(x6_1), (wrap64 (x7_1 + 1)), rf, rf, H', ⟨by have := HK1.out; omega⟩, ⟨bq BK312⟩, ⟨hq HB⟩⟩
        ·
         rw [if_neg c16] at H; have c16b0 : ((rd l1 x7_1) == (rd l1 (ji13))) = false := beq_eq_false_iff_ne.mpr c16; have c16b1 : ((rd l1 x7_1) != (rd l1 (ji13))) = true := bne_iff_ne.mpr c16; have H' := A_ H; clear H; have p317 : 0 ≤ (x7_1 : Int) := dq; have q317 : x7_1 < (l1.length : Int) := dq; obtain ⟨ad317, e317, hx317_0⟩ := Kd.at_int HR1.out x7_1 p317 q317
         cases e317
         replace hx317_0 := (HB.out.cell (World.block_lt_of_cell? w _ hx317_0)).trans hx317_0; replace p317 := eq_true p317; replace q317 := eq_true q317; have p318 : 0 ≤ ((ji13) : Int) := dq; have q318 : (ji13) < (l1.length : Int) := dq; obtain ⟨ad318, e318, hx318_0⟩ := Kd.at_int HR1.out (ji13) p318 q318
         obtain rfl : ad317 = ad318 := (by injection e318)
         replace hx318_0 := (HB.out.cell (World.block_lt_of_cell? w _ hx318_0)).trans hx318_0; replace p318 := eq_true p318; replace q318 := eq_true q318; go_wp2
         repeat (go_quiet (fail); try go_wp2)
         go_roundg k1
         case measure => have := HK1.out; omega
         case rel => exact ⟨(wrap64 (x6_1 + 1)), (wrap64 (x7_1 + 1)), rf, rf, H', ⟨by have := HK1.out; omega⟩, ⟨bq BK312⟩, ⟨hq HB⟩⟩
       ·
        rw [if_neg c15] at H; exact absurd H (by simp)
      ·
       rw [if_neg c14] at H; exact absurd H (by simp)
     ·
      rw [if_neg c12] at H; exact absurd H (by simp)
    ·
     rw [if_neg c11] at H; have c11b0 := decide_eq_false c11; clear c11; simp only [Option.some.injEq, Prod.mk.injEq] at H
     obtain ⟨rfl, rfl⟩ := H; go_wp2
     repeat (go_quiet (fail); try go_wp2)
     go_ret2
     exact ⟨rt, hq HB⟩
 ·
  replace c4 := Bool.eq_false_iff.mpr c4; subst c4
  have H1 : (some (0, false)) = some (r1, r2) := by rw [if_neg (show ¬ (false = true) by decide)] at H; exact H
  clear H; have H := H1; clear H1; simp only [Option.some.injEq, Prod.mk.injEq] at H
  obtain ⟨rfl, rfl⟩ := H; go_enter Try.func11, Try.ntmps11
  go_wp2_with (first | ((with_reducible refine gate_dst (N := 2) rfl ?_); refine bx (N := 2) #[.int .i64 a0_0, .bool a0_1] 25 ?_; intro gb312 hg w17 hbox hb; have BK312 := A_ (hbox); have GW312 := A_ (bs hg (hq HB) : w.heap.size ≤ gb312); have GE312 := A_ (bs hg (hq HB) : w.heap.size ≤ gb312); replace HB := A_ (below_step (hq HB) hb); clear hb hbox hg; have hcz18_0 : w17.cell? ⟨gb312, 0, none⟩ = some (.int .i64 a0_0) := bc BK312 0; have hcz18_1 : w17.cell? ⟨gb312, 1, none⟩ = some (.bool a0_1) := bc BK312 1; have hfz18_0 := blk_frozen BK312.out 0; have hfz18_1 := blk_frozen BK312.out 1) | ((with_reducible refine gate_dst (N := 10) rfl ?_); refine V_lit (Kd.slice 3 (Kd.int .i64)) 0 26 ?hg (N' := 10) ?hd (xs := ([l1] : List (List Int))) (inner := [.slice A1 l1.length c1]) ?hr ?hp (by simp) ?_; (case hd => rfl); (case hg => rfl); (case hr => first | (go_simp; done) | (go_simp; rfl)); (case hp => exact (Reps.one (show Kd.FK (Kd.slice 3 (Kd.int .i64)) _ _ l1 [.slice A1 l1.length c1] from (Kd.FK_slice_mk HC1.out (Kd.F_mono (Kd.F_below (Kd.C_F (Kd.heap_int .i64) HR1.out) (hq HB)) (fun _ _ => trivial)))) (Reps.none _ _))); intro v314 w19 ho20 hb; (first | rw [← Ny313.out] at ho20 | (simp only [Int.reduceToNat] at ho20; rw [← Ny313.out] at ho20)); replace BK312 := A_ (blk_below (bq BK312) hb); replace HB := A_ (below_step (hq HB) hb); have HO315 := A_ (ho20); clear hb ho20; obtain ⟨Ao21, co21, eo21⟩ := Kd.V_slice HO315.out; subst eo21) | (go_at_call 29; (with_reducible refine (Q4.calls k a0_0 a0_1 _ _ y313 false _ ?side1 ?side2 A3.out).mono ?_); (case side1 => exact cq (Kd.V_reads' HO315.out).2.2); (case side2 => exact (Kd.V_reads' HO315.out).2.1); rintro e w22 ⟨rfl, hb⟩; replace HO315 := A_ (Kd.V_below (vq HO315) hb); replace BK312 := A_ (blk_below (bq BK312) hb); replace HB := A_ (below_step (hq HB) hb); clear hb))
  repeat (go_quiet (first | ((with_reducible refine gate_dst (N := 2) rfl ?_); refine bx (N := 2) #[.int .i64 a0_0, .bool a0_1] 25 ?_; intro gb312 hg w17 hbox hb; have BK312 := A_ (hbox); have GW312 := A_ (bs hg (hq HB) : w.heap.size ≤ gb312); have GE312 := A_ (bs hg (hq HB) : w.heap.size ≤ gb312); replace HB := A_ (below_step (hq HB) hb); clear hb hbox hg; have hcz18_0 : w17.cell? ⟨gb312, 0, none⟩ = some (.int .i64 a0_0) := bc BK312 0; have hcz18_1 : w17.cell? ⟨gb312, 1, none⟩ = some (.bool a0_1) := bc BK312 1; have hfz18_0 := blk_frozen BK312.out 0; have hfz18_1 := blk_frozen BK312.out 1) | ((with_reducible refine gate_dst (N := 10) rfl ?_); refine V_lit (Kd.slice 3 (Kd.int .i64)) 0 26 ?hg (N' := 10) ?hd (xs := ([l1] : List (List Int))) (inner := [.slice A1 l1.length c1]) ?hr ?hp (by simp) ?_; (case hd => rfl); (case hg => rfl); (case hr => first | (go_simp; done) | (go_simp; rfl)); (case hp => exact (Reps.one (show Kd.FK (Kd.slice 3 (Kd.int .i64)) _ _ l1 [.slice A1 l1.length c1] from (Kd.FK_slice_mk HC1.out (Kd.F_mono (Kd.F_below (Kd.C_F (Kd.heap_int .i64) HR1.out) (hq HB)) (fun _ _ => trivial)))) (Reps.none _ _))); intro v314 w19 ho20 hb; (first | rw [← Ny313.out] at ho20 | (simp only [Int.reduceToNat] at ho20; rw [← Ny313.out] at ho20)); replace BK312 := A_ (blk_below (bq BK312) hb); replace HB := A_ (below_step (hq HB) hb); have HO315 := A_ (ho20); clear hb ho20; obtain ⟨Ao21, co21, eo21⟩ := Kd.V_slice HO315.out; subst eo21) | (go_at_call 29; (with_reducible refine (Q4.calls k a0_0 a0_1 _ _ y313 false _ ?side1 ?side2 A3.out).mono ?_); (case side1 => exact cq (Kd.V_reads' HO315.out).2.2); (case side2 => exact (Kd.V_reads' HO315.out).2.1); rintro e w22 ⟨rfl, hb⟩; replace HO315 := A_ (Kd.V_below (vq HO315) hb); replace BK312 := A_ (blk_below (bq BK312) hb); replace HB := A_ (below_step (hq HB) hb); clear hb)); try go_wp2_with (first | ((with_reducible refine gate_dst (N := 2) rfl ?_); refine bx (N := 2) #[.int .i64 a0_0, .bool a0_1] 25 ?_; intro gb312 hg w17 hbox hb; have BK312 := A_ (hbox); have GW312 := A_ (bs hg (hq HB) : w.heap.size ≤ gb312); have GE312 := A_ (bs hg (hq HB) : w.heap.size ≤ gb312); replace HB := A_ (below_step (hq HB) hb); clear hb hbox hg; have hcz18_0 : w17.cell? ⟨gb312, 0, none⟩ = some (.int .i64 a0_0) := bc BK312 0; have hcz18_1 : w17.cell? ⟨gb312, 1, none⟩ = some (.bool a0_1) := bc BK312 1; have hfz18_0 := blk_frozen BK312.out 0; have hfz18_1 := blk_frozen BK312.out 1) | ((with_reducible refine gate_dst (N := 10) rfl ?_); refine V_lit (Kd.slice 3 (Kd.int .i64)) 0 26 ?hg (N' := 10) ?hd (xs := ([l1] : List (List Int))) (inner := [.slice A1 l1.length c1]) ?hr ?hp (by simp) ?_; (case hd => rfl); (case hg => rfl); (case hr => first | (go_simp; done) | (go_simp; rfl)); (case hp => exact (Reps.one (show Kd.FK (Kd.slice 3 (Kd.int .i64)) _ _ l1 [.slice A1 l1.length c1] from (Kd.FK_slice_mk HC1.out (Kd.F_mono (Kd.F_below (Kd.C_F (Kd.heap_int .i64) HR1.out) (hq HB)) (fun _ _ => trivial)))) (Reps.none _ _))); intro v314 w19 ho20 hb; (first | rw [← Ny313.out] at ho20 | (simp only [Int.reduceToNat] at ho20; rw [← Ny313.out] at ho20)); replace BK312 := A_ (blk_below (bq BK312) hb); replace HB := A_ (below_step (hq HB) hb); have HO315 := A_ (ho20); clear hb ho20; obtain ⟨Ao21, co21, eo21⟩ := Kd.V_slice HO315.out; subst eo21) | (go_at_call 29; (with_reducible refine (Q4.calls k a0_0 a0_1 _ _ y313 false _ ?side1 ?side2 A3.out).mono ?_); (case side1 => exact cq (Kd.V_reads' HO315.out).2.2); (case side2 => exact (Kd.V_reads' HO315.out).2.1); rintro e w22 ⟨rfl, hb⟩; replace HO315 := A_ (Kd.V_below (vq HO315) hb); replace BK312 := A_ (blk_below (bq BK312) hb); replace HB := A_ (below_step (hq HB) hb); clear hb)))
  go_ret2
  exact ⟨rt, hq HB⟩

/-! ### spec_StepCount: function 12 -/
def Q20.l0 : Nat → List Int → Int → Int → Option (Int × Bool)
  | 0, _, _, _ => none
  | k + 1, x1, x6, x7 => if x7 < (x1.length : Int) then (if 0 ≤ x7 then (if 0 ≤ (wrap64 (x7 - 1)) then (if (wrap64 (x7 - 1)) < (x1.length : Int) then (if (rd x1 x7) = (rd x1 (wrap64 (x7 - 1))) then (Q20.l0 k x1 x6 (wrap64 (x7 + 1))) else (Q20.l0 k x1 (wrap64 (x6 + 1)) (wrap64 (x7 + 1)))) else (none)) else (none)) else (none)) else (some (x6, true))
def Q20.f (k : Nat) (a0_0 : Int) (a0_1 : Bool) (l1 : List Int) : Option (Int × Bool) := (Q1.f k a0_0 a0_1 l1).bind fun t320 => (if t320 = true then (Q20.l0 k l1 0 1) else (some (0, false)))
set_option maxHeartbeats 8000000 in
set_option maxRecDepth 100000 in
theorem Q20.calls (k : Nat) (a0_0 : Int) (a0_1 : Bool) (A1 : Option Addr) (c1 : Nat) (l1 : List Int) (r1 : Int) (r2 : Bool) (w : World) (hr1 : Kd.C (Kd.int .i64) w A1 l1.length l1) (hc1 : l1.length ≤ c1) (h : Q20.f k a0_0 a0_1 l1 = some (r1, r2)) :
    Calls Try.prog 12 #[.agg #[.int .i64 a0_0, .bool a0_1], .slice A1 l1.length c1] w fun e w' => e = .returned (.tuple #[.int .i64 r1, .bool r2]) ∧ Below w.heap.size w w' := by
 have hu25 := Try.underlying25; have HR1 := A_ hr1; have HC1 := A_ hc1; clear hr1 hc1; have HB := A_ (Below.refl w.heap.size w); have H : ((Q1.f k a0_0 a0_1 l1).bind fun t320 => (if t320 = true then (Q20.l0 k l1 0 1) else (some (0, false)))) = some (r1, r2) := h; clear h; replace H := bm H; obtain ⟨t320, A3, H⟩ := H; by_cases c4 : t320 = true
 ·
  subst c4
  have H1 : (Q20.l0 k l1 0 1) = some (r1, r2) := by rw [if_pos rfl] at H; exact H
  clear H; have H := H1; clear H1; have H' := A_ H; clear H; go_enter Try.func12, Try.ntmps12
  go_wp2_with (first | ((with_reducible refine gate_dst (N := 2) rfl ?_); refine bx (N := 2) #[.int .i64 a0_0, .bool a0_1] 25 ?_; intro gb319 hg w5 hbox hb; have BK319 := A_ (hbox); have GW319 := A_ (bs hg (hq HB) : w.heap.size ≤ gb319); have GE319 := A_ (bs hg (hq HB) : w.heap.size ≤ gb319); replace HB := A_ (below_step (hq HB) hb); clear hb hbox hg; have hcz6_0 : w5.cell? ⟨gb319, 0, none⟩ = some (.int .i64 a0_0) := bc BK319 0; have hcz6_1 : w5.cell? ⟨gb319, 1, none⟩ = some (.bool a0_1) := bc BK319 1; have hfz6_0 := blk_frozen BK319.out 0; have hfz6_1 := blk_frozen BK319.out 1) | (go_at_call 31; (with_reducible refine (Q1.calls k a0_0 a0_1 _ _ l1 true _ ?side1 ?side2 A3.out).mono ?_); (case side1 => exact cq (Kd.C_below HR1.out HB.out)); (case side2 => exact HC1.out); rintro e w7 ⟨rfl, hb⟩; replace BK319 := A_ (blk_below (bq BK319) hb); replace HB := A_ (below_step (hq HB) hb); clear hb))
  repeat (go_quiet (first | ((with_reducible refine gate_dst (N := 2) rfl ?_); refine bx (N := 2) #[.int .i64 a0_0, .bool a0_1] 25 ?_; intro gb319 hg w5 hbox hb; have BK319 := A_ (hbox); have GW319 := A_ (bs hg (hq HB) : w.heap.size ≤ gb319); have GE319 := A_ (bs hg (hq HB) : w.heap.size ≤ gb319); replace HB := A_ (below_step (hq HB) hb); clear hb hbox hg; have hcz6_0 : w5.cell? ⟨gb319, 0, none⟩ = some (.int .i64 a0_0) := bc BK319 0; have hcz6_1 : w5.cell? ⟨gb319, 1, none⟩ = some (.bool a0_1) := bc BK319 1; have hfz6_0 := blk_frozen BK319.out 0; have hfz6_1 := blk_frozen BK319.out 1) | (go_at_call 31; (with_reducible refine (Q1.calls k a0_0 a0_1 _ _ l1 true _ ?side1 ?side2 A3.out).mono ?_); (case side1 => exact cq (Kd.C_below HR1.out HB.out)); (case side2 => exact HC1.out); rintro e w7 ⟨rfl, hb⟩; replace BK319 := A_ (blk_below (bq BK319) hb); replace HB := A_ (below_step (hq HB) hb); clear hb)); try go_wp2_with (first | ((with_reducible refine gate_dst (N := 2) rfl ?_); refine bx (N := 2) #[.int .i64 a0_0, .bool a0_1] 25 ?_; intro gb319 hg w5 hbox hb; have BK319 := A_ (hbox); have GW319 := A_ (bs hg (hq HB) : w.heap.size ≤ gb319); have GE319 := A_ (bs hg (hq HB) : w.heap.size ≤ gb319); replace HB := A_ (below_step (hq HB) hb); clear hb hbox hg; have hcz6_0 : w5.cell? ⟨gb319, 0, none⟩ = some (.int .i64 a0_0) := bc BK319 0; have hcz6_1 : w5.cell? ⟨gb319, 1, none⟩ = some (.bool a0_1) := bc BK319 1; have hfz6_0 := blk_frozen BK319.out 0; have hfz6_1 := blk_frozen BK319.out 1) | (go_at_call 31; (with_reducible refine (Q1.calls k a0_0 a0_1 _ _ l1 true _ ?side1 ?side2 A3.out).mono ?_); (case side1 => exact cq (Kd.C_below HR1.out HB.out)); (case side2 => exact HC1.out); rintro e w7 ⟨rfl, hb⟩; replace BK319 := A_ (blk_below (bq BK319) hb); replace HB := A_ (below_step (hq HB) hb); clear hb)))
  go_loopg [6, 7] k (fun kq v6 v7 w' => ∃ (x6_1 : Int) (x7_1 : Int), v6 = .int .i64 x6_1 ∧ v7 = .int .i64 x7_1 ∧ Aside0 (Q20.l0 kq l1 x6_1 x7_1 = some (r1, r2)) ∧ Aside0 (kq ≤ k) ∧ Aside0 (w'.heap[gb319]? = some (.cells #[.int .i64 a0_0, .bool a0_1] 25 (0, 0))) ∧ Aside0 (Below w.heap.size w w'))
  case atStart => exact ⟨(0), (1), rf, rf, H', ⟨Nat.le_refl _⟩, ⟨bq BK319⟩, ⟨hq HB⟩⟩
  case round =>
   clear H'; (try clear c4); (try clear hcz6_0); (try clear hcz6_1); (try clear hfz6_0); (try clear hfz6_1); obtain ⟨x6_1, x7_1, rfl, rfl, HA, HK1, BK319, HB⟩ := hrel
   cases gk with
   | zero => exact absurd HA.out (by simp [Q20.l0])
   | succ k1 =>
    have H := HA.out; clear HA; simp only [Q20.l0] at H
    by_cases c8 : x7_1 < (l1.length : Int)
    ·
     rw [if_pos c8] at H; have c8b0 := decide_eq_true c8; clear c8; by_cases c9 : 0 ≤ x7_1
     ·
      rw [if_pos c9] at H; have c9b0 := decide_eq_true c9; clear c9
      obtain ⟨ji10, hji10⟩ : ∃ j_ : Int, (wrap64 (x7_1 - 1)) = j_ := ⟨_, rfl⟩
      replace H : (if 0 ≤ (ji10) then (if (ji10) < (l1.length : Int) then (if (rd l1 x7_1) = (rd l1 (ji10)) then (Q20.l0 k1 l1 x6_1 (wrap64 (x7_1 + 1))) else (Q20.l0 k1 l1 (wrap64 (x6_1 + 1)) (wrap64 (x7_1 + 1)))) else (none)) else (none)) = some (r1, r2) := by first | (rw [hji10] at H; exact H) | (simp only [hji10] at H ⊢; exact H)
      have hji10w : (IntKind.i64.wrap (x7_1 - 1)) = ji10 := (i64_w _).trans hji10; by_cases c11 : 0 ≤ (ji10)
      ·
       rw [if_pos c11] at H; have c11b0 := decide_eq_true c11; clear c11; by_cases c12 : (ji10) < (l1.length : Int)
       ·
        rw [if_pos c12] at H; have c12b0 := decide_eq_true c12; clear c12; by_cases c13 : (rd l1 x7_1) = (rd l1 (ji10))
        ·
         rw [if_pos c13] at H; have c13b0 : ((rd l1 x7_1) == (rd l1 (ji10))) = true := beq_iff_eq.mpr c13; have c13b1 : ((rd l1 x7_1) != (rd l1 (ji10))) = false := bne_eq_false_iff_eq.mpr c13; clear c13; have H' := A_ H; clear H; have p321 : 0 ≤ (x7_1 : Int) := dq; have q321 : x7_1 < (l1.length : Int) := dq; obtain ⟨ad321, e321, hx321_0⟩ := Kd.at_int HR1.out x7_1 p321 q321
         cases e321
         replace hx321_0 := (HB.out.cell (World.block_lt_of_cell? w _ hx321_0)).trans hx321_0; replace p321 := eq_true p321; replace q321 := eq_true q321; have p322 : 0 ≤ ((ji10) : Int) := dq; have q322 : (ji10) < (l1.length : Int) := dq; obtain ⟨ad322, e322, hx322_0⟩ := Kd.at_int HR1.out (ji10) p322 q322
         obtain rfl : ad321 = ad322 := (by injection e322)
         replace hx322_0 := (HB.out.cell (World.block_lt_of_cell? w _ hx322_0)).trans hx322_0; replace p322 := eq_true p322; replace q322 := eq_true q322; go_wp2
         repeat (go_quiet (fail); try go_wp2)
         go_roundg k1
         case measure => have := HK1.out; omega
         case rel => exact ⟨(x6_1), (wrap64 (x7_1 + 1)), rf, rf, H', ⟨by have := HK1.out; omega⟩, ⟨bq BK319⟩, ⟨hq HB⟩⟩
        ·
         rw [if_neg c13] at H; have c13b0 : ((rd l1 x7_1) == (rd l1 (ji10))) = false := beq_eq_false_iff_ne.mpr c13; have c13b1 : ((rd l1 x7_1) != (rd l1 (ji10))) = true := bne_iff_ne.mpr c13; have H' := A_ H; clear H; have p321 : 0 ≤ (x7_1 : Int) := dq; have q321 : x7_1 < (l1.length : Int) := dq; obtain ⟨ad321, e321, hx321_0⟩ := Kd.at_int HR1.out x7_1 p321 q321
         cases e321
         replace hx321_0 := (HB.out.cell (World.block_lt_of_cell? w _ hx321_0)).trans hx321_0; replace p321 := eq_true p321; replace q321 := eq_true q321; have p322 : 0 ≤ ((ji10) : Int) := dq; have q322 : (ji10) < (l1.length : Int) := dq; obtain ⟨ad322, e322, hx322_0⟩ := Kd.at_int HR1.out (ji10) p322 q322
         obtain rfl : ad321 = ad322 := (by injection e322)
         replace hx322_0 := (HB.out.cell (World.block_lt_of_cell? w _ hx322_0)).trans hx322_0; replace p322 := eq_true p322; replace q322 := eq_true q322; go_wp2
         repeat (go_quiet (fail); try go_wp2)
         go_roundg k1
         case measure => have := HK1.out; omega
         case rel => exact ⟨(wrap64 (x6_1 + 1)), (wrap64 (x7_1 + 1)), rf, rf, H', ⟨by have := HK1.out; omega⟩, ⟨bq BK319⟩, ⟨hq HB⟩⟩
       ·
        rw [if_neg c12] at H; exact absurd H (by simp)
      ·
       rw [if_neg c11] at H; exact absurd H (by simp)
     ·
      rw [if_neg c9] at H; exact absurd H (by simp)
    ·
     rw [if_neg c8] at H; have c8b0 := decide_eq_false c8; clear c8; simp only [Option.some.injEq, Prod.mk.injEq] at H
     obtain ⟨rfl, rfl⟩ := H; go_wp2
     repeat (go_quiet (fail); try go_wp2)
     go_ret2
     exact ⟨rt, hq HB⟩
 ·
  replace c4 := Bool.eq_false_iff.mpr c4; subst c4
  have H1 : (some (0, false)) = some (r1, r2) := by rw [if_neg (show ¬ (false = true) by decide)] at H; exact H
  clear H; have H := H1; clear H1; simp only [Option.some.injEq, Prod.mk.injEq] at H
  obtain ⟨rfl, rfl⟩ := H; go_enter Try.func12, Try.ntmps12
  go_wp2_with (first | ((with_reducible refine gate_dst (N := 2) rfl ?_); refine bx (N := 2) #[.int .i64 a0_0, .bool a0_1] 25 ?_; intro gb319 hg w14 hbox hb; have BK319 := A_ (hbox); have GW319 := A_ (bs hg (hq HB) : w.heap.size ≤ gb319); have GE319 := A_ (bs hg (hq HB) : w.heap.size ≤ gb319); replace HB := A_ (below_step (hq HB) hb); clear hb hbox hg; have hcz15_0 : w14.cell? ⟨gb319, 0, none⟩ = some (.int .i64 a0_0) := bc BK319 0; have hcz15_1 : w14.cell? ⟨gb319, 1, none⟩ = some (.bool a0_1) := bc BK319 1; have hfz15_0 := blk_frozen BK319.out 0; have hfz15_1 := blk_frozen BK319.out 1) | (go_at_call 31; (with_reducible refine (Q1.calls k a0_0 a0_1 _ _ l1 false _ ?side1 ?side2 A3.out).mono ?_); (case side1 => exact cq (Kd.C_below HR1.out HB.out)); (case side2 => exact HC1.out); rintro e w16 ⟨rfl, hb⟩; replace BK319 := A_ (blk_below (bq BK319) hb); replace HB := A_ (below_step (hq HB) hb); clear hb))
  repeat (go_quiet (first | ((with_reducible refine gate_dst (N := 2) rfl ?_); refine bx (N := 2) #[.int .i64 a0_0, .bool a0_1] 25 ?_; intro gb319 hg w14 hbox hb; have BK319 := A_ (hbox); have GW319 := A_ (bs hg (hq HB) : w.heap.size ≤ gb319); have GE319 := A_ (bs hg (hq HB) : w.heap.size ≤ gb319); replace HB := A_ (below_step (hq HB) hb); clear hb hbox hg; have hcz15_0 : w14.cell? ⟨gb319, 0, none⟩ = some (.int .i64 a0_0) := bc BK319 0; have hcz15_1 : w14.cell? ⟨gb319, 1, none⟩ = some (.bool a0_1) := bc BK319 1; have hfz15_0 := blk_frozen BK319.out 0; have hfz15_1 := blk_frozen BK319.out 1) | (go_at_call 31; (with_reducible refine (Q1.calls k a0_0 a0_1 _ _ l1 false _ ?side1 ?side2 A3.out).mono ?_); (case side1 => exact cq (Kd.C_below HR1.out HB.out)); (case side2 => exact HC1.out); rintro e w16 ⟨rfl, hb⟩; replace BK319 := A_ (blk_below (bq BK319) hb); replace HB := A_ (below_step (hq HB) hb); clear hb)); try go_wp2_with (first | ((with_reducible refine gate_dst (N := 2) rfl ?_); refine bx (N := 2) #[.int .i64 a0_0, .bool a0_1] 25 ?_; intro gb319 hg w14 hbox hb; have BK319 := A_ (hbox); have GW319 := A_ (bs hg (hq HB) : w.heap.size ≤ gb319); have GE319 := A_ (bs hg (hq HB) : w.heap.size ≤ gb319); replace HB := A_ (below_step (hq HB) hb); clear hb hbox hg; have hcz15_0 : w14.cell? ⟨gb319, 0, none⟩ = some (.int .i64 a0_0) := bc BK319 0; have hcz15_1 : w14.cell? ⟨gb319, 1, none⟩ = some (.bool a0_1) := bc BK319 1; have hfz15_0 := blk_frozen BK319.out 0; have hfz15_1 := blk_frozen BK319.out 1) | (go_at_call 31; (with_reducible refine (Q1.calls k a0_0 a0_1 _ _ l1 false _ ?side1 ?side2 A3.out).mono ?_); (case side1 => exact cq (Kd.C_below HR1.out HB.out)); (case side2 => exact HC1.out); rintro e w16 ⟨rfl, hb⟩; replace BK319 := A_ (blk_below (bq BK319) hb); replace HB := A_ (below_step (hq HB) hb); clear hb)))
  go_ret2
  exact ⟨rt, hq HB⟩

end Go.Proofs.Ytbjpfnpleajhgaa.PFnWalks
