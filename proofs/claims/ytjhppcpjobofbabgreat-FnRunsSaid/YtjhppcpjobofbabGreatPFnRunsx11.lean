-- Told shorter still by shrink2.py.
-- Printed, and told shorter by this session's program shrink.py.
-- Printed by this session's program myprint.py.
import Derived.Test.YtjhppcpjobofbabGreatPFnRunsx0
import Derived.Test.YtjhppcpjobofbabGreatPFnRunsx1
namespace Go.Proofs.YtjhppcpjobofbabGreat.PFnRuns
open Go.RowKit Go.Proofs.YtjhppcpjobofbabGreat.Own Go.Proofs.YtjhppcpjobofbabGreatW.PrintWords Go.Proofs.YtjhppcpjobofbabGreatW.PrintLast Go.Proofs.YtjhppcpjobofbabGreatW.PrintMore
attribute [local go_sem] max2_int min2_int max_two min_two max_three min_three max_four min_four   -- for this text's walks alone
set_option linter.unusedVariables false
set_option linter.unusedSimpArgs false

/-! ### spec_l6Run: function 46 -/
def Q27.l0 : Nat → Int → Int → List Int → Int → Int → Bool → Option (List Int)
  | 0, _, _, _, _, _, _ => none
  | k + 1, x1, x2, x7, x8, x470000, x470001 => if x8 < x2 then (if x470000 = 0 then (none) else (if x7.length < 17592186044416 then (Q27.l0 k x1 x2 (x7 ++ [Int.tmod (wrap64 (x1 + x8)) x470000]) (wrap64 (x8 + 1)) x470000 x470001) else (none))) else (some x7)
def Q27.f (k : Nat) (a0_0 : Int) (a0_1 : Bool) (a1 : Int) (a2 : Int) : Option (List Int) := Q27.l0 k a1 a2 (([] : List Int)) 0 a0_0 a0_1
set_option maxHeartbeats 8000000 in
set_option maxRecDepth 100000 in
theorem Q27.calls (k : Nat) (a0_0 : Int) (a0_1 : Bool) (a1 : Int) (a2 : Int) (r : List Int) (w : World) (h : Q27.f k a0_0 a0_1 a1 a2 = some r) :
    Calls Tryz.prog 46 #[.agg #[.int .i64 a0_0, .bool a0_1], .int .i64 a1, .int .i64 a2] w fun e w' => ∃ v0_ : Value, e = .returned (v0_) ∧ Kd.R (Kd.int .i64) 3 w' w.heap.size (fun _ => True) v0_ r ∧ Below w.heap.size w w' := by
 have hu25 := Tryz.underlying25; have HB := A_ (Below.refl w.heap.size w); have H : (Q27.l0 k a1 a2 (([] : List Int)) 0 a0_0 a0_1) = some r := h; clear h
 obtain ⟨y470, hy470⟩ : ∃ y_ : List Int, y_ = (([] : List Int)) := ⟨_, rfl⟩
 replace H : (Q27.l0 k a1 a2 y470 0 a0_0 a0_1) = some r := by first | (rw [hy470]; with_reducible exact H) | (have H2_ := (Option.bind_some _ _).symm.trans H; rw [hy470]; with_reducible exact H2_) | (have H2_ := (Option.bind_some _ _).symm.trans H; with_reducible exact H2_) | with_reducible exact H | (rw [hy470]; exact H) | exact H
 have Ny470 := A_ hy470; clear hy470; have H' := A_ H; clear H; go_enter Tryz.func46, Tryz.ntmps46
 go_wp2_with (first | ((with_reducible refine gate_dst (N := 3) rfl ?_); refine bx (N := 3) #[.int .i64 a0_0, .bool a0_1] 25 ?_; intro gb469 hg w4 hbox hb; have BK469 := A_ (hbox); have GW469 := A_ (bs hg (hq HB) : w.heap.size ≤ gb469); have GE469 := A_ (bs hg (hq HB) : w.heap.size ≤ gb469); replace HB := A_ (below_step (hq HB) hb); clear hb hbox hg) | ((with_reducible refine gate_dst (N := 9) rfl ?_); refine Kd.R_lit (Kd.int .i64) _ 3 ?hg (N := 9) ?hd (xs := ([] : List Int)) (inner := []) (ok := fun _ => True) (okp := fun _ => True) ?hr ?hp (fun _ hk => hk) trivial (Below.refl _ _) (Nat.le_refl _) (by simp) ?_; (case hd => rfl); (case hg => rfl); (case hr => first | (go_simp; done) | (go_simp; rfl)); (case hp => exact (Reps.none _ _)); intro v471 w5 ho6 hb hg_ hnew_; clear hg_ hnew_; (first | rw [← Ny470.out] at ho6 | (simp only [Int.reduceToNat] at ho6; rw [← Ny470.out] at ho6)); have HO472 := A_ (Kd.R_lower ho6 (below_size (hq HB))); replace BK469 := A_ (blk_below (bq BK469) hb); replace HB := A_ (below_step (hq HB) hb); clear hb ho6))
 go_loopg [7, 8] k (fun kq v7 v8 w' => ∃ (x7_1 : List Int) (x8_1 : Int), v8 = .int .i64 x8_1 ∧ Aside0 (Q27.l0 kq a1 a2 x7_1 x8_1 a0_0 a0_1 = some r) ∧ Aside0 (kq ≤ k) ∧ Aside0 (Kd.R (Kd.int .i64) 3 w' w.heap.size (fun _ => True) v7 x7_1) ∧ Aside0 (w'.heap[gb469]? = some (.cells #[.int .i64 a0_0, .bool a0_1] 25 (0, 0))) ∧ Aside0 (Below w.heap.size w w'))
 case atStart => exact ⟨(y470), (0), rf, H', ⟨Nat.le_refl _⟩, ⟨rq HO472⟩, ⟨bq BK469⟩, ⟨hq HB⟩⟩
 case round =>
  clear H'; obtain ⟨x7_1, x8_1, rfl, HA, HK1, HO_7, BK469, HB⟩ := hrel
  cases gk with
  | zero => exact absurd HA.out (by simp [Q27.l0])
  | succ k1 =>
   have H := HA.out; clear HA; simp only [Q27.l0] at H
   by_cases c7 : x8_1 < a2
   ·
    rw [if_pos c7] at H; have c7b0 := decide_eq_true c7; clear c7; by_cases c8 : a0_0 = 0
    ·
     rw [if_pos c8] at H; exact absurd H (by simp)
    ·
     rw [if_neg c8] at H; have c8b0 : (a0_0 == 0) = false := beq_eq_false_iff_ne.mpr c8; have c8b1 : (a0_0 != 0) = true := bne_iff_ne.mpr c8; by_cases c9 : x7_1.length < 17592186044416
     ·
      rw [if_pos c9] at H; have LMc9 := A_ c9; clear c9
      obtain ⟨y473, hy473⟩ : ∃ y_ : List Int, y_ = (x7_1 ++ [Int.tmod (wrap64 (a1 + x8_1)) a0_0]) := ⟨_, rfl⟩
      replace H : (Q27.l0 k1 a1 a2 y473 (wrap64 (x8_1 + 1)) a0_0 a0_1) = some r := by first | (rw [hy473]; with_reducible exact H) | (have H2_ := (Option.bind_some _ _).symm.trans H; rw [hy473]; with_reducible exact H2_) | (have H2_ := (Option.bind_some _ _).symm.trans H; with_reducible exact H2_) | with_reducible exact H | (rw [hy473]; exact H) | exact H
      have Ny473 := A_ hy473; clear hy473; have H' := A_ H; clear H; obtain ⟨hcz10_0, hcz10_1, hfz10_0, hfz10_1⟩ := zc4 BK469; go_wp2_with (first | ((with_reducible refine gate_builtin (b := .append) (xs := #[.tmp 15, .tmp 22]) rfl ?_); at_builtin; refine Kd.R_append (Kd.int .i64) (w0 := w) w.heap.size rfl (.tmp 15) (.tmp 22) 26 3 (.int .i64 0) 8 rfl Tryz.underlying26 info3 rfl (by decide) (by omega) u7 x7_1 (Int.tmod (wrap64 (a1 + x8_1)) a0_0) [.int .i64 (Int.tmod (wrap64 (a1 + x8_1)) a0_0)] (fun _ => True) (fun _ => False) rfl rfl ?aP (fun _ hk => hk.elim) ?aF ?aO ?aB ?aS ?aL ?_; (case aP => exact rfl); (case aB => exact (hq HB)); (case aF => exact (fun _ _ => trivial)); (case aO => exact (rq HO_7)); (case aS => exact (below_size (hq HB))); (case aL => have := LMc9.out; omega); intro v474 w11 ho hb hg hat; rw [← Ny473.out] at ho; have n0_ := A_ (blk_grown (g := gb469) (o := .cells #[.int .i64 a0_0, .bool a0_1] 25 (0, 0)) (bq BK469) hg (Kd.R_ne HO_7.out BK469.out (by decide))); have n1_ := A_ (hb); have n2_ := A_ (ho); clear BK469; clear HB; clear HO_7; have BK469 := n0_; have HB := n1_; have HO475 := n2_; clear n0_ n1_ n2_; clear ho hb hg hat))
      go_roundg k1
      case measure => have := HK1.out; omega
      case rel => exact ⟨(y473), (wrap64 (x8_1 + 1)), rf, H', ⟨by have := HK1.out; omega⟩, ⟨rq HO475⟩, ⟨bq BK469⟩, ⟨hq HB⟩⟩
     ·
      rw [if_neg c9] at H; exact absurd H (by simp)
   ·
    rw [if_neg c7] at H; have c7b0 := decide_eq_false c7; clear c7; obtain rfl := Option.some.inj H; go_wp2
    go_ret
    exact ⟨_, rt, rq HO_7, hq HB⟩

/-! ### spec_l2Far: function 85 -/
def Q58.f (a0_0 : Int) (a0_1 : Bool) (a1 : Int) (a2 : Int) : Option (Int) := if a0_0 = 0 then (none) else (some (Int.tmod (wrap64 ((wrap64 (a2 - a1)) + a0_0)) a0_0))
set_option maxHeartbeats 8000000 in
set_option maxRecDepth 100000 in
theorem Q58.calls (a0_0 : Int) (a0_1 : Bool) (a1 : Int) (a2 : Int) (r : Int) (w : World) (h : Q58.f a0_0 a0_1 a1 a2 = some r) :
    Calls Tryz.prog 85 #[.agg #[.int .i64 a0_0, .bool a0_1], .int .i64 a1, .int .i64 a2] w fun e w' => e = .returned (.int .i64 r) ∧ Below w.heap.size w w' := by
 have hu25 := Tryz.underlying25; have HB := A_ (Below.refl w.heap.size w); have H : (if a0_0 = 0 then (none) else (some (Int.tmod (wrap64 ((wrap64 (a2 - a1)) + a0_0)) a0_0))) = some r := h; clear h; by_cases c4 : a0_0 = 0
 ·
  rw [if_pos c4] at H; exact absurd H (by simp)
 ·
  rw [if_neg c4] at H; have c4b0 : (a0_0 == 0) = false := beq_eq_false_iff_ne.mpr c4; have c4b1 : (a0_0 != 0) = true := bne_iff_ne.mpr c4; obtain rfl := Option.some.inj H; go_enter Tryz.func85, Tryz.ntmps85
  go_wp2_with (first | ((with_reducible refine gate_dst (N := 3) rfl ?_); refine bx (N := 3) #[.int .i64 a0_0, .bool a0_1] 25 ?_; intro gb476 hg w5 hbox hb; have BK476 := A_ (hbox); have GW476 := A_ (bs hg (hq HB) : w.heap.size ≤ gb476); have GE476 := A_ (bs hg (hq HB) : w.heap.size ≤ gb476); replace HB := A_ (below_step (hq HB) hb); clear hb hbox hg; obtain ⟨hcz6_0, hcz6_1, hfz6_0, hfz6_1⟩ := zc4 BK476))
  go_ret
  exact ⟨rt, hq HB⟩

/-! ### spec_l6Back: function 70 -/
mutual
def Q10.l1 : Nat → Int → List Int → Int → Int → Int → Bool → Option (Int)
  | 0, _, _, _, _, _, _ => none
  | k + 1, x1, x2, x10, x11, x478000, x478001 => if x11 < x478000 then (Q10.l2 k x1 x2 x10 x11 0 0 x478000 x478001) else (some x10)
def Q10.l2 : Nat → Int → List Int → Int → Int → Int → Int → Int → Bool → Option (Int)
  | 0, _, _, _, _, _, _, _, _ => none
  | k + 1, x1, x2, x10, x11, x12, x13, x478000, x478001 => if x13 < (x2.length : Int) then (if 0 ≤ x13 then ((Q58.f x478000 x478001 x1 (rd x2 x13)).bind fun t484 => (if t484 > x11 then ((Q31.f x12 (wrap64 (x478000 - t484))).bind fun t485 => (Q10.l2 k x1 x2 x10 x11 t485 (wrap64 (x13 + 1)) x478000 x478001)) else (Q10.l2 k x1 x2 x10 x11 x12 (wrap64 (x13 + 1)) x478000 x478001))) else (none)) else ((Q37.f x10 (wrap64 (2 * (wrap64 (x12 + x11))))).bind fun t482 => (Q10.l1 k x1 x2 t482 (wrap64 (x11 + 1)) x478000 x478001))
def Q10.l0 : Nat → Int → List Int → Int → Int → Int → Option (Int)
  | 0, _, _, _, _, _ => none
  | k + 1, x1, x2, x7, x8, x9 => if x9 < (x2.length : Int) then (if 0 ≤ x9 then ((Q31.f x7 (wrap64 (x1 - (rd x2 x9)))).bind fun t479 => ((Q31.f x8 (wrap64 ((rd x2 x9) - x1))).bind fun t481 => (Q10.l0 k x1 x2 t479 t481 (wrap64 (x9 + 1))))) else (none)) else (some (wrap64 (2 * (wrap64 (x7 + x8)))))
end
def Q10.f (k : Nat) (a0_0 : Int) (a0_1 : Bool) (a1 : Int) (l2 : List Int) : Option (Int) := if a0_1 = true then (Q10.l1 k a1 l2 a0_0 0 a0_0 a0_1) else (Q10.l0 k a1 l2 0 0 0)
def Q10.T17 : Bool × List (List Nat × List Nat) := (true, [([], []), ([], []), ([], []), ([], []), ([2, 3], [2, 3]), ([4], [4]), ([0, 1, 5], [0, 1, 5]), ([6, 6, 0, 1, 2, 3, 4, 5, 6], [6])])
def Q10.B17 : List Nat := [0, 0, 0, 0, 12, 28, 63, 127]
theorem Q10.tab17 : rtab .any (opsOf Tryz.f70 17) = Q10.T17 := by kernel_rfl
theorem Q10.bits17 : waitsOk Q10.T17.2 Q10.B17 = true := by kernel_rfl
set_option maxHeartbeats 8000000 in
set_option maxRecDepth 100000 in
theorem Q10.calls (k : Nat) (a0_0 : Int) (a0_1 : Bool) (a1 : Int) (A2 : Option Addr) (c2 : Nat) (l2 : List Int) (r : Int) (w : World) (hr2 : Kd.C (Kd.int .i64) w A2 l2.length l2) (hc2 : l2.length ≤ c2) (h : Q10.f k a0_0 a0_1 a1 l2 = some r) :
    Calls Tryz.prog 70 #[.agg #[.int .i64 a0_0, .bool a0_1], .int .i64 a1, .slice A2 l2.length c2] w fun e w' => e = .returned (.int .i64 r) ∧ Below w.heap.size w w' := by
 have hu25 := Tryz.underlying25; have HR2 := A_ hr2; have HC2 := A_ hc2; clear hr2 hc2; have HB := A_ (Below.refl w.heap.size w); have H : (if a0_1 = true then (Q10.l1 k a1 l2 a0_0 0 a0_0 a0_1) else (Q10.l0 k a1 l2 0 0 0)) = some r := h; clear h; by_cases c4 : a0_1 = true
 ·
  subst c4
  rw [if_pos rfl] at H; have H' := A_ H; clear H; go_enter Tryz.func70, Tryz.ntmps70
  go_wp2_with (first | ((with_reducible refine gate_dst (N := 3) rfl ?_); refine bx (N := 3) #[.int .i64 a0_0, .bool true] 25 ?_; intro gb477 hg w5 hbox hb; have BK477 := A_ (hbox); have GW477 := A_ (bs hg (hq HB) : w.heap.size ≤ gb477); have GE477 := A_ (bs hg (hq HB) : w.heap.size ≤ gb477); replace HB := A_ (below_step (hq HB) hb); clear hb hbox hg; obtain ⟨hcz6_0, hcz6_1, hfz6_0, hfz6_1⟩ := zc4 BK477))
  go_loopg [10, 11] k (fun kq v10 v11 w' => ∃ (x10_1 : Int) (x11_1 : Int), v10 = .int .i64 x10_1 ∧ v11 = .int .i64 x11_1 ∧ Aside0 (Q10.l1 kq a1 l2 x10_1 x11_1 a0_0 true = some r) ∧ Aside0 (kq ≤ k) ∧ Aside0 (w'.heap[gb477]? = some (.cells #[.int .i64 a0_0, .bool true] 25 (0, 0))) ∧ Aside0 (Below w.heap.size w w'))
  case atStart => exact ⟨(a0_0), (0), rf, rf, H', ⟨Nat.le_refl _⟩, ⟨bq BK477⟩, ⟨hq HB⟩⟩
  case round =>
   clear H'; (try clear c4); (try clear hcz6_0); (try clear hcz6_1); (try clear hfz6_0); (try clear hfz6_1); obtain ⟨x10_1, x11_1, rfl, rfl, HA, HK1, BK477, HB⟩ := hrel
   cases gk with
   | zero => exact absurd HA.out (by simp [Q10.l1])
   | succ k1 =>
    have H := HA.out; clear HA; simp only [Q10.l1] at H
    by_cases c7 : x11_1 < a0_0
    ·
     rw [if_pos c7] at H; have c7b0 := decide_eq_true c7; clear c7; have H' := A_ H; clear H; obtain ⟨hcz8_0, hcz8_1, hfz8_0, hfz8_1⟩ := zc4 BK477; go_wp2
     go_loopg [12, 13] k1 (fun kq v12 v13 w' => ∃ (x12_2 : Int) (x13_2 : Int), v12 = .int .i64 x12_2 ∧ v13 = .int .i64 x13_2 ∧ Aside0 (Q10.l2 kq a1 l2 x10_1 x11_1 x12_2 x13_2 a0_0 true = some r) ∧ Aside0 (kq ≤ k1) ∧ Aside0 (w'.heap[gb477]? = some (.cells #[.int .i64 a0_0, .bool true] 25 (0, 0))) ∧ Aside0 (Below w.heap.size w w'))
     case atStart => exact ⟨(0), (0), rf, rf, H', ⟨Nat.le_refl _⟩, ⟨bq BK477⟩, ⟨hq HB⟩⟩
     case round =>
      clear H'; (try clear c4); (try clear c7); (try clear c7b0); (try clear hcz6_0); (try clear hcz6_1); (try clear hcz8_0); (try clear hcz8_1); (try clear hfz6_0); (try clear hfz6_1); (try clear hfz8_0); (try clear hfz8_1); obtain ⟨x12_2, x13_2, rfl, rfl, HA, HK2, BK477, HB⟩ := hrel
      cases gk with
      | zero => exact absurd HA.out (by simp [Q10.l2])
      | succ k2 =>
       have H := HA.out; clear HA; simp only [Q10.l2] at H
       by_cases c9 : x13_2 < (l2.length : Int)
       ·
        rw [if_pos c9] at H; have c9b0 := decide_eq_true c9; clear c9; by_cases c10 : 0 ≤ x13_2
        ·
         rw [if_pos c10] at H; have c10b0 := decide_eq_true c10; clear c10; replace H := bm H; obtain ⟨t484, A11, H⟩ := H; by_cases c12 : t484 > x11_1
         ·
          rw [if_pos c12] at H; have c12b0 : decide (x11_1 < t484) = true := decide_eq_true c12; clear c12; replace H := bm H; obtain ⟨t485, A13, H⟩ := H; have H' := A_ H; clear H; try go_wp2
          replace BK477 := A_ (blk_drew BK477.out); replace HB := A_ (below_drew1 HB.out); have p483 : 0 ≤ (x13_2 : Int) := dq; have q483 : x13_2 < (l2.length : Int) := dq; obtain ⟨ad483, e483, hx483_0⟩ := Kd.at_int HR2.out x13_2 p483 q483; have hw483_0 := hx483_0
          cases e483
          replace hx483_0 := (HB.out.cell (World.block_lt_of_cell? w _ hx483_0)).trans hx483_0; replace p483 := eq_true p483; replace q483 := eq_true q483; refine start_ (n := 8) (S := fun w' => w'.cell? ⟨gb477, 0, none⟩ = some (.int .i64 a0_0) ∧ w'.cell? ⟨gb477, 1, none⟩ = some (.bool true) ∧ w'.cell? (ad483.add (x13_2).toNat) = some (.int .i64 (rd l2 x13_2))) (ds := []) (bA 8 0) (by kernel_rfl) rfl rfl ⟨bc BK477 0, bc BK477 1, ((HB.out.cell (World.block_lt_of_cell? w _ hw483_0)).trans hw483_0)⟩ (fun hHeld => ?_); refine with_tabW Q10.tab17 Q10.bits17 (fun HT_ HW_ => ?_); generalize wr.drew = w14 at BK477 HB hx483_0 hHeld ⊢; refine puT (i := 1) (N := some 59) HT_ (bA 8 2) ?_; refine puT (i := 2) (N := some 60) HT_ (bA 8 6) ?_; refine puT (i := 3) (N := some 61) HT_ (bA 8 14) ?_; refine puT (i := 4) (N := some 62) HT_ (bA 8 30) ?_; refine tkT (i := 0) (N := some 58) HT_ HW_ hHeld (bA 8 31) ?_; refine tkT (i := 5) (N := some 63) HT_ HW_ hHeld (bA 8 63) ?_; refine onT (i := 6) (N := some 64) HT_ (bA 8 127) (fun K hK => ?_); refine go_ Tryz.func85 #[.agg #[.int .i64 a0_0, .bool true], .int .i64 a1, .int .i64 (rd l2 x13_2)] ?_; with_reducible refine (Q58.calls a0_0 true a1 (rd l2 x13_2) t484 _ A11.out).mono ?_
          rintro e w15 ⟨rfl, hb⟩; refine ⟨_, rfl, ?_⟩; replace BK477 := A_ (blk_below (bq BK477) hb); replace HB := A_ (below_step (hq HB) hb); clear hb; refine hK.out _ _ ⟨bc BK477 0, bc BK477 1, ((HB.out.cell (World.block_lt_of_cell? w _ hw483_0)).trans hw483_0)⟩ (fun hHeld => ?_); clear hK K; refine nq_ (some 64) ?_; refine puT (i := 7) (N := some 14) HT_ (bA 8 255) ?_; refine done_ (done_of HT_.out (by kernel_rfl)) ?_; obtain ⟨hcz16_0, hcz16_1, hfz16_0, hfz16_1⟩ := zc4 BK477; try go_wp2_with (first | ((with_reducible refine gate_callee (f := 51) rfl ?_); refine gL (some 73) Tryz.func51 #[.int .i64 x12_2, .int .i64 (wrap64 (a0_0 - t484))] ?_; (with_reducible refine (Q31.calls x12_2 (wrap64 (a0_0 - t484)) t485 _ A13.out).mono ?_); rintro e w' ⟨rfl, ⟨nd, rfl⟩⟩; refine ⟨_, rfl, ?_⟩))
          go_roundg k2
          case measure => have := HK1.out; have := HK2.out; omega
          case rel => exact ⟨(t485), (wrap64 (x13_2 + 1)), rf, rf, H', ⟨by have := HK1.out; have := HK2.out; omega⟩, ⟨bq BK477⟩, ⟨hq HB⟩⟩
         ·
          rw [if_neg c12] at H; have c12b0 : decide (x11_1 < t484) = false := decide_eq_false c12; clear c12; have H' := A_ H; clear H; try go_wp2
          replace BK477 := A_ (blk_drew BK477.out); replace HB := A_ (below_drew1 HB.out); have p483 : 0 ≤ (x13_2 : Int) := dq; have q483 : x13_2 < (l2.length : Int) := dq; obtain ⟨ad483, e483, hx483_0⟩ := Kd.at_int HR2.out x13_2 p483 q483; have hw483_0 := hx483_0
          cases e483
          replace hx483_0 := (HB.out.cell (World.block_lt_of_cell? w _ hx483_0)).trans hx483_0; replace p483 := eq_true p483; replace q483 := eq_true q483; refine start_ (n := 8) (S := fun w' => w'.cell? ⟨gb477, 0, none⟩ = some (.int .i64 a0_0) ∧ w'.cell? ⟨gb477, 1, none⟩ = some (.bool true) ∧ w'.cell? (ad483.add (x13_2).toNat) = some (.int .i64 (rd l2 x13_2))) (ds := []) (bA 8 0) (by kernel_rfl) rfl rfl ⟨bc BK477 0, bc BK477 1, ((HB.out.cell (World.block_lt_of_cell? w _ hw483_0)).trans hw483_0)⟩ (fun hHeld => ?_); refine with_tabW Q10.tab17 Q10.bits17 (fun HT_ HW_ => ?_); generalize wr.drew = w17 at BK477 HB hx483_0 hHeld ⊢; refine puT (i := 1) (N := some 59) HT_ (bA 8 2) ?_; refine puT (i := 2) (N := some 60) HT_ (bA 8 6) ?_; refine puT (i := 3) (N := some 61) HT_ (bA 8 14) ?_; refine puT (i := 4) (N := some 62) HT_ (bA 8 30) ?_; refine tkT (i := 0) (N := some 58) HT_ HW_ hHeld (bA 8 31) ?_; refine tkT (i := 5) (N := some 63) HT_ HW_ hHeld (bA 8 63) ?_; refine onT (i := 6) (N := some 64) HT_ (bA 8 127) (fun K hK => ?_); refine go_ Tryz.func85 #[.agg #[.int .i64 a0_0, .bool true], .int .i64 a1, .int .i64 (rd l2 x13_2)] ?_; with_reducible refine (Q58.calls a0_0 true a1 (rd l2 x13_2) t484 _ A11.out).mono ?_
          rintro e w18 ⟨rfl, hb⟩; refine ⟨_, rfl, ?_⟩; replace BK477 := A_ (blk_below (bq BK477) hb); replace HB := A_ (below_step (hq HB) hb); clear hb; refine hK.out _ _ ⟨bc BK477 0, bc BK477 1, ((HB.out.cell (World.block_lt_of_cell? w _ hw483_0)).trans hw483_0)⟩ (fun hHeld => ?_); clear hK K; refine nq_ (some 64) ?_; refine puT (i := 7) (N := some 14) HT_ (bA 8 255) ?_; refine done_ (done_of HT_.out (by kernel_rfl)) ?_; try go_wp2
          go_roundg k2
          case measure => have := HK1.out; have := HK2.out; omega
          case rel => exact ⟨(x12_2), (wrap64 (x13_2 + 1)), rf, rf, H', ⟨by have := HK1.out; have := HK2.out; omega⟩, ⟨bq BK477⟩, ⟨hq HB⟩⟩
        ·
         rw [if_neg c10] at H; exact absurd H (by simp)
       ·
        rw [if_neg c9] at H; have c9b0 := decide_eq_false c9; clear c9; replace H := bm H; obtain ⟨t482, A19, H⟩ := H; have H' := A_ H; clear H; go_wp2_with (first | ((with_reducible refine gate_callee (f := 47) rfl ?_); refine gL (some 79) Tryz.func47 #[.int .i64 x10_1, .int .i64 (wrap64 (2 * (wrap64 (x12_2 + x11_1))))] ?_; (with_reducible refine (Q37.calls x10_1 (wrap64 (2 * (wrap64 (x12_2 + x11_1)))) t482 _ A19.out).mono ?_); rintro e w' ⟨rfl, ⟨nd, rfl⟩⟩; refine ⟨_, rfl, ?_⟩))
        go_roundg k2
        case measure => have := HK1.out; have := HK2.out; omega
        case rel => exact ⟨(t482), (wrap64 (x11_1 + 1)), rf, rf, H', ⟨by have := HK1.out; have := HK2.out; omega⟩, ⟨bq BK477⟩, ⟨hq HB⟩⟩
    ·
     rw [if_neg c7] at H; have c7b0 := decide_eq_false c7; clear c7; obtain rfl := Option.some.inj H; obtain ⟨hcz20_0, hcz20_1, hfz20_0, hfz20_1⟩ := zc4 BK477; go_wp2
     go_ret
     exact ⟨rt, hq HB⟩
 ·
  replace c4 := Bool.eq_false_iff.mpr c4; subst c4
  rw [if_neg nf] at H; have H' := A_ H; clear H; go_enter Tryz.func70, Tryz.ntmps70
  go_wp2_with (first | ((with_reducible refine gate_dst (N := 3) rfl ?_); refine bx (N := 3) #[.int .i64 a0_0, .bool false] 25 ?_; intro gb477 hg w21 hbox hb; have BK477 := A_ (hbox); have GW477 := A_ (bs hg (hq HB) : w.heap.size ≤ gb477); have GE477 := A_ (bs hg (hq HB) : w.heap.size ≤ gb477); replace HB := A_ (below_step (hq HB) hb); clear hb hbox hg; obtain ⟨hcz22_0, hcz22_1, hfz22_0, hfz22_1⟩ := zc4 BK477))
  go_loopg [7, 8, 9] k (fun kq v7 v8 v9 w' => ∃ (x7_1 : Int) (x8_1 : Int) (x9_1 : Int), v7 = .int .i64 x7_1 ∧ v8 = .int .i64 x8_1 ∧ v9 = .int .i64 x9_1 ∧ Aside0 (Q10.l0 kq a1 l2 x7_1 x8_1 x9_1 = some r) ∧ Aside0 (kq ≤ k) ∧ Aside0 (w'.heap[gb477]? = some (.cells #[.int .i64 a0_0, .bool false] 25 (0, 0))) ∧ Aside0 (Below w.heap.size w w'))
  case atStart => exact ⟨(0), (0), (0), rf, rf, rf, H', ⟨Nat.le_refl _⟩, ⟨bq BK477⟩, ⟨hq HB⟩⟩
  case round =>
   clear H'; (try clear c4); (try clear c7); (try clear c7b0); (try clear c9); (try clear c9b0); (try clear c10); (try clear c10b0); (try clear c12); (try clear c12b0); (try clear hcz16_0); (try clear hcz16_1); (try clear hcz20_0); (try clear hcz20_1); (try clear hcz22_0); (try clear hcz22_1); (try clear hcz6_0); (try clear hcz6_1); (try clear hcz8_0); (try clear hcz8_1); (try clear hfz16_0); (try clear hfz16_1); (try clear hfz20_0); (try clear hfz20_1); (try clear hfz22_0); (try clear hfz22_1); (try clear hfz6_0); (try clear hfz6_1); (try clear hfz8_0); (try clear hfz8_1); (try clear hx483_0); (try clear p483); (try clear q483); obtain ⟨x7_1, x8_1, x9_1, rfl, rfl, rfl, HA, HK1, BK477, HB⟩ := hrel
   cases gk with
   | zero => exact absurd HA.out (by simp [Q10.l0])
   | succ k1 =>
    have H := HA.out; clear HA; simp only [Q10.l0] at H
    by_cases c23 : x9_1 < (l2.length : Int)
    ·
     rw [if_pos c23] at H; have c23b0 := decide_eq_true c23; clear c23; by_cases c24 : 0 ≤ x9_1
     ·
      rw [if_pos c24] at H; have c24b0 := decide_eq_true c24; clear c24; replace H := bm H; obtain ⟨t479, A25, H⟩ := H; replace H := bm H; obtain ⟨t481, A26, H⟩ := H; have H' := A_ H; clear H; have p478 : 0 ≤ (x9_1 : Int) := dq; have q478 : x9_1 < (l2.length : Int) := dq; obtain ⟨ad478, e478, hx478_0⟩ := Kd.at_int HR2.out x9_1 p478 q478
      cases e478
      replace hx478_0 := (HB.out.cell (World.block_lt_of_cell? w _ hx478_0)).trans hx478_0; replace p478 := eq_true p478; replace q478 := eq_true q478; go_wp2_with (first | ((with_reducible refine gate_callee (f := 51) rfl ?_); refine gL (some 31) Tryz.func51 #[.int .i64 x7_1, .int .i64 (wrap64 (a1 - (rd l2 x9_1)))] ?_; (with_reducible refine (Q31.calls x7_1 (wrap64 (a1 - (rd l2 x9_1))) t479 _ A25.out).mono ?_); rintro e w' ⟨rfl, ⟨nd, rfl⟩⟩; refine ⟨_, rfl, ?_⟩; have p480 : 0 ≤ (x9_1 : Int) := dq; have q480 : x9_1 < (l2.length : Int) := dq; obtain ⟨ad480, e480, hx480_0⟩ := Kd.at_int HR2.out x9_1 p480 q480; obtain rfl : ad478 = ad480 := (by injection e480); replace hx480_0 := (HB.out.cell (World.block_lt_of_cell? w _ hx480_0)).trans hx480_0; replace p480 := eq_true p480; replace q480 := eq_true q480) | ((with_reducible refine gate_callee (f := 51) rfl ?_); refine gL (some 39) Tryz.func51 #[.int .i64 x8_1, .int .i64 (wrap64 ((rd l2 x9_1) - a1))] ?_; (with_reducible refine (Q31.calls x8_1 (wrap64 ((rd l2 x9_1) - a1)) t481 _ A26.out).mono ?_); rintro e w' ⟨rfl, ⟨nd, rfl⟩⟩; refine ⟨_, rfl, ?_⟩))
      go_roundg k1
      case measure => have := HK1.out; omega
      case rel => exact ⟨(t479), (t481), (wrap64 (x9_1 + 1)), rf, rf, rf, H', ⟨by have := HK1.out; omega⟩, ⟨bq BK477⟩, ⟨hq HB⟩⟩
     ·
      rw [if_neg c24] at H; exact absurd H (by simp)
    ·
     rw [if_neg c23] at H; have c23b0 := decide_eq_false c23; clear c23; obtain rfl := Option.some.inj H; go_wp2
     go_ret
     exact ⟨rt, hq HB⟩

/-! ### spec_l2Tour: function 86 -/
def Q66.f (a0 : Int) (a1 : Int) : Option (Int) := (Q37.f a0 a1).bind fun t486 => (some (wrap64 ((wrap64 (a0 + a1)) + t486)))
set_option maxHeartbeats 8000000 in
set_option maxRecDepth 100000 in
theorem Q66.calls (a0 : Int) (a1 : Int) (r : Int) (w : World) (h : Q66.f a0 a1 = some r) :
    Calls Tryz.prog 86 #[.int .i64 a0, .int .i64 a1] w fun e w' => e = .returned (.int .i64 r) ∧ Drawn0 w w' := by
 have H : ((Q37.f a0 a1).bind fun t486 => (some (wrap64 ((wrap64 (a0 + a1)) + t486)))) = some r := h; clear h; replace H := bm H; obtain ⟨t486, A3, H⟩ := H; obtain rfl := Option.some.inj H; go_enter Tryz.func86, Tryz.ntmps86
 go_wp2_with (first | ((with_reducible refine gate_callee (f := 47) rfl ?_); refine gL (some 10) Tryz.func47 #[.int .i64 a0, .int .i64 a1] ?_; (with_reducible refine (Q37.calls a0 a1 t486 _ A3.out).mono ?_); rintro e w' ⟨rfl, ⟨nd, rfl⟩⟩; refine ⟨_, rfl, ?_⟩))
 go_ret
 exact ⟨rf, by repeat (first | exact Drawn0.refl _ | apply Drawn0.step)⟩

end Go.Proofs.YtjhppcpjobofbabGreat.PFnRuns
