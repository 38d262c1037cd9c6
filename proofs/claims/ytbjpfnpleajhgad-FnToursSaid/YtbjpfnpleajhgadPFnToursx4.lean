-- Told shorter still by shrink2.py.
-- Printed, and told shorter by this session's program shrink.py.
-- Printed by this session's program myprint.py.
import Derived.Test.YtbjpfnpleajhgadPFnToursx0
import Derived.Test.YtbjpfnpleajhgadPFnToursx1
import Derived.Test.YtbjpfnpleajhgadPFnToursx3
namespace Go.Proofs.Ytbjpfnpleajhgad.PFnTours
open Go.RowKit Go.Proofs.Ytbjpfnpleajhgad.Own Go.Proofs.YtbjpfnpleajhgadW.PrintWords Go.Proofs.YtbjpfnpleajhgadW.PrintLast Go.Proofs.YtbjpfnpleajhgadW.PrintMore
attribute [local go_sem] max2_int min2_int max_two min_two max_three min_three max_four min_four   -- for this text's walks alone
set_option linter.unusedVariables false
set_option linter.unusedSimpArgs false

/-! ### spec_TourTime: function 7 -/
mutual
def Q6.l0 : Nat → Int → List Int → Int → Int → Bool → Option (Int × Bool)
  | 0, _, _, _, _, _ => none
  | k + 1, x1, x2, x8, x244000, x244001 => if x8 < (x2.length : Int) then (if 0 ≤ x8 then ((Q18.f x244000 x244001 (rd x2 x8)).bind fun t246 => (if t246 = true then (Q6.l0 k x1 x2 (wrap64 (x8 + 1)) x244000 x244001) else (some (0, false)))) else (none)) else (if x244001 = true then (Q6.l2 k x1 x2 x244000 0 x244000 x244001) else (Q6.l1 k x1 x2 0 0 0))
def Q6.l2 : Nat → Int → List Int → Int → Int → Int → Bool → Option (Int × Bool)
  | 0, _, _, _, _, _, _ => none
  | k + 1, x1, x2, x12, x13, x244000, x244001 => if x13 < x244000 then (Q6.l3 k x1 x2 x12 x13 0 0 x244000 x244001) else (some (x12, true))
def Q6.l3 : Nat → Int → List Int → Int → Int → Int → Int → Int → Bool → Option (Int × Bool)
  | 0, _, _, _, _, _, _, _, _ => none
  | k + 1, x1, x2, x12, x13, x14, x15, x244000, x244001 => if x15 < (x2.length : Int) then (if 0 ≤ x15 then ((Q61.f x244000 x244001 x1 (rd x2 x15)).bind fun t255 => (if t255 > x13 then ((Q30.f x14 (wrap64 (x244000 - t255))).bind fun t256 => (Q6.l3 k x1 x2 x12 x13 t256 (wrap64 (x15 + 1)) x244000 x244001)) else (Q6.l3 k x1 x2 x12 x13 x14 (wrap64 (x15 + 1)) x244000 x244001))) else (none)) else ((Q56.f x14 x13).bind fun t252 => ((Q31.f x12 t252).bind fun t253 => (Q6.l2 k x1 x2 t253 (wrap64 (x13 + 1)) x244000 x244001)))
def Q6.l1 : Nat → Int → List Int → Int → Int → Int → Option (Int × Bool)
  | 0, _, _, _, _, _ => none
  | k + 1, x1, x2, x9, x10, x11 => if x11 < (x2.length : Int) then (if 0 ≤ x11 then ((Q30.f x9 (wrap64 (x1 - (rd x2 x11)))).bind fun t248 => ((Q30.f x10 (wrap64 ((rd x2 x11) - x1))).bind fun t250 => (Q6.l1 k x1 x2 t248 t250 (wrap64 (x11 + 1))))) else (none)) else ((Q56.f x9 x10).bind fun t251 => (some (t251, true)))
end
def Q6.f (k : Nat) (a0_0 : Int) (a0_1 : Bool) (a1 : Int) (l2 : List Int) : Option (Int × Bool) := (Q18.f a0_0 a0_1 a1).bind fun t244 => (if t244 = true then (Q6.l0 k a1 l2 0 a0_0 a0_1) else (some (0, false)))
def Q6.T24 : Bool × List (List Nat × List Nat) := (true, [([], []), ([], []), ([], []), ([], []), ([2, 3], [2, 3]), ([4], [4]), ([0, 1, 5], [0, 1, 5]), ([6, 6, 0, 1, 2, 3, 4, 5, 6], [6])])
def Q6.B24 : List Nat := [0, 0, 0, 0, 12, 28, 63, 127]
theorem Q6.tab24 : rtab .any (opsOf Try.f7 24) = Q6.T24 := by kernel_rfl
theorem Q6.bits24 : waitsOk Q6.T24.2 Q6.B24 = true := by kernel_rfl
set_option maxHeartbeats 8000000 in
set_option maxRecDepth 100000 in
theorem Q6.calls (k : Nat) (a0_0 : Int) (a0_1 : Bool) (a1 : Int) (A2 : Option Addr) (c2 : Nat) (l2 : List Int) (r1 : Int) (r2 : Bool) (w : World) (hr2 : Kd.C (Kd.int .i64) w A2 l2.length l2) (hc2 : l2.length ≤ c2) (h : Q6.f k a0_0 a0_1 a1 l2 = some (r1, r2)) :
    Calls Try.prog 7 #[.agg #[.int .i64 a0_0, .bool a0_1], .int .i64 a1, .slice A2 l2.length c2] w fun e w' => e = .returned (.tuple #[.int .i64 r1, .bool r2]) ∧ Below w.heap.size w w' := by
 have hu25 := Try.underlying25; have HR2 := A_ hr2; have HC2 := A_ hc2; clear hr2 hc2; have HB := A_ (Below.refl w.heap.size w); have H : ((Q18.f a0_0 a0_1 a1).bind fun t244 => (if t244 = true then (Q6.l0 k a1 l2 0 a0_0 a0_1) else (some (0, false)))) = some (r1, r2) := h; clear h; replace H := bm H; obtain ⟨t244, A4, H⟩ := H; by_cases c5 : t244 = true
 ·
  subst c5
  have H1 : (Q6.l0 k a1 l2 0 a0_0 a0_1) = some (r1, r2) := by rw [if_pos rfl] at H; exact H
  clear H; have H := H1; clear H1; have H' := A_ H; clear H; go_enter Try.func7, Try.ntmps7
  go_wp2_with (first | ((with_reducible refine gate_dst (N := 3) rfl ?_); refine bx (N := 3) #[.int .i64 a0_0, .bool a0_1] 25 ?_; intro gb243 hg w6 hbox hb; have BK243 := A_ (hbox); have GW243 := A_ (bs hg (hq HB) : w.heap.size ≤ gb243); have GE243 := A_ (bs hg (hq HB) : w.heap.size ≤ gb243); replace HB := A_ (below_step (hq HB) hb); clear hb hbox hg; have hcz7_0 : w6.cell? ⟨gb243, 0, none⟩ = some (.int .i64 a0_0) := bc BK243 0; have hcz7_1 : w6.cell? ⟨gb243, 1, none⟩ = some (.bool a0_1) := bc BK243 1; have hfz7_0 := blk_frozen BK243.out 0; have hfz7_1 := blk_frozen BK243.out 1) | ((with_reducible refine gate_callee (f := 27) rfl ?_); refine gL (some 19) Try.func27 #[.agg #[.int .i64 a0_0, .bool a0_1], .int .i64 a1] ?_; (with_reducible refine (Q18.calls a0_0 a0_1 a1 true _ A4.out).mono ?_); rintro e w8 ⟨rfl, hb⟩; refine ⟨_, rfl, ?_⟩; replace BK243 := A_ (blk_below (bq BK243) hb); replace HB := A_ (below_step (hq HB) hb); clear hb))
  go_loopg [8] k (fun kq v8 w' => ∃ (x8_1 : Int), v8 = .int .i64 x8_1 ∧ Aside0 (Q6.l0 kq a1 l2 x8_1 a0_0 a0_1 = some (r1, r2)) ∧ Aside0 (kq ≤ k) ∧ Aside0 (w'.heap[gb243]? = some (.cells #[.int .i64 a0_0, .bool a0_1] 25 (0, 0))) ∧ Aside0 (Below w.heap.size w w'))
  case atStart => exact ⟨(0), rf, H', ⟨Nat.le_refl _⟩, ⟨bq BK243⟩, ⟨hq HB⟩⟩
  case round =>
   clear H'; (try clear c5); (try clear hcz7_0); (try clear hcz7_1); (try clear hfz7_0); (try clear hfz7_1); obtain ⟨x8_1, rfl, HA, HK1, BK243, HB⟩ := hrel
   cases gk with
   | zero => exact absurd HA.out (by simp [Q6.l0])
   | succ k1 =>
    have H := HA.out; clear HA; simp only [Q6.l0] at H
    by_cases c9 : x8_1 < (l2.length : Int)
    ·
     rw [if_pos c9] at H; have c9b0 := decide_eq_true c9; clear c9; by_cases c10 : 0 ≤ x8_1
     ·
      rw [if_pos c10] at H; have c10b0 := decide_eq_true c10; clear c10; replace H := bm H; obtain ⟨t246, A11, H⟩ := H; by_cases c12 : t246 = true
      ·
       subst c12
       have H1 : (Q6.l0 k1 a1 l2 (wrap64 (x8_1 + 1)) a0_0 a0_1) = some (r1, r2) := by rw [if_pos rfl] at H; exact H
       clear H; have H := H1; clear H1; have H' := A_ H; clear H; try go_wp2
       replace BK243 := A_ (blk_drew BK243.out); replace HB := A_ (below_drew1 HB.out); have p245 : 0 ≤ (x8_1 : Int) := dq; have q245 : x8_1 < (l2.length : Int) := dq; obtain ⟨ad245, e245, hx245_0⟩ := Kd.at_int HR2.out x8_1 p245 q245; have hw245_0 := hx245_0
       cases e245
       replace hx245_0 := (HB.out.cell (World.block_lt_of_cell? w _ hx245_0)).trans hx245_0; replace p245 := eq_true p245; replace q245 := eq_true q245; refine start_ (n := 7) (S := fun w' => w'.cell? ⟨gb243, 0, none⟩ = some (.int .i64 a0_0) ∧ w'.cell? ⟨gb243, 1, none⟩ = some (.bool a0_1) ∧ w'.cell? (ad245.add (x8_1).toNat) = some (.int .i64 (rd l2 x8_1))) (ds := []) #[false, false, false, false, false, false, false] (by kernel_rfl) rfl rfl ⟨bc BK243 0, bc BK243 1, ((HB.out.cell (World.block_lt_of_cell? w _ hw245_0)).trans hw245_0)⟩ (fun hHeld => ?_); generalize wr.drew = w13 at BK243 HB hx245_0 hHeld ⊢; refine pu (i := 1) (N := some 28) #[false, true, false, false, false, false, false] ?_; refine pu (i := 2) (N := some 29) #[false, true, true, false, false, false, false] ?_; refine pu (i := 3) (N := some 30) #[false, true, true, true, false, false, false] ?_; refine tk (i := 0) (N := some 27) hHeld #[true, true, true, true, false, false, false] ?_; refine tk (i := 4) (N := some 31) hHeld #[true, true, true, true, true, false, false] ?_; refine on (i := 5) (N := some 32) #[true, true, true, true, true, true, false] (fun K hK => ?_); refine go_ Try.func27 #[.agg #[.int .i64 a0_0, .bool a0_1], .int .i64 (rd l2 x8_1)] ?_; with_reducible refine (Q18.calls a0_0 a0_1 (rd l2 x8_1) true _ A11.out).mono ?_
       rintro e w14 ⟨rfl, hb⟩; refine ⟨_, rfl, ?_⟩; replace BK243 := A_ (blk_below (bq BK243) hb); replace HB := A_ (below_step (hq HB) hb); clear hb; refine hK.out _ _ ⟨bc BK243 0, bc BK243 1, ((HB.out.cell (World.block_lt_of_cell? w _ hw245_0)).trans hw245_0)⟩ (fun hHeld => ?_); clear hK K; refine nq_ (some 32) ?_; refine pu (i := 6) (N := some 33) #[true, true, true, true, true, true, true] ?_; refine done_ (by kernel_rfl) ?_; try go_wp2
       go_roundg k1
       case measure => have := HK1.out; omega
       case rel => exact ⟨(wrap64 (x8_1 + 1)), rf, H', ⟨by have := HK1.out; omega⟩, ⟨bq BK243⟩, ⟨hq HB⟩⟩
      ·
       replace c12 := Bool.eq_false_iff.mpr c12; subst c12
       have H1 : (some (0, false)) = some (r1, r2) := by rw [if_neg (show ¬ (false = true) by decide)] at H; exact H
       clear H; have H := H1; clear H1; simp only [Option.some.injEq, Prod.mk.injEq] at H
       obtain ⟨rfl, rfl⟩ := H; try go_wp2
       replace BK243 := A_ (blk_drew BK243.out); replace HB := A_ (below_drew1 HB.out); have p245 : 0 ≤ (x8_1 : Int) := dq; have q245 : x8_1 < (l2.length : Int) := dq; obtain ⟨ad245, e245, hx245_0⟩ := Kd.at_int HR2.out x8_1 p245 q245; have hw245_0 := hx245_0
       cases e245
       replace hx245_0 := (HB.out.cell (World.block_lt_of_cell? w _ hx245_0)).trans hx245_0; replace p245 := eq_true p245; replace q245 := eq_true q245; refine start_ (n := 7) (S := fun w' => w'.cell? ⟨gb243, 0, none⟩ = some (.int .i64 a0_0) ∧ w'.cell? ⟨gb243, 1, none⟩ = some (.bool a0_1) ∧ w'.cell? (ad245.add (x8_1).toNat) = some (.int .i64 (rd l2 x8_1))) (ds := []) #[false, false, false, false, false, false, false] (by kernel_rfl) rfl rfl ⟨bc BK243 0, bc BK243 1, ((HB.out.cell (World.block_lt_of_cell? w _ hw245_0)).trans hw245_0)⟩ (fun hHeld => ?_); generalize wr.drew = w15 at BK243 HB hx245_0 hHeld ⊢; refine pu (i := 1) (N := some 28) #[false, true, false, false, false, false, false] ?_; refine pu (i := 2) (N := some 29) #[false, true, true, false, false, false, false] ?_; refine pu (i := 3) (N := some 30) #[false, true, true, true, false, false, false] ?_; refine tk (i := 0) (N := some 27) hHeld #[true, true, true, true, false, false, false] ?_; refine tk (i := 4) (N := some 31) hHeld #[true, true, true, true, true, false, false] ?_; refine on (i := 5) (N := some 32) #[true, true, true, true, true, true, false] (fun K hK => ?_); refine go_ Try.func27 #[.agg #[.int .i64 a0_0, .bool a0_1], .int .i64 (rd l2 x8_1)] ?_; with_reducible refine (Q18.calls a0_0 a0_1 (rd l2 x8_1) false _ A11.out).mono ?_
       rintro e w16 ⟨rfl, hb⟩; refine ⟨_, rfl, ?_⟩; replace BK243 := A_ (blk_below (bq BK243) hb); replace HB := A_ (below_step (hq HB) hb); clear hb; refine hK.out _ _ ⟨bc BK243 0, bc BK243 1, ((HB.out.cell (World.block_lt_of_cell? w _ hw245_0)).trans hw245_0)⟩ (fun hHeld => ?_); clear hK K; refine nq_ (some 32) ?_; refine pu (i := 6) (N := some 33) #[true, true, true, true, true, true, true] ?_; refine done_ (by kernel_rfl) ?_; try go_wp2
       go_ret2
       exact ⟨rt, hq HB⟩
     ·
      rw [if_neg c10] at H; exact absurd H (by simp)
    ·
     rw [if_neg c9] at H; have c9b0 := decide_eq_false c9; clear c9; by_cases c17 : a0_1 = true
     ·
      subst c17
      have H1 : (Q6.l2 k1 a1 l2 a0_0 0 a0_0 true) = some (r1, r2) := by rw [if_pos rfl] at H; exact H
      clear H; have H := H1; clear H1; have H' := A_ H; clear H; have hcz18_0 : wr.cell? ⟨gb243, 0, none⟩ = some (.int .i64 a0_0) := bc BK243 0; have hcz18_1 : wr.cell? ⟨gb243, 1, none⟩ = some (.bool true) := bc BK243 1; have hfz18_0 := blk_frozen BK243.out 0; have hfz18_1 := blk_frozen BK243.out 1; go_wp2
      go_loopg [12, 13] k1 (fun kq v12 v13 w' => ∃ (x12_2 : Int) (x13_2 : Int), v12 = .int .i64 x12_2 ∧ v13 = .int .i64 x13_2 ∧ Aside0 (Q6.l2 kq a1 l2 x12_2 x13_2 a0_0 true = some (r1, r2)) ∧ Aside0 (kq ≤ k1) ∧ Aside0 (w'.heap[gb243]? = some (.cells #[.int .i64 a0_0, .bool true] 25 (0, 0))) ∧ Aside0 (Below w.heap.size w w'))
      case atStart => exact ⟨(a0_0), (0), rf, rf, H', ⟨Nat.le_refl _⟩, ⟨bq BK243⟩, ⟨hq HB⟩⟩
      case round =>
       clear H'; (try clear c5); (try clear c9); (try clear c9b0); (try clear c10); (try clear c10b0); (try clear c12); (try clear c17); (try clear hcz18_0); (try clear hcz18_1); (try clear hcz7_0); (try clear hcz7_1); (try clear hfz18_0); (try clear hfz18_1); (try clear hfz7_0); (try clear hfz7_1); (try clear hx245_0); (try clear p245); (try clear q245); obtain ⟨x12_2, x13_2, rfl, rfl, HA, HK2, BK243, HB⟩ := hrel
       cases gk with
       | zero => exact absurd HA.out (by simp [Q6.l2])
       | succ k2 =>
        have H := HA.out; clear HA; simp only [Q6.l2] at H
        by_cases c19 : x13_2 < a0_0
        ·
         rw [if_pos c19] at H; have c19b0 := decide_eq_true c19; clear c19; have H' := A_ H; clear H; have hcz20_0 : wr.cell? ⟨gb243, 0, none⟩ = some (.int .i64 a0_0) := bc BK243 0; have hcz20_1 : wr.cell? ⟨gb243, 1, none⟩ = some (.bool true) := bc BK243 1; have hfz20_0 := blk_frozen BK243.out 0; have hfz20_1 := blk_frozen BK243.out 1; go_wp2
         go_loopg [14, 15] k2 (fun kq v14 v15 w' => ∃ (x14_3 : Int) (x15_3 : Int), v14 = .int .i64 x14_3 ∧ v15 = .int .i64 x15_3 ∧ Aside0 (Q6.l3 kq a1 l2 x12_2 x13_2 x14_3 x15_3 a0_0 true = some (r1, r2)) ∧ Aside0 (kq ≤ k2) ∧ Aside0 (w'.heap[gb243]? = some (.cells #[.int .i64 a0_0, .bool true] 25 (0, 0))) ∧ Aside0 (Below w.heap.size w w'))
         case atStart => exact ⟨(0), (0), rf, rf, H', ⟨Nat.le_refl _⟩, ⟨bq BK243⟩, ⟨hq HB⟩⟩
         case round =>
          clear H'; (try clear c5); (try clear c9); (try clear c9b0); (try clear c10); (try clear c10b0); (try clear c12); (try clear c17); (try clear c19); (try clear c19b0); (try clear hcz18_0); (try clear hcz18_1); (try clear hcz20_0); (try clear hcz20_1); (try clear hcz7_0); (try clear hcz7_1); (try clear hfz18_0); (try clear hfz18_1); (try clear hfz20_0); (try clear hfz20_1); (try clear hfz7_0); (try clear hfz7_1); (try clear hx245_0); (try clear p245); (try clear q245); obtain ⟨x14_3, x15_3, rfl, rfl, HA, HK3, BK243, HB⟩ := hrel
          cases gk with
          | zero => exact absurd HA.out (by simp [Q6.l3])
          | succ k3 =>
           have H := HA.out; clear HA; simp only [Q6.l3] at H
           by_cases c21 : x15_3 < (l2.length : Int)
           ·
            rw [if_pos c21] at H; have c21b0 := decide_eq_true c21; clear c21; by_cases c22 : 0 ≤ x15_3
            ·
             rw [if_pos c22] at H; have c22b0 := decide_eq_true c22; clear c22; replace H := bm H; obtain ⟨t255, A23, H⟩ := H; by_cases c24 : t255 > x13_2
             ·
              rw [if_pos c24] at H; have c24b0 : decide (x13_2 < t255) = true := decide_eq_true c24; clear c24; replace H := bm H; obtain ⟨t256, A25, H⟩ := H; have H' := A_ H; clear H; try go_wp2
              replace BK243 := A_ (blk_drew BK243.out); replace HB := A_ (below_drew1 HB.out); have p254 : 0 ≤ (x15_3 : Int) := dq; have q254 : x15_3 < (l2.length : Int) := dq; obtain ⟨ad254, e254, hx254_0⟩ := Kd.at_int HR2.out x15_3 p254 q254; have hw254_0 := hx254_0
              cases e254
              replace hx254_0 := (HB.out.cell (World.block_lt_of_cell? w _ hx254_0)).trans hx254_0; replace p254 := eq_true p254; replace q254 := eq_true q254; refine start_ (n := 8) (S := fun w' => w'.cell? ⟨gb243, 0, none⟩ = some (.int .i64 a0_0) ∧ w'.cell? ⟨gb243, 1, none⟩ = some (.bool true) ∧ w'.cell? (ad254.add (x15_3).toNat) = some (.int .i64 (rd l2 x15_3))) (ds := []) #[false, false, false, false, false, false, false, false] (by kernel_rfl) rfl rfl ⟨bc BK243 0, bc BK243 1, ((HB.out.cell (World.block_lt_of_cell? w _ hw254_0)).trans hw254_0)⟩ (fun hHeld => ?_); refine with_tabW Q6.tab24 Q6.bits24 (fun HT_ HW_ => ?_); generalize wr.drew = w26 at BK243 HB hx254_0 hHeld ⊢; refine puT (i := 1) (N := some 77) HT_ #[false, true, false, false, false, false, false, false] ?_; refine puT (i := 2) (N := some 78) HT_ #[false, true, true, false, false, false, false, false] ?_; refine puT (i := 3) (N := some 79) HT_ #[false, true, true, true, false, false, false, false] ?_; refine puT (i := 4) (N := some 80) HT_ #[false, true, true, true, true, false, false, false] ?_; refine tkT (i := 0) (N := some 76) HT_ HW_ hHeld #[true, true, true, true, true, false, false, false] ?_; refine tkT (i := 5) (N := some 81) HT_ HW_ hHeld #[true, true, true, true, true, true, false, false] ?_; refine onT (i := 6) (N := some 82) HT_ #[true, true, true, true, true, true, true, false] (fun K hK => ?_); refine go_ Try.func30 #[.agg #[.int .i64 a0_0, .bool true], .int .i64 a1, .int .i64 (rd l2 x15_3)] ?_; with_reducible refine (Q61.calls a0_0 true a1 (rd l2 x15_3) t255 _ A23.out).mono ?_
              rintro e w27 ⟨rfl, hb⟩; refine ⟨_, rfl, ?_⟩; replace BK243 := A_ (blk_below (bq BK243) hb); replace HB := A_ (below_step (hq HB) hb); clear hb; refine hK.out _ _ ⟨bc BK243 0, bc BK243 1, ((HB.out.cell (World.block_lt_of_cell? w _ hw254_0)).trans hw254_0)⟩ (fun hHeld => ?_); clear hK K; refine nq_ (some 82) ?_; refine puT (i := 7) (N := some 16) HT_ #[true, true, true, true, true, true, true, true] ?_; refine done_ (done_of HT_.out (by kernel_rfl)) ?_; have hcz28_0 : w27.cell? ⟨gb243, 0, none⟩ = some (.int .i64 a0_0) := bc BK243 0; have hcz28_1 : w27.cell? ⟨gb243, 1, none⟩ = some (.bool true) := bc BK243 1; have hfz28_0 := blk_frozen BK243.out 0; have hfz28_1 := blk_frozen BK243.out 1; try go_wp2_with (first | ((with_reducible refine gate_callee (f := 28) rfl ?_); refine gL (some 91) Try.func28 #[.int .i64 x14_3, .int .i64 (wrap64 (a0_0 - t255))] ?_; (with_reducible refine (Q30.calls x14_3 (wrap64 (a0_0 - t255)) t256 _ A25.out).mono ?_); rintro e w' ⟨rfl, ⟨nd, rfl⟩⟩; refine ⟨_, rfl, ?_⟩))
              go_roundg k3
              case measure => have := HK1.out; have := HK2.out; have := HK3.out; omega
              case rel => exact ⟨(t256), (wrap64 (x15_3 + 1)), rf, rf, H', ⟨by have := HK1.out; have := HK2.out; have := HK3.out; omega⟩, ⟨bq BK243⟩, ⟨hq HB⟩⟩
             ·
              rw [if_neg c24] at H; have c24b0 : decide (x13_2 < t255) = false := decide_eq_false c24; clear c24; have H' := A_ H; clear H; try go_wp2
              replace BK243 := A_ (blk_drew BK243.out); replace HB := A_ (below_drew1 HB.out); have p254 : 0 ≤ (x15_3 : Int) := dq; have q254 : x15_3 < (l2.length : Int) := dq; obtain ⟨ad254, e254, hx254_0⟩ := Kd.at_int HR2.out x15_3 p254 q254; have hw254_0 := hx254_0
              cases e254
              replace hx254_0 := (HB.out.cell (World.block_lt_of_cell? w _ hx254_0)).trans hx254_0; replace p254 := eq_true p254; replace q254 := eq_true q254; refine start_ (n := 8) (S := fun w' => w'.cell? ⟨gb243, 0, none⟩ = some (.int .i64 a0_0) ∧ w'.cell? ⟨gb243, 1, none⟩ = some (.bool true) ∧ w'.cell? (ad254.add (x15_3).toNat) = some (.int .i64 (rd l2 x15_3))) (ds := []) #[false, false, false, false, false, false, false, false] (by kernel_rfl) rfl rfl ⟨bc BK243 0, bc BK243 1, ((HB.out.cell (World.block_lt_of_cell? w _ hw254_0)).trans hw254_0)⟩ (fun hHeld => ?_); refine with_tabW Q6.tab24 Q6.bits24 (fun HT_ HW_ => ?_); generalize wr.drew = w29 at BK243 HB hx254_0 hHeld ⊢; refine puT (i := 1) (N := some 77) HT_ #[false, true, false, false, false, false, false, false] ?_; refine puT (i := 2) (N := some 78) HT_ #[false, true, true, false, false, false, false, false] ?_; refine puT (i := 3) (N := some 79) HT_ #[false, true, true, true, false, false, false, false] ?_; refine puT (i := 4) (N := some 80) HT_ #[false, true, true, true, true, false, false, false] ?_; refine tkT (i := 0) (N := some 76) HT_ HW_ hHeld #[true, true, true, true, true, false, false, false] ?_; refine tkT (i := 5) (N := some 81) HT_ HW_ hHeld #[true, true, true, true, true, true, false, false] ?_; refine onT (i := 6) (N := some 82) HT_ #[true, true, true, true, true, true, true, false] (fun K hK => ?_); refine go_ Try.func30 #[.agg #[.int .i64 a0_0, .bool true], .int .i64 a1, .int .i64 (rd l2 x15_3)] ?_; with_reducible refine (Q61.calls a0_0 true a1 (rd l2 x15_3) t255 _ A23.out).mono ?_
              rintro e w30 ⟨rfl, hb⟩; refine ⟨_, rfl, ?_⟩; replace BK243 := A_ (blk_below (bq BK243) hb); replace HB := A_ (below_step (hq HB) hb); clear hb; refine hK.out _ _ ⟨bc BK243 0, bc BK243 1, ((HB.out.cell (World.block_lt_of_cell? w _ hw254_0)).trans hw254_0)⟩ (fun hHeld => ?_); clear hK K; refine nq_ (some 82) ?_; refine puT (i := 7) (N := some 16) HT_ #[true, true, true, true, true, true, true, true] ?_; refine done_ (done_of HT_.out (by kernel_rfl)) ?_; try go_wp2
              go_roundg k3
              case measure => have := HK1.out; have := HK2.out; have := HK3.out; omega
              case rel => exact ⟨(x14_3), (wrap64 (x15_3 + 1)), rf, rf, H', ⟨by have := HK1.out; have := HK2.out; have := HK3.out; omega⟩, ⟨bq BK243⟩, ⟨hq HB⟩⟩
            ·
             rw [if_neg c22] at H; exact absurd H (by simp)
           ·
            rw [if_neg c21] at H; have c21b0 := decide_eq_false c21; clear c21; replace H := bm H; obtain ⟨t252, A31, H⟩ := H; replace H := bm H; obtain ⟨t253, A32, H⟩ := H; have H' := A_ H; clear H; go_wp2_with (first | ((with_reducible refine gate_callee (f := 29) rfl ?_); refine gL (some 95) Try.func29 #[.int .i64 x14_3, .int .i64 x13_2] ?_; (with_reducible refine (Q56.calls x14_3 x13_2 t252 _ A31.out).mono ?_); rintro e w' ⟨rfl, ⟨nd, rfl⟩⟩; refine ⟨_, rfl, ?_⟩) | ((with_reducible refine gate_callee (f := 31) rfl ?_); refine gL (some 96) Try.func31 #[.int .i64 x12_2, .int .i64 t252] ?_; (with_reducible refine (Q31.calls x12_2 t252 t253 _ A32.out).mono ?_); rintro e w' ⟨rfl, ⟨nd, rfl⟩⟩; refine ⟨_, rfl, ?_⟩))
            go_roundg k3
            case measure => have := HK1.out; have := HK2.out; have := HK3.out; omega
            case rel => exact ⟨(t253), (wrap64 (x13_2 + 1)), rf, rf, H', ⟨by have := HK1.out; have := HK2.out; have := HK3.out; omega⟩, ⟨bq BK243⟩, ⟨hq HB⟩⟩
        ·
         rw [if_neg c19] at H; have c19b0 := decide_eq_false c19; clear c19; simp only [Option.some.injEq, Prod.mk.injEq] at H
         obtain ⟨rfl, rfl⟩ := H; have hcz33_0 : wr.cell? ⟨gb243, 0, none⟩ = some (.int .i64 a0_0) := bc BK243 0; have hcz33_1 : wr.cell? ⟨gb243, 1, none⟩ = some (.bool true) := bc BK243 1; have hfz33_0 := blk_frozen BK243.out 0; have hfz33_1 := blk_frozen BK243.out 1; go_wp2
         go_ret2
         exact ⟨rt, hq HB⟩
     ·
      replace c17 := Bool.eq_false_iff.mpr c17; subst c17
      have H1 : (Q6.l1 k1 a1 l2 0 0 0) = some (r1, r2) := by rw [if_neg (show ¬ (false = true) by decide)] at H; exact H
      clear H; have H := H1; clear H1; have H' := A_ H; clear H; have hcz34_0 : wr.cell? ⟨gb243, 0, none⟩ = some (.int .i64 a0_0) := bc BK243 0; have hcz34_1 : wr.cell? ⟨gb243, 1, none⟩ = some (.bool false) := bc BK243 1; have hfz34_0 := blk_frozen BK243.out 0; have hfz34_1 := blk_frozen BK243.out 1; go_wp2
      go_loopg [9, 10, 11] k1 (fun kq v9 v10 v11 w' => ∃ (x9_2 : Int) (x10_2 : Int) (x11_2 : Int), v9 = .int .i64 x9_2 ∧ v10 = .int .i64 x10_2 ∧ v11 = .int .i64 x11_2 ∧ Aside0 (Q6.l1 kq a1 l2 x9_2 x10_2 x11_2 = some (r1, r2)) ∧ Aside0 (kq ≤ k1) ∧ Aside0 (w'.heap[gb243]? = some (.cells #[.int .i64 a0_0, .bool false] 25 (0, 0))) ∧ Aside0 (Below w.heap.size w w'))
      case atStart => exact ⟨(0), (0), (0), rf, rf, rf, H', ⟨Nat.le_refl _⟩, ⟨bq BK243⟩, ⟨hq HB⟩⟩
      case round =>
       clear H'; (try clear c5); (try clear c9); (try clear c9b0); (try clear c10); (try clear c10b0); (try clear c12); (try clear c17); (try clear c19); (try clear c19b0); (try clear c21); (try clear c21b0); (try clear c22); (try clear c22b0); (try clear c24); (try clear c24b0); (try clear hcz18_0); (try clear hcz18_1); (try clear hcz20_0); (try clear hcz20_1); (try clear hcz28_0); (try clear hcz28_1); (try clear hcz33_0); (try clear hcz33_1); (try clear hcz34_0); (try clear hcz34_1); (try clear hcz7_0); (try clear hcz7_1); (try clear hfz18_0); (try clear hfz18_1); (try clear hfz20_0); (try clear hfz20_1); (try clear hfz28_0); (try clear hfz28_1); (try clear hfz33_0); (try clear hfz33_1); (try clear hfz34_0); (try clear hfz34_1); (try clear hfz7_0); (try clear hfz7_1); (try clear hx245_0); (try clear hx254_0); (try clear p245); (try clear p254); (try clear q245); (try clear q254); obtain ⟨x9_2, x10_2, x11_2, rfl, rfl, rfl, HA, HK2, BK243, HB⟩ := hrel
       cases gk with
       | zero => exact absurd HA.out (by simp [Q6.l1])
       | succ k2 =>
        have H := HA.out; clear HA; simp only [Q6.l1] at H
        by_cases c35 : x11_2 < (l2.length : Int)
        ·
         rw [if_pos c35] at H; have c35b0 := decide_eq_true c35; clear c35; by_cases c36 : 0 ≤ x11_2
         ·
          rw [if_pos c36] at H; have c36b0 := decide_eq_true c36; clear c36; replace H := bm H; obtain ⟨t248, A37, H⟩ := H; replace H := bm H; obtain ⟨t250, A38, H⟩ := H; have H' := A_ H; clear H; have p247 : 0 ≤ (x11_2 : Int) := dq; have q247 : x11_2 < (l2.length : Int) := dq; obtain ⟨ad247, e247, hx247_0⟩ := Kd.at_int HR2.out x11_2 p247 q247
          cases e247
          replace hx247_0 := (HB.out.cell (World.block_lt_of_cell? w _ hx247_0)).trans hx247_0; replace p247 := eq_true p247; replace q247 := eq_true q247; go_wp2_with (first | ((with_reducible refine gate_callee (f := 28) rfl ?_); refine gL (some 50) Try.func28 #[.int .i64 x9_2, .int .i64 (wrap64 (a1 - (rd l2 x11_2)))] ?_; (with_reducible refine (Q30.calls x9_2 (wrap64 (a1 - (rd l2 x11_2))) t248 _ A37.out).mono ?_); rintro e w' ⟨rfl, ⟨nd, rfl⟩⟩; refine ⟨_, rfl, ?_⟩; have p249 : 0 ≤ (x11_2 : Int) := dq; have q249 : x11_2 < (l2.length : Int) := dq; obtain ⟨ad249, e249, hx249_0⟩ := Kd.at_int HR2.out x11_2 p249 q249; obtain rfl : ad247 = ad249 := (by injection e249); replace hx249_0 := (HB.out.cell (World.block_lt_of_cell? w _ hx249_0)).trans hx249_0; replace p249 := eq_true p249; replace q249 := eq_true q249) | ((with_reducible refine gate_callee (f := 28) rfl ?_); refine gL (some 58) Try.func28 #[.int .i64 x10_2, .int .i64 (wrap64 ((rd l2 x11_2) - a1))] ?_; (with_reducible refine (Q30.calls x10_2 (wrap64 ((rd l2 x11_2) - a1)) t250 _ A38.out).mono ?_); rintro e w' ⟨rfl, ⟨nd, rfl⟩⟩; refine ⟨_, rfl, ?_⟩))
          go_roundg k2
          case measure => have := HK1.out; have := HK2.out; omega
          case rel => exact ⟨(t248), (t250), (wrap64 (x11_2 + 1)), rf, rf, rf, H', ⟨by have := HK1.out; have := HK2.out; omega⟩, ⟨bq BK243⟩, ⟨hq HB⟩⟩
         ·
          rw [if_neg c36] at H; exact absurd H (by simp)
        ·
         rw [if_neg c35] at H; have c35b0 := decide_eq_false c35; clear c35; replace H := bm H; obtain ⟨t251, A39, H⟩ := H; simp only [Option.some.injEq, Prod.mk.injEq] at H
         obtain ⟨rfl, rfl⟩ := H; go_wp2_with (first | ((with_reducible refine gate_callee (f := 29) rfl ?_); refine gL (some 61) Try.func29 #[.int .i64 x9_2, .int .i64 x10_2] ?_; (with_reducible refine (Q56.calls x9_2 x10_2 t251 _ A39.out).mono ?_); rintro e w' ⟨rfl, ⟨nd, rfl⟩⟩; refine ⟨_, rfl, ?_⟩))
         go_ret2
         exact ⟨rt, hq HB⟩
 ·
  replace c5 := Bool.eq_false_iff.mpr c5; subst c5
  have H1 : (some (0, false)) = some (r1, r2) := by rw [if_neg (show ¬ (false = true) by decide)] at H; exact H
  clear H; have H := H1; clear H1; simp only [Option.some.injEq, Prod.mk.injEq] at H
  obtain ⟨rfl, rfl⟩ := H; go_enter Try.func7, Try.ntmps7
  go_wp2_with (first | ((with_reducible refine gate_dst (N := 3) rfl ?_); refine bx (N := 3) #[.int .i64 a0_0, .bool a0_1] 25 ?_; intro gb243 hg w40 hbox hb; have BK243 := A_ (hbox); have GW243 := A_ (bs hg (hq HB) : w.heap.size ≤ gb243); have GE243 := A_ (bs hg (hq HB) : w.heap.size ≤ gb243); replace HB := A_ (below_step (hq HB) hb); clear hb hbox hg; have hcz41_0 : w40.cell? ⟨gb243, 0, none⟩ = some (.int .i64 a0_0) := bc BK243 0; have hcz41_1 : w40.cell? ⟨gb243, 1, none⟩ = some (.bool a0_1) := bc BK243 1; have hfz41_0 := blk_frozen BK243.out 0; have hfz41_1 := blk_frozen BK243.out 1) | ((with_reducible refine gate_callee (f := 27) rfl ?_); refine gL (some 19) Try.func27 #[.agg #[.int .i64 a0_0, .bool a0_1], .int .i64 a1] ?_; (with_reducible refine (Q18.calls a0_0 a0_1 a1 false _ A4.out).mono ?_); rintro e w42 ⟨rfl, hb⟩; refine ⟨_, rfl, ?_⟩; replace BK243 := A_ (blk_below (bq BK243) hb); replace HB := A_ (below_step (hq HB) hb); clear hb))
  go_ret2
  exact ⟨rt, hq HB⟩

end Go.Proofs.Ytbjpfnpleajhgad.PFnTours
