-- Told shorter still by shrink2.py.
-- Printed, and told shorter by this session's program shrink.py.
-- Printed by this session's program myprint.py.
import Derived.Test.YtbjpfnpleajhgadPFnToursx0
import Derived.Test.YtbjpfnpleajhgadPFnToursx3
import Derived.Test.YtbjpfnpleajhgadPFnToursx13
import Derived.Test.YtbjpfnpleajhgadPFnToursx14
namespace Go.Proofs.Ytbjpfnpleajhgad.PFnTours
open Go.RowKit Go.Proofs.Ytbjpfnpleajhgad.Own Go.Proofs.YtbjpfnpleajhgadW.PrintWords Go.Proofs.YtbjpfnpleajhgadW.PrintLast Go.Proofs.YtbjpfnpleajhgadW.PrintMore
attribute [local go_sem] max2_int min2_int max_two min_two max_three min_three max_four min_four   -- for this text's walks alone
set_option linter.unusedVariables false
set_option linter.unusedSimpArgs false

/-! ### spec_WaitWalk: function 17 -/
mutual
def Q11.j0 : Nat → List Int → Int → Int → Bool → Int → Bool → Option (List Int × Bool)
  | 0, _, _, _, _, _, _ => none
  | k + 1, x1, x2, x3, x28, x573000, x573001 => if x28 = true then (some ((([] : List Int)), false)) else (if 0 ≤ (wrap64 (x2 + 1)) then (if (wrap64 (x2 + 1)) ≤ (x1.length : Int) then ((Q46.f (x1.take ((wrap64 (x2 + 1)) : Int).toNat)).bind fun t580 => (Q11.l0 k x1 x2 x3 t580 0 x573000 x573001)) else (none)) else (none))
def Q11.l0 : Nat → List Int → Int → Int → List Int → Int → Int → Bool → Option (List Int × Bool)
  | 0, _, _, _, _, _, _, _ => none
  | k + 1, x1, x2, x3, x10, x11, x573000, x573001 => if x11 < x3 then (if 0 ≤ x2 then (if x2 < (x1.length : Int) then (if x10.length < 17592186044416 then (Q11.l0 k x1 x2 x3 (x10 ++ [rd x1 x2]) (wrap64 (x11 + 1)) x573000 x573001) else (none)) else (none)) else (none)) else (if 0 ≤ (wrap64 (x2 + 1)) then (if (wrap64 (x2 + 1)) ≤ (x1.length : Int) then (if x10.length + (x1.drop ((wrap64 (x2 + 1)) : Int).toNat).length < 17592186044416 then ((Q45.f k x573000 x573001 (x10 ++ (x1.drop ((wrap64 (x2 + 1)) : Int).toNat))).bind fun bt591 => (some (bt591.1, bt591.2))) else (none)) else (none)) else (none))
end
def Q11.f (k : Nat) (a0_0 : Int) (a0_1 : Bool) (l1 : List Int) (a2 : Int) (a3 : Int) : Option (List Int × Bool) := (Q3.f k a0_0 a0_1 l1).bind fun t573 => (if t573 = true then ((Q22.f a2 0 (wrap64 ((l1.length : Int) - 1))).bind fun t574 => (if t574 = true then ((Q22.f a3 0 60).bind fun t575 => (Q11.j0 k l1 a2 a3 (!t575) a0_0 a0_1)) else (Q11.j0 k l1 a2 a3 true a0_0 a0_1))) else (Q11.j0 k l1 a2 a3 true a0_0 a0_1))
def Q11.T8 : Bool × List (List Nat × List Nat) := (true, [([], []), ([], []), ([], []), ([], []), ([3], [3]), ([2, 4], [2, 4]), ([1, 5], [1, 5]), ([0, 6, 6], [0, 6]), ([7], [7]), ([7], [7]), ([8, 7, 0, 1, 2, 3, 4, 5, 6, 7, 8, 9], [8]), ([9, 10, 0, 1, 2, 3, 4, 5, 6, 7, 8, 9, 10], [9])])
def Q11.B8 : List Nat := [0, 0, 0, 0, 8, 28, 62, 127, 255, 255, 1023, 2047]
theorem Q11.tab8 : rtab .any (opsOf Try.f17 8) = Q11.T8 := by kernel_rfl
theorem Q11.bits8 : waitsOk Q11.T8.2 Q11.B8 = true := by kernel_rfl
set_option maxHeartbeats 8000000 in
set_option maxRecDepth 100000 in
theorem Q11.calls (k : Nat) (a0_0 : Int) (a0_1 : Bool) (A1 : Option Addr) (c1 : Nat) (l1 : List Int) (a2 : Int) (a3 : Int) (r1 : List Int) (r2 : Bool) (w : World) (hr1 : Kd.C (Kd.int .i64) w A1 l1.length l1) (hc1 : l1.length ≤ c1) (h : Q11.f k a0_0 a0_1 l1 a2 a3 = some (r1, r2)) :
    Calls Try.prog 17 #[.agg #[.int .i64 a0_0, .bool a0_1], .slice A1 l1.length c1, .int .i64 a2, .int .i64 a3] w fun e w' => ∃ v0_ : Value, e = .returned (.tuple #[v0_, .bool r2]) ∧ Kd.R (Kd.int .i64) 3 w' w.heap.size (fun _ => True) v0_ r1 ∧ Below w.heap.size w w' := by
 have hu25 := Try.underlying25; have HR1 := A_ hr1; have HC1 := A_ hc1; clear hr1 hc1; have HB := A_ (Below.refl w.heap.size w); have H : ((Q3.f k a0_0 a0_1 l1).bind fun t573 => (if t573 = true then ((Q22.f a2 0 (wrap64 ((l1.length : Int) - 1))).bind fun t574 => (if t574 = true then ((Q22.f a3 0 60).bind fun t575 => (Q11.j0 k l1 a2 a3 (!t575) a0_0 a0_1)) else (Q11.j0 k l1 a2 a3 true a0_0 a0_1))) else (Q11.j0 k l1 a2 a3 true a0_0 a0_1))) = some (r1, r2) := h; clear h; have HC5 := A_ H; clear H; go_enter Try.func17, Try.ntmps17
 go_upto_region 1 with (first | ((with_reducible refine gate_dst (N := 4) rfl ?_); (try (refine gate_guard (by rfl) ?_; dsimp only)); refine bx (N := 4) #[.int .i64 a0_0, .bool a0_1] 25 ?_; intro gb572 hg w6 hbox hb; have BK572 := A_ (hbox); have GW572 := A_ (bs hg (hq HB) : w.heap.size ≤ gb572); have GE572 := A_ (bs hg (hq HB) : w.heap.size ≤ gb572); replace HB := A_ (below_step (hq HB) hb); clear hb hbox hg))
 (try simp only [Act.put, List.setIfInBounds_toArray, List.set_cons_zero, List.set_cons_succ]); go_cut [28] (fun v28 wc => ∃ (kq : Nat) (x28_4 : Bool), v28 = .bool x28_4 ∧ Aside0 (Q11.j0 kq l1 a2 a3 x28_4 a0_0 a0_1 = some (r1, r2)) ∧ Aside0 (kq ≤ k) ∧ Aside0 (wc.heap[gb572]? = some (.cells #[.int .i64 a0_0, .bool a0_1] 25 (0, 0))) ∧ Aside0 (Below w.heap.size w wc))
 case first =>
  have H := HC5.out; clear HC5; replace H := bm H; obtain ⟨t573, A7, H⟩ := H; by_cases c8 : t573 = true
  ·
   subst c8
   have H1 : ((Q22.f a2 0 (wrap64 ((l1.length : Int) - 1))).bind fun t574 => (if t574 = true then ((Q22.f a3 0 60).bind fun t575 => (Q11.j0 k l1 a2 a3 (!t575) a0_0 a0_1)) else (Q11.j0 k l1 a2 a3 true a0_0 a0_1))) = some (r1, r2) := by rw [if_pos rfl] at H; exact H
   clear H; have H := H1; clear H1; replace H := bm H; obtain ⟨t574, A9, H⟩ := H; by_cases c10 : t574 = true
   ·
    subst c10
    have H1 : ((Q22.f a3 0 60).bind fun t575 => (Q11.j0 k l1 a2 a3 (!t575) a0_0 a0_1)) = some (r1, r2) := by rw [if_pos rfl] at H; exact H
    clear H; have H := H1; clear H1; replace H := bm H; obtain ⟨t575, A11, H⟩ := H; have H' := A_ H; clear H; have hcz12_0 : w6.cell? ⟨gb572, 0, none⟩ = some (.int .i64 a0_0) := bc BK572 0; have hcz12_1 : w6.cell? ⟨gb572, 1, none⟩ = some (.bool a0_1) := bc BK572 1; have hfz12_0 := blk_frozen BK572.out 0; have hfz12_1 := blk_frozen BK572.out 1; go_wp2_with (first | ((with_reducible refine gate_callee (f := 40) rfl ?_); refine gL (some 14) Try.func40 #[.agg #[.int .i64 a0_0, .bool a0_1], .slice A1 l1.length c1] ?_; (with_reducible refine (Q3.calls k a0_0 a0_1 _ _ l1 true _ ?side1 ?side2 A7.out).mono ?_); (case side1 => exact cq (Kd.C_below HR1.out HB.out)); (case side2 => exact HC1.out); rintro e w13 ⟨rfl, hb⟩; refine ⟨_, rfl, ?_⟩; replace BK572 := A_ (blk_below (bq BK572) hb); replace HB := A_ (below_step (hq HB) hb); clear hb) | (go_at_call 46; (with_reducible refine (Q22.calls a2 0 (wrap64 ((l1.length : Int) - 1)) true _ A9.out).mono ?_); rintro e w' ⟨rfl, ⟨nd, rfl⟩⟩) | (go_at_call 46; (with_reducible refine (Q22.calls a3 0 60 t575 _ A11.out).mono ?_); rintro e w' ⟨rfl, ⟨nd, rfl⟩⟩))
    go_meet
    case rel => exact ⟨_, (!t575), rf, H', ⟨by first | omega | exact Nat.le_refl _⟩, ⟨bq BK572⟩, ⟨hq HB⟩⟩
   ·
    replace c10 := Bool.eq_false_iff.mpr c10; subst c10
    have H1 : (Q11.j0 k l1 a2 a3 true a0_0 a0_1) = some (r1, r2) := by rw [if_neg (show ¬ (false = true) by decide)] at H; exact H
    clear H; have H := H1; clear H1; have H' := A_ H; clear H; have hcz14_0 : w6.cell? ⟨gb572, 0, none⟩ = some (.int .i64 a0_0) := bc BK572 0; have hcz14_1 : w6.cell? ⟨gb572, 1, none⟩ = some (.bool a0_1) := bc BK572 1; have hfz14_0 := blk_frozen BK572.out 0; have hfz14_1 := blk_frozen BK572.out 1; go_wp2_with (first | ((with_reducible refine gate_callee (f := 40) rfl ?_); refine gL (some 14) Try.func40 #[.agg #[.int .i64 a0_0, .bool a0_1], .slice A1 l1.length c1] ?_; (with_reducible refine (Q3.calls k a0_0 a0_1 _ _ l1 true _ ?side1 ?side2 A7.out).mono ?_); (case side1 => exact cq (Kd.C_below HR1.out HB.out)); (case side2 => exact HC1.out); rintro e w15 ⟨rfl, hb⟩; refine ⟨_, rfl, ?_⟩; replace BK572 := A_ (blk_below (bq BK572) hb); replace HB := A_ (below_step (hq HB) hb); clear hb) | (go_at_call 46; (with_reducible refine (Q22.calls a2 0 (wrap64 ((l1.length : Int) - 1)) false _ A9.out).mono ?_); rintro e w' ⟨rfl, ⟨nd, rfl⟩⟩))
    go_meet
    case rel => exact ⟨_, (true), rf, H', ⟨by first | omega | exact Nat.le_refl _⟩, ⟨bq BK572⟩, ⟨hq HB⟩⟩
  ·
   replace c8 := Bool.eq_false_iff.mpr c8; subst c8
   have H1 : (Q11.j0 k l1 a2 a3 true a0_0 a0_1) = some (r1, r2) := by rw [if_neg (show ¬ (false = true) by decide)] at H; exact H
   clear H; have H := H1; clear H1; have H' := A_ H; clear H; have hcz16_0 : w6.cell? ⟨gb572, 0, none⟩ = some (.int .i64 a0_0) := bc BK572 0; have hcz16_1 : w6.cell? ⟨gb572, 1, none⟩ = some (.bool a0_1) := bc BK572 1; have hfz16_0 := blk_frozen BK572.out 0; have hfz16_1 := blk_frozen BK572.out 1; go_wp2_with (first | ((with_reducible refine gate_callee (f := 40) rfl ?_); refine gL (some 14) Try.func40 #[.agg #[.int .i64 a0_0, .bool a0_1], .slice A1 l1.length c1] ?_; (with_reducible refine (Q3.calls k a0_0 a0_1 _ _ l1 false _ ?side1 ?side2 A7.out).mono ?_); (case side1 => exact cq (Kd.C_below HR1.out HB.out)); (case side2 => exact HC1.out); rintro e w17 ⟨rfl, hb⟩; refine ⟨_, rfl, ?_⟩; replace BK572 := A_ (blk_below (bq BK572) hb); replace HB := A_ (below_step (hq HB) hb); clear hb))
   go_meet
   case rel => exact ⟨_, (true), rf, H', ⟨by first | omega | exact Nat.le_refl _⟩, ⟨bq BK572⟩, ⟨hq HB⟩⟩
 case rest =>
  clear HC5; (try clear c8); (try clear c10); (try clear hcz12_0); (try clear hcz12_1); (try clear hcz14_0); (try clear hcz14_1); (try clear hcz16_0); (try clear hcz16_1); (try clear hfz12_0); (try clear hfz12_1); (try clear hfz14_0); (try clear hfz14_1); (try clear hfz16_0); (try clear hfz16_1); obtain ⟨kq, x28_4, rfl, HA, HJ4, BK572, HB⟩ := hcut
  cases kq with
  | zero => exact absurd HA.out (by simp [Q11.j0])
  | succ kj4 =>
   have H := HA.out; clear HA; simp only [Q11.j0] at H
   by_cases c18 : x28_4 = true
   ·
    subst c18
    have H1 : (some ((([] : List Int)), false)) = some (r1, r2) := by rw [if_pos rfl] at H; exact H
    clear H; have H := H1; clear H1
    obtain ⟨y576, hy576⟩ : ∃ y_ : List Int, y_ = (([] : List Int)) := ⟨_, rfl⟩
    replace H : (some (y576, false)) = some (r1, r2) := by first | (rw [hy576]; with_reducible exact H) | (have H2_ := (Option.bind_some _ _).symm.trans H; rw [hy576]; with_reducible exact H2_) | (have H2_ := (Option.bind_some _ _).symm.trans H; with_reducible exact H2_) | with_reducible exact H | (rw [hy576]; exact H) | exact H
    have Ny576 := A_ hy576; clear hy576; simp only [Option.some.injEq, Prod.mk.injEq] at H
    obtain ⟨rfl, rfl⟩ := H; go_wp2_with (first | ((with_reducible refine gate_dst (N := 29) rfl ?_); (try (refine gate_guard (by rfl) ?_; dsimp only)); refine Kd.R_lit (Kd.int .i64) _ 3 ?hg (N := 29) ?hd (xs := ([] : List Int)) (inner := []) (ok := fun _ => True) (okp := fun _ => True) ?hr ?hp (fun _ hk => hk) trivial (Below.refl _ _) (Nat.le_refl _) (by simp) ?_; (case hd => rfl); (case hg => rfl); (case hr => first | (go_simp; done) | (go_simp; rfl)); (case hp => exact (Reps.none _ _)); intro v577 w19 ho20 hb hg_ hnew_; clear hg_ hnew_; (first | rw [← Ny576.out] at ho20 | (simp only [Int.reduceToNat] at ho20; rw [← Ny576.out] at ho20)); have HO578 := A_ (Kd.R_lower ho20 (below_size (hq HB))); replace BK572 := A_ (blk_below (bq BK572) hb); replace HB := A_ (below_step (hq HB) hb); clear hb ho20))
    go_ret2
    exact ⟨_, rt, rq HO578, hq HB⟩
   ·
    replace c18 := Bool.eq_false_iff.mpr c18; subst c18
    have H1 : (if 0 ≤ (wrap64 (a2 + 1)) then (if (wrap64 (a2 + 1)) ≤ (l1.length : Int) then ((Q46.f (l1.take ((wrap64 (a2 + 1)) : Int).toNat)).bind fun t580 => (Q11.l0 kj4 l1 a2 a3 t580 0 a0_0 a0_1)) else (none)) else (none)) = some (r1, r2) := by rw [if_neg (show ¬ (false = true) by decide)] at H; exact H
    clear H; have H := H1; clear H1
    obtain ⟨ji21, hji21⟩ : ∃ j_ : Int, (wrap64 (a2 + 1)) = j_ := ⟨_, rfl⟩
    replace H : (if 0 ≤ (ji21) then (if (ji21) ≤ (l1.length : Int) then ((Q46.f (l1.take ((ji21) : Int).toNat)).bind fun t580 => (Q11.l0 kj4 l1 a2 a3 t580 0 a0_0 a0_1)) else (none)) else (none)) = some (r1, r2) := by first | (rw [hji21] at H; exact H) | (simp only [hji21] at H ⊢; exact H)
    have hji21w : (IntKind.i64.wrap (a2 + 1)) = ji21 := (i64_w _).trans hji21; by_cases c22 : 0 ≤ (ji21)
    ·
     rw [if_pos c22] at H; have c22b0 := eq_true c22; have c22b1 := decide_eq_true c22; clear c22; by_cases c23 : (ji21) ≤ (l1.length : Int)
     ·
      rw [if_pos c23] at H; have c23b0 := eq_true c23; have c23b1 := decide_eq_true c23; clear c23; replace H := bm H; obtain ⟨t580, A24, H⟩ := H; have H' := A_ H; clear H; obtain ⟨i025, hi025, _, hsz25, _⟩ := info_parts info3; obtain ⟨hcut25, hA25, hC25⟩ := print_take_of (P := Try.prog) (Value.int .i64) 0 26 3 .i64 Try.underlying26 hi025 hsz25 A1 c1 l1 (ji21) (dq) (dq) HC1.out; have HR579 := A_ (Kd.C_of_reads (h1 := fun _ => rfl) (hA25 _ (Kd.reads_of_C HR1.out))); have HC579 := A_ hC25; clear hA25 hC25 hi025 hsz25; go_wp2_with (first | ((with_reducible refine gate_callee (f := 42) rfl ?_); refine goesL_ (some 34) rfl rfl Try.func42 (by kernel_rfl) rfl #[.slice A1 (l1.take ((ji21) : Int).toNat).length c1] rfl (by (try simp only [List.map_toArray, List.map_cons, List.map_nil]); first | done | (rw [show (l1.take ((ji21) : Int).toNat).length = (ji21).toNat from (by rw [List.length_take]; have h_ : ((ji21) : Int) ≤ (l1.length : Int) := dq; omega)] <;> rfl) | (simp only [hji21]; rfl) | rfl | (simp only [List.length_drop, List.length_take]; rfl)) ?_; (with_reducible refine (Q46.calls _ _ (l1.take ((ji21) : Int).toNat) t580 _ ?side1 ?side2 A24.out).mono ?_); (case side1 => exact cq (Kd.C_below HR579.out HB.out)); (case side2 => exact HC579.out); rintro e w26 ⟨v581, rfl, ho0, hb⟩; refine ⟨_, rfl, ?_⟩; have HO582 := A_ (Kd.R_lower ho0 (below_size (hq HB))); replace BK572 := A_ (blk_below (bq BK572) hb); replace HB := A_ (below_step (hq HB) hb); clear hb ho0))
      go_loopg [10, 11] kj4 (fun kq v10 v11 w' => ∃ (x10_2 : List Int) (x11_2 : Int), v11 = .int .i64 x11_2 ∧ Aside0 (Q11.l0 kq l1 a2 a3 x10_2 x11_2 a0_0 a0_1 = some (r1, r2)) ∧ Aside0 (kq ≤ kj4) ∧ Aside0 (Kd.R (Kd.int .i64) 3 w' w.heap.size (fun _ => True) v10 x10_2) ∧ Aside0 (w'.heap[gb572]? = some (.cells #[.int .i64 a0_0, .bool a0_1] 25 (0, 0))) ∧ Aside0 (Below w.heap.size w w'))
      case atStart => exact ⟨(t580), (0), rf, H', ⟨Nat.le_refl _⟩, ⟨rq HO582⟩, ⟨bq BK572⟩, ⟨hq HB⟩⟩
      case round =>
       clear H'; (try clear c8); (try clear c10); (try clear c18); (try clear c22); (try clear c22b0); (try clear c22b1); (try clear c23); (try clear c23b0); (try clear c23b1); (try clear hcz12_0); (try clear hcz12_1); (try clear hcz14_0); (try clear hcz14_1); (try clear hcz16_0); (try clear hcz16_1); (try clear hfz12_0); (try clear hfz12_1); (try clear hfz14_0); (try clear hfz14_1); (try clear hfz16_0); (try clear hfz16_1); obtain ⟨x10_2, x11_2, rfl, HA, HK2, HO_10, BK572, HB⟩ := hrel
       cases gk with
       | zero => exact absurd HA.out (by simp [Q11.l0])
       | succ k2 =>
        have H := HA.out; clear HA; simp only [Q11.l0] at H
        by_cases c27 : x11_2 < a3
        ·
         rw [if_pos c27] at H; have c27b0 := decide_eq_true c27; clear c27; by_cases c28 : 0 ≤ a2
         ·
          rw [if_pos c28] at H; have c28b0 := decide_eq_true c28; clear c28; by_cases c29 : a2 < (l1.length : Int)
          ·
           rw [if_pos c29] at H; have c29b0 := decide_eq_true c29; clear c29; by_cases c30 : x10_2.length < 17592186044416
           ·
            rw [if_pos c30] at H; have LMc30 := A_ c30; clear c30
            obtain ⟨y584, hy584⟩ : ∃ y_ : List Int, y_ = (x10_2 ++ [rd l1 a2]) := ⟨_, rfl⟩
            replace H : (Q11.l0 k2 l1 a2 a3 y584 (wrap64 (x11_2 + 1)) a0_0 a0_1) = some (r1, r2) := by first | (rw [hy584]; with_reducible exact H) | (have H2_ := (Option.bind_some _ _).symm.trans H; rw [hy584]; with_reducible exact H2_) | (have H2_ := (Option.bind_some _ _).symm.trans H; with_reducible exact H2_) | with_reducible exact H | (rw [hy584]; exact H) | exact H
            have Ny584 := A_ hy584; clear hy584; have H' := A_ H; clear H; have p583 : 0 ≤ (a2 : Int) := dq; have q583 : a2 < (l1.length : Int) := dq; obtain ⟨ad583, e583, hx583_0⟩ := Kd.at_int HR1.out a2 p583 q583
            cases e583
            replace hx583_0 := (HB.out.cell (World.block_lt_of_cell? w _ hx583_0)).trans hx583_0; replace p583 := eq_true p583; replace q583 := eq_true q583; go_wp2_with (first | ((with_reducible refine gate_builtin (b := .append) (xs := #[.tmp 40, .tmp 45]) rfl ?_); (try (refine gate_guard (by rfl) ?_; dsimp only)); at_builtin; refine Kd.R_append (Kd.int .i64) (w0 := w) w.heap.size rfl (.tmp 40) (.tmp 45) 26 3 (.int .i64 0) 8 rfl Try.underlying26 info3 rfl (by decide) (by omega) u10 x10_2 (rd l1 a2) [.int .i64 (rd l1 a2)] (fun _ => True) (fun _ => False) rfl rfl ?aP (fun _ hk => hk.elim) ?aF ?aO ?aB ?aS ?aL ?_; (case aP => exact rfl); (case aB => exact (hq HB)); (case aF => exact (fun _ _ => trivial)); (case aO => exact (rq HO_10)); (case aS => exact (below_size (hq HB))); (case aL => have := LMc30.out; omega); intro v585 w31 ho hb hg hat; rw [← Ny584.out] at ho; have n0_ := A_ (blk_grown (g := gb572) (o := .cells #[.int .i64 a0_0, .bool a0_1] 25 (0, 0)) (bq BK572) hg (Kd.R_ne HO_10.out BK572.out (by decide))); have n1_ := A_ (hb); have n2_ := A_ (ho); clear BK572; clear HB; clear HO_10; have BK572 := n0_; have HB := n1_; have HO586 := n2_; clear n0_ n1_ n2_; clear ho hb hg hat))
            go_roundg k2
            case measure => have := HJ4.out; have := HK2.out; omega
            case rel => exact ⟨(y584), (wrap64 (x11_2 + 1)), rf, H', ⟨by have := HJ4.out; have := HK2.out; omega⟩, ⟨rq HO586⟩, ⟨bq BK572⟩, ⟨hq HB⟩⟩
           ·
            rw [if_neg c30] at H; exact absurd H (by simp)
          ·
           rw [if_neg c29] at H; exact absurd H (by simp)
         ·
          rw [if_neg c28] at H; exact absurd H (by simp)
        ·
         rw [if_neg c27] at H; have c27b0 := decide_eq_false c27; clear c27
         obtain ⟨ji32, hji32⟩ : ∃ j_ : Int, (wrap64 (a2 + 1)) = j_ := ⟨_, rfl⟩
         try (have hh_ := hji32.symm.trans hji21; subst hh_)
         replace H : (if 0 ≤ (ji32) then (if (ji32) ≤ (l1.length : Int) then (if x10_2.length + (l1.drop ((ji32) : Int).toNat).length < 17592186044416 then ((Q45.f k2 a0_0 a0_1 (x10_2 ++ (l1.drop ((ji32) : Int).toNat))).bind fun bt591 => (some (bt591.1, bt591.2))) else (none)) else (none)) else (none)) = some (r1, r2) := by first | (rw [hji32] at H; exact H) | (simp only [hji32] at H ⊢; exact H)
         have hji32w : (IntKind.i64.wrap (a2 + 1)) = ji32 := (i64_w _).trans hji32; by_cases c33 : 0 ≤ (ji32)
         ·
          rw [if_pos c33] at H; have c33b0 := eq_true c33; have c33b1 := decide_eq_true c33; clear c33; by_cases c34 : (ji32) ≤ (l1.length : Int)
          ·
           rw [if_pos c34] at H; have c34b0 := eq_true c34; have c34b1 := decide_eq_true c34; clear c34; by_cases c35 : x10_2.length + (l1.drop ((ji32) : Int).toNat).length < 17592186044416
           ·
            rw [if_pos c35] at H; have LMc35 := A_ c35; clear c35
            obtain ⟨y588, hy588⟩ : ∃ y_ : List Int, y_ = (x10_2 ++ (l1.drop ((ji32) : Int).toNat)) := ⟨_, rfl⟩
            replace H : ((Q45.f k2 a0_0 a0_1 y588).bind fun bt591 => (some (bt591.1, bt591.2))) = some (r1, r2) := by first | (rw [hy588]; with_reducible exact H) | (have H2_ := (Option.bind_some _ _).symm.trans H; rw [hy588]; with_reducible exact H2_) | (have H2_ := (Option.bind_some _ _).symm.trans H; with_reducible exact H2_) | with_reducible exact H | (rw [hy588]; exact H) | exact H
            have Ny588 := A_ hy588; clear hy588; replace H := bm H; obtain ⟨⟨t591, t594⟩, A36, H⟩ := H; (try dsimp only at H); simp only [Option.some.injEq, Prod.mk.injEq] at H
            obtain ⟨rfl, rfl⟩ := H; try go_wp2
            replace HO_10 := A_ (Kd.R_drew HO_10.out); replace BK572 := A_ (blk_drew BK572.out); replace HB := A_ (below_drew1 HB.out); obtain ⟨i038, hi038, _, hsz38, _⟩ := info_parts info3; obtain ⟨A38, hcut38, hA38, hC38⟩ := print_drop_of (P := Try.prog) (Value.int .i64) 0 26 3 .i64 Try.underlying26 hi038 hsz38 A1 c1 l1 (ji32) (dq) (dq) HC1.out; have HR587 := A_ (Kd.C_of_reads (h1 := fun _ => rfl) (hA38 _ (Kd.reads_of_C HR1.out))); have HC587 := A_ hC38; clear hA38 hC38 hi038 hsz38; refine start_ (n := 12) (S := fun w' => w'.cell? ⟨gb572, 0, none⟩ = some (.int .i64 a0_0) ∧ w'.cell? ⟨gb572, 1, none⟩ = some (.bool a0_1)) (ds := []) #[false, false, false, false, false, false, false, false, false, false, false, false] (by kernel_rfl) rfl rfl ⟨bc BK572 0, bc BK572 1⟩ (fun hHeld => ?_); refine with_tabW Q11.tab8 Q11.bits8 (fun HT_ HW_ => ?_); generalize wr.drew = w37 at HO_10 BK572 HB HR587 hHeld ⊢; refine puT (i := 1) (N := some 48) HT_ #[false, true, false, false, false, false, false, false, false, false, false, false] ?_; refine puT (i := 2) (N := some 49) HT_ #[false, true, true, false, false, false, false, false, false, false, false, false] ?_; refine puT (i := 3) (N := some 50) HT_ #[false, true, true, true, false, false, false, false, false, false, false, false] ?_; refine puT (i := 4) (N := some 51) HT_ #[false, true, true, true, true, false, false, false, false, false, false, false] ?_; refine puT (i := 5) (N := some 52) HT_ #[false, true, true, true, true, true, false, false, false, false, false, false] ?_; refine tkT (i := 0) (N := some 47) HT_ HW_ hHeld #[true, true, true, true, true, true, false, false, false, false, false, false] ?_; refine onT (i := 6) (N := some 53) HT_ #[true, true, true, true, true, true, true, false, false, false, false, false] (fun K hK => ?_); refine Kd.R_append_rows_step (Kd.int .i64) (w0 := w) w.heap.size (by rfl) (.tmp 48) (.tmp 52) 26 3 (.int .i64 0) 8 rfl Try.underlying26 info3 rfl (by decide) (by omega) u10 x10_2 (l1.drop ((ji32) : Int).toNat) _ _ _ (fun _ => True) (fun _ => False) rfl rfl ?aO ?aR (fun _ _ h => h) (fun _ h => h.elim) ?aF ?aB ?aS ?aL ?_; (case aR => first | (rw [← show (l1.drop ((ji32) : Int).toNat).length = (l1.length - (ji32).toNat) from List.length_drop]; repeat (first | exact (Kd.C_below HR587.out HB.out) | (with_reducible refine Kd.C_alloc ?_ _) | (with_reducible refine Kd.C_drewN ?_ _) | (with_reducible refine Kd.C_drew ?_))) | (repeat (first | exact (Kd.C_below HR587.out HB.out) | (with_reducible refine Kd.C_alloc ?_ _) | (with_reducible refine Kd.C_drewN ?_ _) | (with_reducible refine Kd.C_drew ?_)))); (case aB => exact (hq HB)); (case aF => exact (fun _ _ => trivial)); (case aO => exact (rq HO_10)); (case aS => exact (below_size (hq HB))); (case aL => have := LMc35.out; have hlx_ := (show (l1.drop ((ji32) : Int).toNat).length = (l1.length - (ji32).toNat) from List.length_drop); omega); intro v589 w39 ho hb hg hat; rw [← Ny588.out] at ho; have n0_ := A_ (blk_grown (g := gb572) (o := .cells #[.int .i64 a0_0, .bool a0_1] 25 (0, 0)) (bq BK572) hg (Kd.R_ne HO_10.out BK572.out (by decide))); have n1_ := A_ (hb); have n2_ := A_ (ho); clear BK572 HB HO_10; have BK572 := n0_; have HB := n1_; have HO590 := n2_; clear n0_ n1_ n2_ ho hb hg hat; obtain ⟨Ao40, co40, eo40⟩ := Kd.R_slice HO590.out; (first | subst eo40 | (injection eo40 with f1_ f2_ f3_; have f4_ := f1_.symm; have f5_ := f3_.symm; clear f1_ f2_ f3_; subst f4_; subst f5_)); refine hK.out _ _ ⟨bc BK572 0, bc BK572 1⟩ (fun hHeld => ?_); clear hK K; refine nq_ (some 53) ?_; refine onT (i := 7) (N := some 54) HT_ #[true, true, true, true, true, true, true, true, false, false, false, false] (fun K hK => ?_); refine go_ Try.func41 #[.agg #[.int .i64 a0_0, .bool a0_1], .slice Ao40 y588.length co40] ?_; with_reducible refine (Q45.calls k2 a0_0 a0_1 (fun k_ => some k_ = (.slice Ao40 y588.length co40 : Value).ownBlock) (.slice Ao40 y588.length co40) y588 t591 t594 w _ ?side1 ?side2 A36.out).mono ?_
            (case side1 => repeat (first | (with_reducible first | exact HB.out | apply below_alloc | apply pw_below_drewN | apply below_drew1 | refine below_set ?_ GE572.out) | exact HB.out)); (case side2 => exact Kd.R_tight rfl HO590.out); rintro e w41 ⟨v592, rfl, ho0, hb, hkp⟩; refine ⟨_, rfl, ?_⟩; have n0_ := A_ (blk_kept (bq BK572) hkp (fun hs_ => (fun e_ => (Kd.R_ne HO590.out BK572.out (by decide)) e_) hs_)); have n1_ := A_ (Kd.R_mono (ok' := fun k_ => True) ho0 (fun k_ hk_ => trivial)); have n2_ := A_ (hb); clear BK572 HB HO590; have BK572 := n0_; have HO593 := n1_; have HB := n2_; clear n0_ n1_ n2_; clear hb hkp ho0; refine hK.out _ _ ⟨bc BK572 0, bc BK572 1⟩ (fun hHeld => ?_); clear hK K; refine nq_ (some 54) ?_; refine puT (i := 8) (N := some 55) HT_ #[true, true, true, true, true, true, true, true, true, false, false, false] ?_; refine puT (i := 9) (N := some 56) HT_ #[true, true, true, true, true, true, true, true, true, true, false, false] ?_; refine puT (i := 10) (N := some 8) HT_ #[true, true, true, true, true, true, true, true, true, true, true, false] ?_; refine puT (i := 11) (N := some 9) HT_ #[true, true, true, true, true, true, true, true, true, true, true, true] ?_; refine done_ (done_of HT_.out (by kernel_rfl)) ?_; try go_wp2
            go_ret2
            exact ⟨_, by first | rfl | (simp [errW_none, errW_some] <;> rfl) | (simp only [← hji21, ← hji32]; first | rfl | (simp [errW_none, errW_some] <;> rfl)) | (simp [*, errW_none, errW_some] <;> rfl), rq HO593, hq HB⟩
           ·
            rw [if_neg c35] at H; exact absurd H (by simp)
          ·
           rw [if_neg c34] at H; exact absurd H (by simp)
         ·
          rw [if_neg c33] at H; exact absurd H (by simp)
     ·
      rw [if_neg c23] at H; exact absurd H (by simp)
    ·
     rw [if_neg c22] at H; exact absurd H (by simp)

/-! ### slices_Index_int_int: function 69 -/
def Q37.l0 : Nat → List Int → Int → Int → Int → Option (Int)
  | 0, _, _, _, _ => none
  | k + 1, x0, x1, x7, x8 => if x8 < x7 then (if 0 ≤ x8 then (if x8 < (x0.length : Int) then (if x1 = (rd x0 x8) then (some x8) else (Q37.l0 k x0 x1 x7 (wrap64 (x8 + 1)))) else (none)) else (none)) else (some (-1))
def Q37.f (k : Nat) (l0 : List Int) (a1 : Int) : Option (Int) := Q37.l0 k l0 a1 (l0.length : Int) 0
set_option maxHeartbeats 8000000 in
set_option maxRecDepth 100000 in
theorem Q37.calls (k : Nat) (A0 : Option Addr) (c0 : Nat) (l0 : List Int) (a1 : Int) (r : Int) (w : World) (hr0 : Kd.C (Kd.int .i64) w A0 l0.length l0) (hc0 : l0.length ≤ c0) (h : Q37.f k l0 a1 = some r) :
    Calls Try.prog 69 #[.slice A0 l0.length c0, .int .i64 a1] w fun e w' => e = .returned (.int .i64 r) ∧ Drawn0 w w' := by
 have HR0 := A_ hr0; have HC0 := A_ hc0; clear hr0 hc0; have H : (Q37.l0 k l0 a1 (l0.length : Int) 0) = some r := h; clear h; have H' := A_ H; clear H; go_enter Try.func69, Try.ntmps69
 go_wp2
 go_loopg [8] k (fun kq v8 w' => ∃ (x8_1 : Int), v8 = .int .i64 x8_1 ∧ Aside0 (Q37.l0 kq l0 a1 (l0.length : Int) x8_1 = some r) ∧ Aside0 (kq ≤ k) ∧ Drawn0 w w')
 case atStart => exact ⟨(0), rf, H', ⟨Nat.le_refl _⟩, by repeat (first | exact Drawn0.refl _ | apply Drawn0.step)⟩
 case round =>
  clear H'; obtain ⟨x8_1, rfl, HA, HK1, ⟨m1, rfl⟩⟩ := hrel
  cases gk with
  | zero => exact absurd HA.out (by simp [Q37.l0])
  | succ k1 =>
   have H := HA.out; clear HA; simp only [Q37.l0] at H
   by_cases c3 : x8_1 < (l0.length : Int)
   ·
    rw [if_pos c3] at H; have c3b0 := decide_eq_true c3; clear c3; by_cases c4 : 0 ≤ x8_1
    ·
     rw [if_pos c4] at H; have c4b0 := decide_eq_true c4; clear c4; by_cases c5 : x8_1 < (l0.length : Int)
     ·
      rw [if_pos c5] at H; have c5b0 := decide_eq_true c5; clear c5; by_cases c6 : a1 = (rd l0 x8_1)
      ·
       rw [if_pos c6] at H; have c6b0 : (a1 == (rd l0 x8_1)) = true := beq_iff_eq.mpr c6; have c6b1 : (a1 != (rd l0 x8_1)) = false := bne_eq_false_iff_eq.mpr c6; clear c6; obtain rfl := Option.some.inj H; have p595 : 0 ≤ (x8_1 : Int) := dq; have q595 : x8_1 < (l0.length : Int) := dq; obtain ⟨ad595, e595, hx595_0⟩ := Kd.at_int HR0.out x8_1 p595 q595
       cases e595
       replace p595 := eq_true p595; replace q595 := eq_true q595; go_wp2
       go_ret
       exact ⟨rf, by repeat (first | exact Drawn0.refl _ | apply Drawn0.step)⟩
      ·
       rw [if_neg c6] at H; have c6b0 : (a1 == (rd l0 x8_1)) = false := beq_eq_false_iff_ne.mpr c6; have c6b1 : (a1 != (rd l0 x8_1)) = true := bne_iff_ne.mpr c6; have H' := A_ H; clear H; have p595 : 0 ≤ (x8_1 : Int) := dq; have q595 : x8_1 < (l0.length : Int) := dq; obtain ⟨ad595, e595, hx595_0⟩ := Kd.at_int HR0.out x8_1 p595 q595
       cases e595
       replace p595 := eq_true p595; replace q595 := eq_true q595; go_wp2
       go_roundg k1
       case measure => have := HK1.out; omega
       case rel => exact ⟨(wrap64 (x8_1 + 1)), rf, H', ⟨by have := HK1.out; omega⟩, by repeat (first | exact Drawn0.refl _ | apply Drawn0.step)⟩
     ·
      rw [if_neg c5] at H; exact absurd H (by simp)
    ·
     rw [if_neg c4] at H; exact absurd H (by simp)
   ·
    rw [if_neg c3] at H; have c3b0 := decide_eq_false c3; clear c3; obtain rfl := Option.some.inj H; go_wp2
    go_ret
    exact ⟨rf, by repeat (first | exact Drawn0.refl _ | apply Drawn0.step)⟩

/-! ### impl_Road_firstVisits: function 47 -/
def Q33.l0 : Nat → List Int → List Int → Int → Int → Option (List Int)
  | 0, _, _, _, _ => none
  | k + 1, x1, x5, x9, x10 => if x10 < x9 then ((Q37.f k x1 x10).bind fun t600 => (if x5.length < 17592186044416 then (Q33.l0 k x1 (x5 ++ [t600]) x9 (wrap64 (x10 + 1))) else (none))) else (some x5)
def Q33.f (k : Nat) (a0_0 : Int) (a0_1 : Bool) (l1 : List Int) : Option (List Int) := Q33.l0 k l1 (([] : List Int)) a0_0 0
set_option maxHeartbeats 8000000 in
set_option maxRecDepth 100000 in
theorem Q33.calls (k : Nat) (a0_0 : Int) (a0_1 : Bool) (A1 : Option Addr) (c1 : Nat) (l1 : List Int) (r : List Int) (w : World) (hr1 : Kd.C (Kd.int .i64) w A1 l1.length l1) (hc1 : l1.length ≤ c1) (h : Q33.f k a0_0 a0_1 l1 = some r) :
    Calls Try.prog 47 #[.agg #[.int .i64 a0_0, .bool a0_1], .slice A1 l1.length c1] w fun e w' => ∃ v0_ : Value, e = .returned (v0_) ∧ Kd.R (Kd.int .i64) 3 w' w.heap.size (fun _ => True) v0_ r ∧ Below w.heap.size w w' := by
 have hu25 := Try.underlying25; have HR1 := A_ hr1; have HC1 := A_ hc1; clear hr1 hc1; have HB := A_ (Below.refl w.heap.size w); have H : (Q33.l0 k l1 (([] : List Int)) a0_0 0) = some r := h; clear h
 obtain ⟨y597, hy597⟩ : ∃ y_ : List Int, y_ = (([] : List Int)) := ⟨_, rfl⟩
 replace H : (Q33.l0 k l1 y597 a0_0 0) = some r := by first | (rw [hy597]; with_reducible exact H) | (have H2_ := (Option.bind_some _ _).symm.trans H; rw [hy597]; with_reducible exact H2_) | (have H2_ := (Option.bind_some _ _).symm.trans H; with_reducible exact H2_) | with_reducible exact H | (rw [hy597]; exact H) | exact H
 have Ny597 := A_ hy597; clear hy597; have H' := A_ H; clear H; go_enter Try.func47, Try.ntmps47
 go_wp2_with (first | ((with_reducible refine gate_dst (N := 2) rfl ?_); refine bx (N := 2) #[.int .i64 a0_0, .bool a0_1] 25 ?_; intro gb596 hg w3 hbox hb; have BK596 := A_ (hbox); have GW596 := A_ (bs hg (hq HB) : w.heap.size ≤ gb596); have GE596 := A_ (bs hg (hq HB) : w.heap.size ≤ gb596); replace HB := A_ (below_step (hq HB) hb); clear hb hbox hg) | ((with_reducible refine gate_dst (N := 7) rfl ?_); refine Kd.R_lit (Kd.int .i64) _ 3 ?hg (N := 7) ?hd (xs := ([] : List Int)) (inner := []) (ok := fun _ => True) (okp := fun _ => True) ?hr ?hp (fun _ hk => hk) trivial (Below.refl _ _) (Nat.le_refl _) (by simp) ?_; (case hd => rfl); (case hg => rfl); (case hr => first | (go_simp; done) | (go_simp; rfl)); (case hp => exact (Reps.none _ _)); intro v598 w4 ho5 hb hg_ hnew_; clear hg_ hnew_; (first | rw [← Ny597.out] at ho5 | (simp only [Int.reduceToNat] at ho5; rw [← Ny597.out] at ho5)); have HO599 := A_ (Kd.R_lower ho5 (below_size (hq HB))); replace BK596 := A_ (blk_below (bq BK596) hb); replace HB := A_ (below_step (hq HB) hb); clear hb ho5; have hcz6_0 : w4.cell? ⟨gb596, 0, none⟩ = some (.int .i64 a0_0) := bc BK596 0; have hcz6_1 : w4.cell? ⟨gb596, 1, none⟩ = some (.bool a0_1) := bc BK596 1; have hfz6_0 := blk_frozen BK596.out 0; have hfz6_1 := blk_frozen BK596.out 1))
 go_loopg [5, 10] k (fun kq v5 v10 w' => ∃ (x5_1 : List Int) (x10_1 : Int), v10 = .int .i64 x10_1 ∧ Aside0 (Q33.l0 kq l1 x5_1 a0_0 x10_1 = some r) ∧ Aside0 (kq ≤ k) ∧ Aside0 (Kd.R (Kd.int .i64) 3 w' w.heap.size (fun _ => True) v5 x5_1) ∧ Aside0 (w'.heap[gb596]? = some (.cells #[.int .i64 a0_0, .bool a0_1] 25 (0, 0))) ∧ Aside0 (Below w.heap.size w w'))
 case atStart => exact ⟨(y597), (0), rf, H', ⟨Nat.le_refl _⟩, ⟨rq HO599⟩, ⟨bq BK596⟩, ⟨hq HB⟩⟩
 case round =>
  clear H'; (try clear hcz6_0); (try clear hcz6_1); (try clear hfz6_0); (try clear hfz6_1); obtain ⟨x5_1, x10_1, rfl, HA, HK1, HO_5, BK596, HB⟩ := hrel
  cases gk with
  | zero => exact absurd HA.out (by simp [Q33.l0])
  | succ k1 =>
   have H := HA.out; clear HA; simp only [Q33.l0] at H
   by_cases c7 : x10_1 < a0_0
   ·
    rw [if_pos c7] at H; have c7b0 := decide_eq_true c7; clear c7; replace H := bm H; obtain ⟨t600, A8, H⟩ := H; by_cases c9 : x5_1.length < 17592186044416
    ·
     rw [if_pos c9] at H; have LMc9 := A_ c9; clear c9
     obtain ⟨y601, hy601⟩ : ∃ y_ : List Int, y_ = (x5_1 ++ [t600]) := ⟨_, rfl⟩
     replace H : (Q33.l0 k1 l1 y601 a0_0 (wrap64 (x10_1 + 1))) = some r := by first | (rw [hy601]; with_reducible exact H) | (have H2_ := (Option.bind_some _ _).symm.trans H; rw [hy601]; with_reducible exact H2_) | (have H2_ := (Option.bind_some _ _).symm.trans H; with_reducible exact H2_) | with_reducible exact H | (rw [hy601]; exact H) | exact H
     have Ny601 := A_ hy601; clear hy601; have H' := A_ H; clear H; go_wp2_with (first | ((with_reducible refine gate_callee (f := 69) rfl ?_); refine gL (some 16) Try.func69 #[.slice A1 l1.length c1, .int .i64 x10_1] ?_; (with_reducible refine (Q37.calls k1 _ _ l1 x10_1 t600 _ ?side1 ?side2 A8.out).mono ?_); (case side1 => exact cq (Kd.C_below HR1.out HB.out)); (case side2 => exact HC1.out); rintro e w' ⟨rfl, ⟨nd, rfl⟩⟩; refine ⟨_, rfl, ?_⟩) | ((with_reducible refine gate_builtin (b := .append) (xs := #[.tmp 13, .tmp 17]) rfl ?_); at_builtin; refine Kd.R_append (Kd.int .i64) (w0 := w) w.heap.size rfl (.tmp 13) (.tmp 17) 26 3 (.int .i64 0) 8 rfl Try.underlying26 info3 rfl (by decide) (by omega) u5 x5_1 t600 [.int .i64 t600] (fun _ => True) (fun _ => False) rfl rfl ?aP (fun _ hk => hk.elim) ?aF ?aO ?aB ?aS ?aL ?_; (case aP => exact rfl); (case aB => exact (hq HB)); (case aF => exact (fun _ _ => trivial)); (case aO => exact (rq HO_5)); (case aS => exact (below_size (hq HB))); (case aL => have := LMc9.out; omega); intro v602 w10 ho hb hg hat; rw [← Ny601.out] at ho; have n0_ := A_ (blk_grown (g := gb596) (o := .cells #[.int .i64 a0_0, .bool a0_1] 25 (0, 0)) (bq BK596) hg (Kd.R_ne HO_5.out BK596.out (by decide))); have n1_ := A_ (hb); have n2_ := A_ (ho); clear BK596; clear HB; clear HO_5; have BK596 := n0_; have HB := n1_; have HO603 := n2_; clear n0_ n1_ n2_; clear ho hb hg hat))
     go_roundg k1
     case measure => have := HK1.out; omega
     case rel => exact ⟨(y601), (wrap64 (x10_1 + 1)), rf, H', ⟨by have := HK1.out; omega⟩, ⟨rq HO603⟩, ⟨bq BK596⟩, ⟨hq HB⟩⟩
    ·
     rw [if_neg c9] at H; exact absurd H (by simp)
   ·
    rw [if_neg c7] at H; have c7b0 := decide_eq_false c7; clear c7; obtain rfl := Option.some.inj H; go_wp2
    go_ret
    exact ⟨_, rt, rq HO_5, hq HB⟩

/-! ### slices_Contains_int_int: function 48 -/
def Q50.f (k : Nat) (l0 : List Int) (a1 : Int) : Option (Bool) := (Q37.f k l0 a1).bind fun t604 => (some (decide (t604 ≥ 0)))
set_option maxHeartbeats 8000000 in
set_option maxRecDepth 100000 in
theorem Q50.calls (k : Nat) (A0 : Option Addr) (c0 : Nat) (l0 : List Int) (a1 : Int) (r : Bool) (w : World) (hr0 : Kd.C (Kd.int .i64) w A0 l0.length l0) (hc0 : l0.length ≤ c0) (h : Q50.f k l0 a1 = some r) :
    Calls Try.prog 48 #[.slice A0 l0.length c0, .int .i64 a1] w fun e w' => e = .returned (.bool r) ∧ Drawn0 w w' := by
 have HR0 := A_ hr0; have HC0 := A_ hc0; clear hr0 hc0; have H : ((Q37.f k l0 a1).bind fun t604 => (some (decide (t604 ≥ 0)))) = some r := h; clear h; replace H := bm H; obtain ⟨t604, A3, H⟩ := H; obtain rfl := Option.some.inj H; go_enter Try.func48, Try.ntmps48
 go_wp2_with (first | ((with_reducible refine gate_callee (f := 69) rfl ?_); refine gL (some 7) Try.func69 #[.slice A0 l0.length c0, .int .i64 a1] ?_; (with_reducible refine (Q37.calls k _ _ l0 a1 t604 _ ?side1 ?side2 A3.out).mono ?_); (case side1 => exact cq HR0.out); (case side2 => exact HC0.out); rintro e w' ⟨rfl, ⟨nd, rfl⟩⟩; refine ⟨_, rfl, ?_⟩))
 go_ret
 exact ⟨rf, by repeat (first | exact Drawn0.refl _ | apply Drawn0.step)⟩

/-! ### slices.Max at ints, where there is one at least -/
def Q47.f (k : Nat) (l0 : List Int) : Option Int := if 0 < (l0.length : Int) then some ((l0.drop 1).foldl mx (rd l0 0)) else none
set_option maxHeartbeats 8000000 in
set_option maxRecDepth 100000 in
theorem Q47.calls (k : Nat) (A0 : Option Addr) (c0 : Nat) (l0 : List Int) (r : Int) (w : World) (hr0 : Kd.C (Kd.int .i64) w A0 l0.length l0) (hc0 : l0.length ≤ c0) (h : Q47.f k l0 = some r) :
    Calls Try.prog 49 #[.slice A0 l0.length c0] w fun e w' => e = .returned (.int .i64 r) ∧ Below w.heap.size w w' := by
 unfold Q47.f at h; by_cases c : 0 < (l0.length : Int)
 ·
  rw [if_pos c] at h; have HI := A_ (Option.some.inj h); have HR0 := A_ hr0; have hmax : l0.length ≤ 9223372036854775807 := hr0.2.1; clear h hr0
  have p0 : 0 ≤ (0 : Int) := by omega
  obtain ⟨ad0, e0, hx0⟩ := Kd.at_int HR0.out 0 p0 c; subst e0; (try rw [show ((0 : Int)).toNat = 0 from rfl] at hx0); (try rw [Addr.add_zero'] at hx0); generalize hm0 : rd l0 0 = m0 at HI hx0; clear hm0
  have hlt1 : ¬ (l0.length : Int) < 1 := by omega
  have qi0 : (0 < l0.length) = True := eq_true (by omega); go_enter Try.func49, Try.ntmps49
  go_wp2
  go_loopg [3, 4] l0.length (fun gg s3 s4 wr => ∃ (kk : Nat) (m : Int), kk ≤ l0.length ∧ l0.length - kk ≤ gg ∧ s3 = .int .i64 m ∧ s4 = .int .i64 kk ∧ Aside0 (Below w.heap.size w wr) ∧ Aside0 ((l0.drop kk).foldl mx m = r))
  case atStart => exact ⟨1, m0, by omega, by omega, rfl, rfl, ⟨by repeat (first | exact Below.refl _ _ | apply pw_below_drewN | apply below_drew1)⟩, HI⟩
  case round =>
   clear HI hx0 qi0 hlt1; obtain ⟨kk, m, hkk, hg, rfl, rfl, HB, HI⟩ := hrel; by_cases hlt : kk < l0.length
   ·
    have hltz : (kk : Int) < (l0.length : Int) := by omega
    have hkz : 0 ≤ (kk : Int) := by omega
    obtain ⟨ad2, e2, hx2⟩ := Kd.at_int (Kd.C_below HR0.out HB.out) (kk : Int) hkz hltz
    cases e2
    rw [Int.toNat_natCast] at hx2; have h1 := HI.out; rw [List.drop_eq_getElem_cons hlt, show l0[kk] = rd l0 (kk : Int) by unfold rd; simp [List.getD_eq_getElem?_getD, List.getElem?_eq_getElem hlt], List.foldl_cons] at h1; have H2 := A_ h1; clear h1 HI; generalize hp : rd l0 (kk : Int) = p at *; go_wp2
    all_goals (go_roundg (l0.length - (kk + 1)); (case measure => omega); (case rel => exact ⟨kk + 1, mx m p, by omega, by omega, (by first | rfl | (unfold mx; split <;> first | rfl | (exfalso; omega))), by go_num, HB, H2⟩))
   ·
    have hltz : ¬ (kk : Int) < (l0.length : Int) := by omega
    have h1 := HI.out; rw [List.drop_of_length_le (by omega)] at h1; have H1 := A_ (show m = r from h1); clear h1 HI; go_wp2
    go_ret
    have h3 := H1.out; subst h3; exact ⟨rfl, HB.out⟩
 ·
  rw [if_neg c] at h; exact absurd h (by simp)

end Go.Proofs.Ytbjpfnpleajhgad.PFnTours
