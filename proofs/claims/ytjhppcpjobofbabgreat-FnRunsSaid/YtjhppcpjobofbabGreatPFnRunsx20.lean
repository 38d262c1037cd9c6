-- Told shorter still by shrink2.py.
-- Printed, and told shorter by this session's program shrink.py.
-- Printed by this session's program myprint.py.
import Derived.Test.YtjhppcpjobofbabGreatPFnRunsx0
import Derived.Test.YtjhppcpjobofbabGreatPFnRunsx4
import Derived.Test.YtjhppcpjobofbabGreatPFnRunsx6
namespace Go.Proofs.YtjhppcpjobofbabGreat.PFnRuns
open Go.RowKit Go.Proofs.YtjhppcpjobofbabGreat.Own Go.Proofs.YtjhppcpjobofbabGreatW.PrintWords Go.Proofs.YtjhppcpjobofbabGreatW.PrintLast Go.Proofs.YtjhppcpjobofbabGreatW.PrintMore
attribute [local go_sem] max2_int min2_int max_two min_two max_three min_three max_four min_four   -- for this text's walks alone
set_option linter.unusedVariables false
set_option linter.unusedSimpArgs false

/-! ### impl_TourTime: function 18 -/
def Q72.f (k : Nat) (a0_0 : Int) (a0_1 : Bool) (a1 : Int) (l2 : List Int) : Option (Int × Bool) := (Q20.f a0_0 a0_1).bind fun t720 => (if t720 = true then ((Q6.f k a0_0 a0_1 (([a1] : List Int))).bind fun t724 => (if t724 = true then ((Q6.f k a0_0 a0_1 l2).bind fun t725 => (if t725 = true then ((Q4.f k a0_0 a0_1 a1 l2).bind fun t726 => (some (t726, true))) else (some (0, false)))) else (some (0, false)))) else (some (0, false)))
set_option maxHeartbeats 8000000 in
set_option maxRecDepth 100000 in
theorem Q72.calls (k : Nat) (a0_0 : Int) (a0_1 : Bool) (a1 : Int) (A2 : Option Addr) (c2 : Nat) (l2 : List Int) (r1 : Int) (r2 : Bool) (w : World) (hr2 : Kd.C (Kd.int .i64) w A2 l2.length l2) (hc2 : l2.length ≤ c2) (h : Q72.f k a0_0 a0_1 a1 l2 = some (r1, r2)) :
    Calls Tryz.prog 18 #[.agg #[.int .i64 a0_0, .bool a0_1], .int .i64 a1, .slice A2 l2.length c2] w fun e w' => e = .returned (.tuple #[.int .i64 r1, .bool r2]) ∧ Below w.heap.size w w' := by
 have hu25 := Tryz.underlying25; have HR2 := A_ hr2; have HC2 := A_ hc2; clear hr2 hc2; have HB := A_ (Below.refl w.heap.size w); have H : ((Q20.f a0_0 a0_1).bind fun t720 => (if t720 = true then ((Q6.f k a0_0 a0_1 (([a1] : List Int))).bind fun t724 => (if t724 = true then ((Q6.f k a0_0 a0_1 l2).bind fun t725 => (if t725 = true then ((Q4.f k a0_0 a0_1 a1 l2).bind fun t726 => (some (t726, true))) else (some (0, false)))) else (some (0, false)))) else (some (0, false)))) = some (r1, r2) := h; clear h; replace H := bm H; obtain ⟨t720, A4, H⟩ := H; by_cases c5 : t720 = true
 ·
  subst c5
  have H1 : ((Q6.f k a0_0 a0_1 (([a1] : List Int))).bind fun t724 => (if t724 = true then ((Q6.f k a0_0 a0_1 l2).bind fun t725 => (if t725 = true then ((Q4.f k a0_0 a0_1 a1 l2).bind fun t726 => (some (t726, true))) else (some (0, false)))) else (some (0, false)))) = some (r1, r2) := by rw [if_pos rfl] at H; exact H
  clear H; have H := H1; clear H1
  obtain ⟨y721, hy721⟩ : ∃ y_ : List Int, y_ = (([a1] : List Int)) := ⟨_, rfl⟩
  replace H : ((Q6.f k a0_0 a0_1 y721).bind fun t724 => (if t724 = true then ((Q6.f k a0_0 a0_1 l2).bind fun t725 => (if t725 = true then ((Q4.f k a0_0 a0_1 a1 l2).bind fun t726 => (some (t726, true))) else (some (0, false)))) else (some (0, false)))) = some (r1, r2) := by first | (rw [hy721]; with_reducible exact H) | (have H2_ := (Option.bind_some _ _).symm.trans H; rw [hy721]; with_reducible exact H2_) | (have H2_ := (Option.bind_some _ _).symm.trans H; with_reducible exact H2_) | with_reducible exact H | (rw [hy721]; exact H) | exact H
  have Ny721 := A_ hy721; clear hy721; replace H := bm H; obtain ⟨t724, A6, H⟩ := H; by_cases c7 : t724 = true
  ·
   subst c7
   have H1 : ((Q6.f k a0_0 a0_1 l2).bind fun t725 => (if t725 = true then ((Q4.f k a0_0 a0_1 a1 l2).bind fun t726 => (some (t726, true))) else (some (0, false)))) = some (r1, r2) := by rw [if_pos rfl] at H; exact H
   clear H; have H := H1; clear H1; replace H := bm H; obtain ⟨t725, A8, H⟩ := H; by_cases c9 : t725 = true
   ·
    subst c9
    have H1 : ((Q4.f k a0_0 a0_1 a1 l2).bind fun t726 => (some (t726, true))) = some (r1, r2) := by rw [if_pos rfl] at H; exact H
    clear H; have H := H1; clear H1; replace H := bm H; obtain ⟨t726, A10, H⟩ := H; simp only [Option.some.injEq, Prod.mk.injEq] at H
    obtain ⟨rfl, rfl⟩ := H; go_enter Tryz.func18, Tryz.ntmps18
    go_wp2_with (first | ((with_reducible refine gate_dst (N := 3) rfl ?_); (try (refine gate_guard (by rfl) ?_; dsimp only)); refine bx (N := 3) #[.int .i64 a0_0, .bool a0_1] 25 ?_; intro gb719 hg w11 hbox hb; have BK719 := A_ (hbox); have GW719 := A_ (bs hg (hq HB) : w.heap.size ≤ gb719); have GE719 := A_ (bs hg (hq HB) : w.heap.size ≤ gb719); replace HB := A_ (below_step (hq HB) hb); clear hb hbox hg; obtain ⟨hcz12_0, hcz12_1, hfz12_0, hfz12_1⟩ := zc4 BK719) | ((with_reducible refine gate_callee (f := 42) rfl ?_); refine gL (some 9) Tryz.func42 #[.agg #[.int .i64 a0_0, .bool a0_1]] ?_; (with_reducible refine (Q20.calls a0_0 a0_1 true _ A4.out).mono ?_); rintro e w13 ⟨rfl, hb⟩; refine ⟨_, rfl, ?_⟩; replace BK719 := A_ (blk_below (bq BK719) hb); replace HB := A_ (below_step (hq HB) hb); clear hb; obtain ⟨hcz14_0, hcz14_1, hfz14_0, hfz14_1⟩ := zc4 BK719) | ((with_reducible refine gate_dst (N := 14) rfl ?_); (try (refine gate_guard (by rfl) ?_; dsimp only)); refine Kd.R_lit (Kd.int .i64) _ 3 ?hg (N := 14) ?hd (xs := ([a1] : List Int)) (inner := [.int .i64 a1]) (ok := fun _ => True) (okp := fun _ => True) ?hr ?hp (fun _ hk => hk) trivial (Below.refl _ _) (Nat.le_refl _) (by simp) ?_; (case hd => rfl); (case hg => rfl); (case hr => first | (go_simp; done) | (go_simp; rfl)); (case hp => exact (Reps.one (show Kd.M (Kd.int .i64) _ _ _ a1 [.int .i64 a1] from rfl) (Reps.none _ _))); intro v722 w15 ho16 hb hg_ hnew_; clear hg_ hnew_; (first | rw [← Ny721.out] at ho16 | (simp only [Int.reduceToNat] at ho16; rw [← Ny721.out] at ho16)); have HO723 := A_ (Kd.R_lower ho16 (below_size (hq HB))); replace BK719 := A_ (blk_below (bq BK719) hb); replace HB := A_ (below_step (hq HB) hb); clear hb ho16; obtain ⟨Ao17, co17, eo17⟩ := Kd.R_slice HO723.out; subst eo17) | (go_at_call 28; (with_reducible refine (Q6.calls k a0_0 a0_1 _ _ y721 true _ ?side1 ?side2 A6.out).mono ?_); (case side1 => exact cq (Kd.R_reads' HO723.out).2.2); (case side2 => exact (Kd.R_reads' HO723.out).2.1); rintro e w18 ⟨rfl, hb⟩; replace HO723 := A_ (Kd.R_below (rq HO723) hb); replace BK719 := A_ (blk_below (bq BK719) hb); replace HB := A_ (below_step (hq HB) hb); clear hb; obtain ⟨hcz19_0, hcz19_1, hfz19_0, hfz19_1⟩ := zc4 BK719) | (go_at_call 28; (with_reducible refine (Q6.calls k a0_0 a0_1 _ _ l2 true _ ?side1 ?side2 A8.out).mono ?_); (case side1 => exact cq (Kd.C_below HR2.out HB.out)); (case side2 => exact HC2.out); rintro e w20 ⟨rfl, hb⟩; replace HO723 := A_ (Kd.R_below (rq HO723) hb); replace BK719 := A_ (blk_below (bq BK719) hb); replace HB := A_ (below_step (hq HB) hb); clear hb; obtain ⟨hcz21_0, hcz21_1, hfz21_0, hfz21_1⟩ := zc4 BK719) | ((with_reducible refine gate_callee (f := 50) rfl ?_); refine gL (some 27) Tryz.func50 #[.agg #[.int .i64 a0_0, .bool a0_1], .int .i64 a1, .slice A2 l2.length c2] ?_; (with_reducible refine (Q4.calls k a0_0 a0_1 a1 _ _ l2 t726 _ ?side1 ?side2 A10.out).mono ?_); (case side1 => exact cq (Kd.C_below HR2.out HB.out)); (case side2 => exact HC2.out); rintro e w22 ⟨rfl, hb⟩; refine ⟨_, rfl, ?_⟩; replace HO723 := A_ (Kd.R_below (rq HO723) hb); replace BK719 := A_ (blk_below (bq BK719) hb); replace HB := A_ (below_step (hq HB) hb); clear hb))
    go_ret2
    exact ⟨rt, hq HB⟩
   ·
    replace c9 := Bool.eq_false_iff.mpr c9; subst c9
    have H1 : (some (0, false)) = some (r1, r2) := by rw [if_neg (show ¬ (false = true) by decide)] at H; exact H
    clear H; have H := H1; clear H1; simp only [Option.some.injEq, Prod.mk.injEq] at H
    obtain ⟨rfl, rfl⟩ := H; go_enter Tryz.func18, Tryz.ntmps18
    go_wp2_with (first | ((with_reducible refine gate_dst (N := 3) rfl ?_); (try (refine gate_guard (by rfl) ?_; dsimp only)); refine bx (N := 3) #[.int .i64 a0_0, .bool a0_1] 25 ?_; intro gb719 hg w23 hbox hb; have BK719 := A_ (hbox); have GW719 := A_ (bs hg (hq HB) : w.heap.size ≤ gb719); have GE719 := A_ (bs hg (hq HB) : w.heap.size ≤ gb719); replace HB := A_ (below_step (hq HB) hb); clear hb hbox hg; obtain ⟨hcz24_0, hcz24_1, hfz24_0, hfz24_1⟩ := zc4 BK719) | ((with_reducible refine gate_callee (f := 42) rfl ?_); refine gL (some 9) Tryz.func42 #[.agg #[.int .i64 a0_0, .bool a0_1]] ?_; (with_reducible refine (Q20.calls a0_0 a0_1 true _ A4.out).mono ?_); rintro e w25 ⟨rfl, hb⟩; refine ⟨_, rfl, ?_⟩; replace BK719 := A_ (blk_below (bq BK719) hb); replace HB := A_ (below_step (hq HB) hb); clear hb; obtain ⟨hcz26_0, hcz26_1, hfz26_0, hfz26_1⟩ := zc4 BK719) | ((with_reducible refine gate_dst (N := 14) rfl ?_); (try (refine gate_guard (by rfl) ?_; dsimp only)); refine Kd.R_lit (Kd.int .i64) _ 3 ?hg (N := 14) ?hd (xs := ([a1] : List Int)) (inner := [.int .i64 a1]) (ok := fun _ => True) (okp := fun _ => True) ?hr ?hp (fun _ hk => hk) trivial (Below.refl _ _) (Nat.le_refl _) (by simp) ?_; (case hd => rfl); (case hg => rfl); (case hr => first | (go_simp; done) | (go_simp; rfl)); (case hp => exact (Reps.one (show Kd.M (Kd.int .i64) _ _ _ a1 [.int .i64 a1] from rfl) (Reps.none _ _))); intro v722 w27 ho28 hb hg_ hnew_; clear hg_ hnew_; (first | rw [← Ny721.out] at ho28 | (simp only [Int.reduceToNat] at ho28; rw [← Ny721.out] at ho28)); have HO723 := A_ (Kd.R_lower ho28 (below_size (hq HB))); replace BK719 := A_ (blk_below (bq BK719) hb); replace HB := A_ (below_step (hq HB) hb); clear hb ho28; obtain ⟨Ao29, co29, eo29⟩ := Kd.R_slice HO723.out; subst eo29) | (go_at_call 28; (with_reducible refine (Q6.calls k a0_0 a0_1 _ _ y721 true _ ?side1 ?side2 A6.out).mono ?_); (case side1 => exact cq (Kd.R_reads' HO723.out).2.2); (case side2 => exact (Kd.R_reads' HO723.out).2.1); rintro e w30 ⟨rfl, hb⟩; replace HO723 := A_ (Kd.R_below (rq HO723) hb); replace BK719 := A_ (blk_below (bq BK719) hb); replace HB := A_ (below_step (hq HB) hb); clear hb; obtain ⟨hcz31_0, hcz31_1, hfz31_0, hfz31_1⟩ := zc4 BK719) | (go_at_call 28; (with_reducible refine (Q6.calls k a0_0 a0_1 _ _ l2 false _ ?side1 ?side2 A8.out).mono ?_); (case side1 => exact cq (Kd.C_below HR2.out HB.out)); (case side2 => exact HC2.out); rintro e w32 ⟨rfl, hb⟩; replace HO723 := A_ (Kd.R_below (rq HO723) hb); replace BK719 := A_ (blk_below (bq BK719) hb); replace HB := A_ (below_step (hq HB) hb); clear hb))
    go_ret2
    exact ⟨rt, hq HB⟩
  ·
   replace c7 := Bool.eq_false_iff.mpr c7; subst c7
   have H1 : (some (0, false)) = some (r1, r2) := by rw [if_neg (show ¬ (false = true) by decide)] at H; exact H
   clear H; have H := H1; clear H1; simp only [Option.some.injEq, Prod.mk.injEq] at H
   obtain ⟨rfl, rfl⟩ := H; go_enter Tryz.func18, Tryz.ntmps18
   go_wp2_with (first | ((with_reducible refine gate_dst (N := 3) rfl ?_); (try (refine gate_guard (by rfl) ?_; dsimp only)); refine bx (N := 3) #[.int .i64 a0_0, .bool a0_1] 25 ?_; intro gb719 hg w33 hbox hb; have BK719 := A_ (hbox); have GW719 := A_ (bs hg (hq HB) : w.heap.size ≤ gb719); have GE719 := A_ (bs hg (hq HB) : w.heap.size ≤ gb719); replace HB := A_ (below_step (hq HB) hb); clear hb hbox hg; obtain ⟨hcz34_0, hcz34_1, hfz34_0, hfz34_1⟩ := zc4 BK719) | ((with_reducible refine gate_callee (f := 42) rfl ?_); refine gL (some 9) Tryz.func42 #[.agg #[.int .i64 a0_0, .bool a0_1]] ?_; (with_reducible refine (Q20.calls a0_0 a0_1 true _ A4.out).mono ?_); rintro e w35 ⟨rfl, hb⟩; refine ⟨_, rfl, ?_⟩; replace BK719 := A_ (blk_below (bq BK719) hb); replace HB := A_ (below_step (hq HB) hb); clear hb; obtain ⟨hcz36_0, hcz36_1, hfz36_0, hfz36_1⟩ := zc4 BK719) | ((with_reducible refine gate_dst (N := 14) rfl ?_); (try (refine gate_guard (by rfl) ?_; dsimp only)); refine Kd.R_lit (Kd.int .i64) _ 3 ?hg (N := 14) ?hd (xs := ([a1] : List Int)) (inner := [.int .i64 a1]) (ok := fun _ => True) (okp := fun _ => True) ?hr ?hp (fun _ hk => hk) trivial (Below.refl _ _) (Nat.le_refl _) (by simp) ?_; (case hd => rfl); (case hg => rfl); (case hr => first | (go_simp; done) | (go_simp; rfl)); (case hp => exact (Reps.one (show Kd.M (Kd.int .i64) _ _ _ a1 [.int .i64 a1] from rfl) (Reps.none _ _))); intro v722 w37 ho38 hb hg_ hnew_; clear hg_ hnew_; (first | rw [← Ny721.out] at ho38 | (simp only [Int.reduceToNat] at ho38; rw [← Ny721.out] at ho38)); have HO723 := A_ (Kd.R_lower ho38 (below_size (hq HB))); replace BK719 := A_ (blk_below (bq BK719) hb); replace HB := A_ (below_step (hq HB) hb); clear hb ho38; obtain ⟨Ao39, co39, eo39⟩ := Kd.R_slice HO723.out; subst eo39) | (go_at_call 28; (with_reducible refine (Q6.calls k a0_0 a0_1 _ _ y721 false _ ?side1 ?side2 A6.out).mono ?_); (case side1 => exact cq (Kd.R_reads' HO723.out).2.2); (case side2 => exact (Kd.R_reads' HO723.out).2.1); rintro e w40 ⟨rfl, hb⟩; replace HO723 := A_ (Kd.R_below (rq HO723) hb); replace BK719 := A_ (blk_below (bq BK719) hb); replace HB := A_ (below_step (hq HB) hb); clear hb))
   go_ret2
   exact ⟨rt, hq HB⟩
 ·
  replace c5 := Bool.eq_false_iff.mpr c5; subst c5
  have H1 : (some (0, false)) = some (r1, r2) := by rw [if_neg (show ¬ (false = true) by decide)] at H; exact H
  clear H; have H := H1; clear H1; simp only [Option.some.injEq, Prod.mk.injEq] at H
  obtain ⟨rfl, rfl⟩ := H; go_enter Tryz.func18, Tryz.ntmps18
  go_wp2_with (first | ((with_reducible refine gate_dst (N := 3) rfl ?_); (try (refine gate_guard (by rfl) ?_; dsimp only)); refine bx (N := 3) #[.int .i64 a0_0, .bool a0_1] 25 ?_; intro gb719 hg w41 hbox hb; have BK719 := A_ (hbox); have GW719 := A_ (bs hg (hq HB) : w.heap.size ≤ gb719); have GE719 := A_ (bs hg (hq HB) : w.heap.size ≤ gb719); replace HB := A_ (below_step (hq HB) hb); clear hb hbox hg; obtain ⟨hcz42_0, hcz42_1, hfz42_0, hfz42_1⟩ := zc4 BK719) | ((with_reducible refine gate_callee (f := 42) rfl ?_); refine gL (some 9) Tryz.func42 #[.agg #[.int .i64 a0_0, .bool a0_1]] ?_; (with_reducible refine (Q20.calls a0_0 a0_1 false _ A4.out).mono ?_); rintro e w43 ⟨rfl, hb⟩; refine ⟨_, rfl, ?_⟩; replace BK719 := A_ (blk_below (bq BK719) hb); replace HB := A_ (below_step (hq HB) hb); clear hb))
  go_ret2
  exact ⟨rt, hq HB⟩

/-! ### laws_rSum: function 19 -/
def Q47.l0 : Nat → List Int → Int → Int → Option (Int)
  | 0, _, _, _ => none
  | k + 1, x0, x3, x4 => if x4 < (x0.length : Int) then (if 0 ≤ x4 then (Q47.l0 k x0 (wrap64 (x3 + (rd x0 x4))) (wrap64 (x4 + 1))) else (none)) else (some x3)
def Q47.f (k : Nat) (l0 : List Int) : Option (Int) := Q47.l0 k l0 0 0
set_option maxHeartbeats 8000000 in
set_option maxRecDepth 100000 in
theorem Q47.calls (k : Nat) (A0 : Option Addr) (c0 : Nat) (l0 : List Int) (r : Int) (w : World) (hr0 : Kd.C (Kd.int .i64) w A0 l0.length l0) (hc0 : l0.length ≤ c0) (h : Q47.f k l0 = some r) :
    Calls Tryz.prog 19 #[.slice A0 l0.length c0] w fun e w' => e = .returned (.int .i64 r) ∧ Drawn0 w w' := by
 have HR0 := A_ hr0; have HC0 := A_ hc0; clear hr0 hc0; have H : (Q47.l0 k l0 0 0) = some r := h; clear h; have H' := A_ H; clear H; go_enter Tryz.func19, Tryz.ntmps19
 go_wp2
 go_loopg [3, 4] k (fun kq v3 v4 w' => ∃ (x3_1 : Int) (x4_1 : Int), v3 = .int .i64 x3_1 ∧ v4 = .int .i64 x4_1 ∧ Aside0 (Q47.l0 kq l0 x3_1 x4_1 = some r) ∧ Aside0 (kq ≤ k) ∧ Drawn0 w w')
 case atStart => exact ⟨(0), (0), rf, rf, H', ⟨Nat.le_refl _⟩, by repeat (first | exact Drawn0.refl _ | apply Drawn0.step)⟩
 case round =>
  clear H'; obtain ⟨x3_1, x4_1, rfl, rfl, HA, HK1, ⟨m1, rfl⟩⟩ := hrel
  cases gk with
  | zero => exact absurd HA.out (by simp [Q47.l0])
  | succ k1 =>
   have H := HA.out; clear HA; simp only [Q47.l0] at H
   by_cases c2 : x4_1 < (l0.length : Int)
   ·
    rw [if_pos c2] at H; have c2b0 := decide_eq_true c2; clear c2; by_cases c3 : 0 ≤ x4_1
    ·
     rw [if_pos c3] at H; have c3b0 := decide_eq_true c3; clear c3; have H' := A_ H; clear H; have p727 : 0 ≤ (x4_1 : Int) := dq; have q727 : x4_1 < (l0.length : Int) := dq; obtain ⟨ad727, e727, hx727_0⟩ := Kd.at_int HR0.out x4_1 p727 q727
     cases e727
     replace p727 := eq_true p727; replace q727 := eq_true q727; go_wp2
     go_roundg k1
     case measure => have := HK1.out; omega
     case rel => exact ⟨(wrap64 (x3_1 + (rd l0 x4_1))), (wrap64 (x4_1 + 1)), rf, rf, H', ⟨by have := HK1.out; omega⟩, by repeat (first | exact Drawn0.refl _ | apply Drawn0.step)⟩
    ·
     rw [if_neg c3] at H; exact absurd H (by simp)
   ·
    rw [if_neg c2] at H; have c2b0 := decide_eq_false c2; clear c2; obtain rfl := Option.some.inj H; go_wp2
    go_ret
    exact ⟨rf, by repeat (first | exact Drawn0.refl _ | apply Drawn0.step)⟩

end Go.Proofs.YtjhppcpjobofbabGreat.PFnRuns
