-- Told shorter still by shrink2.py.
-- Printed, and told shorter by this session's program shrink.py.
-- Printed by this session's program myprint.py.
import Derived.Test.YtjhppcpjobofbabGreatPFnRunsx0
import Derived.Test.YtjhppcpjobofbabGreatPFnRunsx4
import Derived.Test.YtjhppcpjobofbabGreatPFnRunsx5
import Derived.Test.YtjhppcpjobofbabGreatPFnRunsx8
import Derived.Test.YtjhppcpjobofbabGreatPFnRunsx9
import Derived.Test.YtjhppcpjobofbabGreatPFnRunsx10
namespace Go.Proofs.YtjhppcpjobofbabGreat.PFnRuns
open Go.RowKit Go.Proofs.YtjhppcpjobofbabGreat.Own Go.Proofs.YtjhppcpjobofbabGreatW.PrintWords Go.Proofs.YtjhppcpjobofbabGreatW.PrintLast Go.Proofs.YtjhppcpjobofbabGreatW.PrintMore
attribute [local go_sem] max2_int min2_int max_two min_two max_three min_three max_four min_four   -- for this text's walks alone
set_option linter.unusedVariables false
set_option linter.unusedSimpArgs false

/-! ### impl_runs_firstOrder: function 39 -/
mutual
def Q17.l0 : Nat → List Int → List (List Int) → Int → Int → Int → Bool → List (List (List Int)) → Option (Int × List Int × Bool)
  | 0, _, _, _, _, _, _, _ => none
  | k + 1, x1, x7, x18, x19, x572000, x572001, x572002 => if x19 < x18 then (if x19 > 0 then (Q17.j1 k x1 x7 x19 x18 x19 (!x572001) x572000 x572001 x572002) else (Q17.j1 k x1 x7 x19 x18 x19 false x572000 x572001 x572002)) else (some (0, ([] : List Int), false))
def Q17.j1 : Nat → List Int → List (List Int) → Int → Int → Int → Bool → Int → Bool → List (List (List Int)) → Option (Int × List Int × Bool)
  | 0, _, _, _, _, _, _, _, _, _ => none
  | k + 1, x1, x7, x8, x18, x19, x29, x572000, x572001, x572002 => if x29 = true then (some (0, ([] : List Int), false)) else (Q17.l1 k x1 x7 x8 x18 x19 x7 (x7.length : Int) 0 x572000 x572001 x572002)
def Q17.l1 : Nat → List Int → List (List Int) → Int → Int → Int → List (List Int) → Int → Int → Int → Bool → List (List (List Int)) → Option (Int × List Int × Bool)
  | 0, _, _, _, _, _, _, _, _, _, _, _ => none
  | k + 1, x1, x7, x8, x18, x19, x30, x31, x32, x572000, x572001, x572002 => if x32 < x31 then (if 0 ≤ x32 then (if x32 < (x30.length : Int) then ((Q18.f k x572000 x572001 x572002 x1 x8 (rd_L2 x30 x32)).bind fun bt576 => (if bt576.2 = true then (some (x8, rd_L2 x30 x32, true)) else (Q17.l1 k x1 x7 x8 x18 x19 x30 x31 (wrap64 (x32 + 1)) x572000 x572001 x572002))) else (none)) else (none)) else (Q17.l0 k x1 x7 x18 (wrap64 (x19 + 1)) x572000 x572001 x572002)
end
def Q17.f (k : Nat) (a0_0 : Int) (a0_1 : Bool) (l0_2 : List (List (List Int))) (l1 : List Int) : Option (Int × List Int × Bool) := (Q55.f k (l1.length : Int)).bind fun t572 => (Q17.l0 k l1 t572 a0_0 0 a0_0 a0_1 l0_2)
set_option maxHeartbeats 8000000 in
set_option maxRecDepth 100000 in
theorem Q17.calls (k : Nat) (a0_0 : Int) (a0_1 : Bool) (A0_2 : Option Addr) (c0_2 : Nat) (l0_2 : List (List (List Int))) (A1 : Option Addr) (c1 : Nat) (l1 : List Int) (r1 : Int) (r2 : List Int) (r3 : Bool) (w : World) (hr0_2 : Kd.C (Kd.slice 26 (Kd.slice 3 (Kd.int .i64))) w A0_2 l0_2.length l0_2) (hc0_2 : l0_2.length ≤ c0_2) (hr1 : Kd.C (Kd.int .i64) w A1 l1.length l1) (hc1 : l1.length ≤ c1) (h : Q17.f k a0_0 a0_1 l0_2 l1 = some (r1, r2, r3)) :
    Calls Tryz.prog 39 #[.agg #[.int .i64 a0_0, .bool a0_1, .slice A0_2 l0_2.length c0_2], .slice A1 l1.length c1] w fun e w' => ∃ v1_ : Value, e = .returned (.tuple #[.int .i64 r1, v1_, .bool r3]) ∧ Kd.R (Kd.int .i64) 3 w' w.heap.size (fun _ => True) v1_ r2 ∧ Below w.heap.size w w' := by
 have hu65 := Tryz.underlying65; have HR0_2 := A_ hr0_2; have HC0_2 := A_ hc0_2; clear hr0_2 hc0_2; have HR1 := A_ hr1; have HC1 := A_ hc1; clear hr1 hc1; have HB := A_ (Below.refl w.heap.size w); have H : ((Q55.f k (l1.length : Int)).bind fun t572 => (Q17.l0 k l1 t572 a0_0 0 a0_0 a0_1 l0_2)) = some (r1, r2, r3) := h; clear h; replace H := bm H; obtain ⟨t572, A3, H⟩ := H; have H' := A_ H; clear H; go_enter Tryz.func39, Tryz.ntmps39
 go_wp2_with (first | ((with_reducible refine gate_dst (N := 2) rfl ?_); refine bx (N := 2) #[.int .i64 a0_0, .bool a0_1, .slice A0_2 l0_2.length c0_2] 65 ?_; intro gb571 hg w4 hbox hb; have BK571 := A_ (hbox); have GW571 := A_ (bs hg (hq HB) : w.heap.size ≤ gb571); have GE571 := A_ (bs hg (hq HB) : w.heap.size ≤ gb571); replace HB := A_ (below_step (hq HB) hb); clear hb hbox hg) | ((with_reducible refine gate_callee (f := 32) rfl ?_); refine gL (some 15) Tryz.func32 #[.int .i64 (l1.length : Int)] ?_; (with_reducible refine (Q55.calls k (l1.length : Int) t572 _ A3.out).mono ?_); rintro e w5 ⟨v573, rfl, ho0, hb⟩; refine ⟨_, rfl, ?_⟩; have HO574 := A_ (Kd.S_lower ho0 (below_size (hq HB))); replace BK571 := A_ (blk_below (bq BK571) hb); replace HB := A_ (below_step (hq HB) hb); clear hb ho0; have hcz6_0 : w5.cell? ⟨gb571, 0, none⟩ = some (.int .i64 a0_0) := bc BK571 0; have hcz6_1 : w5.cell? ⟨gb571, 1, none⟩ = some (.bool a0_1) := bc BK571 1; have hcz6_2 : w5.cell? ⟨gb571, 2, none⟩ = some (.slice A0_2 l0_2.length c0_2) := bc BK571 2; have hfz6_0 := blk_frozen BK571.out 0; have hfz6_1 := blk_frozen BK571.out 1; have hfz6_2 := blk_frozen BK571.out 2))
 go_loopg [19] k (fun kq v19 w' => ∃ (x19_1 : Int), v19 = .int .i64 x19_1 ∧ Aside0 (Q17.l0 kq l1 t572 a0_0 x19_1 a0_0 a0_1 l0_2 = some (r1, r2, r3)) ∧ Aside0 (kq ≤ k) ∧ Aside0 (Kd.S (Kd.slice 3 (Kd.int .i64)) 26 w' w.heap.size (fun _ => True) v573 t572) ∧ Aside0 (w'.heap[gb571]? = some (.cells #[.int .i64 a0_0, .bool a0_1, (.slice A0_2 l0_2.length c0_2)] 65 (0, 0))) ∧ Aside0 (Below w.heap.size w w'))
 case atStart => exact ⟨(0), rf, H', ⟨Nat.le_refl _⟩, ⟨sq HO574⟩, ⟨bq BK571⟩, ⟨hq HB⟩⟩
 case round =>
  clear H'; (try clear hcz6_0); (try clear hcz6_1); (try clear hcz6_2); (try clear hfz6_0); (try clear hfz6_1); (try clear hfz6_2); obtain ⟨x19_1, rfl, HA, HK1, HO_7, BK571, HB⟩ := hrel
  cases gk with
  | zero => exact absurd HA.out (by simp [Q17.l0])
  | succ k1 =>
   have H := HA.out; clear HA; simp only [Q17.l0] at H
   by_cases c7 : x19_1 < a0_0
   ·
    rw [if_pos c7] at H; have c7b0 := decide_eq_true c7; clear c7; have HC8 := A_ H; clear H; go_upto_region 5 with (fail)
    go_cut [29] (fun v29 wc => ∃ (kq : Nat) (x29_7 : Bool), v29 = .bool x29_7 ∧ Aside0 (Q17.j1 kq l1 t572 x19_1 a0_0 x19_1 x29_7 a0_0 a0_1 l0_2 = some (r1, r2, r3)) ∧ Aside0 (kq ≤ k1) ∧ Aside0 (Kd.S (Kd.slice 3 (Kd.int .i64)) 26 wc w.heap.size (fun _ => True) v573 t572) ∧ Aside0 (wc.heap[gb571]? = some (.cells #[.int .i64 a0_0, .bool a0_1, (.slice A0_2 l0_2.length c0_2)] 65 (0, 0))) ∧ Aside0 (Below w.heap.size w wc))
    case first =>
     have H := HC8.out; clear HC8; by_cases c9 : x19_1 > 0
     ·
      rw [if_pos c9] at H; have c9b0 : decide (0 < x19_1) = true := decide_eq_true c9; clear c9; (first | rw [c9b0] | (simp only [i64_w, i32_w]; rw [c9b0]) | skip); have H' := A_ H; clear H; have hcz10_0 : wr.cell? ⟨gb571, 0, none⟩ = some (.int .i64 a0_0) := bc BK571 0; have hcz10_1 : wr.cell? ⟨gb571, 1, none⟩ = some (.bool a0_1) := bc BK571 1; have hcz10_2 : wr.cell? ⟨gb571, 2, none⟩ = some (.slice A0_2 l0_2.length c0_2) := bc BK571 2; have hfz10_0 := blk_frozen BK571.out 0; have hfz10_1 := blk_frozen BK571.out 1; have hfz10_2 := blk_frozen BK571.out 2; go_wp2
      go_meet
      case rel => exact ⟨_, (!a0_1), rf, H', ⟨by have := HK1.out; first | omega | exact Nat.le_refl _⟩, ⟨sq HO_7⟩, ⟨bq BK571⟩, ⟨hq HB⟩⟩
     ·
      rw [if_neg c9] at H; have c9b0 : decide (0 < x19_1) = false := decide_eq_false c9; clear c9; (first | rw [c9b0] | (simp only [i64_w, i32_w]; rw [c9b0]) | skip); have H' := A_ H; clear H; go_wp2
      go_meet
      case rel => exact ⟨_, (false), rf, H', ⟨by have := HK1.out; first | omega | exact Nat.le_refl _⟩, ⟨sq HO_7⟩, ⟨bq BK571⟩, ⟨hq HB⟩⟩
    case rest =>
     clear HC8; (try clear c7); (try clear c7b0); (try clear c9); (try clear c9b0); (try clear hcz10_0); (try clear hcz10_1); (try clear hcz10_2); (try clear hcz6_0); (try clear hcz6_1); (try clear hcz6_2); (try clear hfz10_0); (try clear hfz10_1); (try clear hfz10_2); (try clear hfz6_0); (try clear hfz6_1); (try clear hfz6_2); obtain ⟨kq, x29_7, rfl, HA, HJ7, HO_7, BK571, HB⟩ := hcut
     cases kq with
     | zero => exact absurd HA.out (by simp [Q17.j1])
     | succ kj7 =>
      have H := HA.out; clear HA; simp only [Q17.j1] at H
      by_cases c11 : x29_7 = true
      ·
       subst c11
       have H1 : (some (0, ([] : List Int), false)) = some (r1, r2, r3) := by rw [if_pos rfl] at H; exact H
       clear H; have H := H1; clear H1; simp only [Option.some.injEq, Prod.mk.injEq] at H
       obtain ⟨rfl, rfl, rfl⟩ := H; go_wp2
       go_ret3
       exact ⟨_, rt, by first | exact Kd.R_nil _ _ _ _ _ | exact Kd.N_nil _ _ _ _ _ | exact Kd.V_nil _ _ _ _ _ | exact Kd.Q_nil _ _ _ _ _ | exact Kd.S_nil _ _ _ _ _, hq HB⟩
      ·
       replace c11 := Bool.eq_false_iff.mpr c11; subst c11
       have H1 : (Q17.l1 kj7 l1 t572 x19_1 a0_0 x19_1 t572 (t572.length : Int) 0 a0_0 a0_1 l0_2) = some (r1, r2, r3) := by rw [if_neg (show ¬ (false = true) by decide)] at H; exact H
       clear H; have H := H1; clear H1; have H' := A_ H; clear H; obtain ⟨Ao12, co12, eo12⟩ := Kd.S_slice HO_7.out; subst eo12; go_wp2
       go_loopg [32] kj7 (fun kq v32 w' => ∃ (x32_3 : Int), v32 = .int .i64 x32_3 ∧ Aside0 (Q17.l1 kq l1 t572 x19_1 a0_0 x19_1 t572 (t572.length : Int) x32_3 a0_0 a0_1 l0_2 = some (r1, r2, r3)) ∧ Aside0 (kq ≤ kj7) ∧ Aside0 (Kd.S (Kd.slice 3 (Kd.int .i64)) 26 w' w.heap.size (fun _ => True) (.slice Ao12 t572.length co12) t572) ∧ Aside0 (Kd.S (Kd.slice 3 (Kd.int .i64)) 26 w' w.heap.size (fun _ => True) (.slice Ao12 t572.length co12) t572) ∧ Aside0 (w'.heap[gb571]? = some (.cells #[.int .i64 a0_0, .bool a0_1, (.slice A0_2 l0_2.length c0_2)] 65 (0, 0))) ∧ Aside0 (Below w.heap.size w w'))
       case atStart => exact ⟨(0), rf, H', ⟨Nat.le_refl _⟩, ⟨sq HO_7⟩, ⟨sq HO_7⟩, ⟨bq BK571⟩, ⟨hq HB⟩⟩
       case round =>
        clear H'; (try clear c7); (try clear c7b0); (try clear c9); (try clear c9b0); (try clear c11); (try clear hcz10_0); (try clear hcz10_1); (try clear hcz10_2); (try clear hcz6_0); (try clear hcz6_1); (try clear hcz6_2); (try clear hfz10_0); (try clear hfz10_1); (try clear hfz10_2); (try clear hfz6_0); (try clear hfz6_1); (try clear hfz6_2); obtain ⟨x32_3, rfl, HA, HK3, HO_7, HO_30, BK571, HB⟩ := hrel
        cases gk with
        | zero => exact absurd HA.out (by simp [Q17.l1])
        | succ k3 =>
         have H := HA.out; clear HA; simp only [Q17.l1] at H
         by_cases c13 : x32_3 < (t572.length : Int)
         ·
          rw [if_pos c13] at H; have c13b0 := decide_eq_true c13; clear c13; by_cases c14 : 0 ≤ x32_3
          ·
           rw [if_pos c14] at H; have c14b0 := decide_eq_true c14; clear c14; by_cases c15 : x32_3 < (t572.length : Int)
           ·
            rw [if_pos c15] at H; have c15b0 := decide_eq_true c15; clear c15; replace H := bm H; obtain ⟨⟨t576, t579⟩, A16, H⟩ := H; (try dsimp only at H); by_cases c17 : t579 = true
            ·
             subst c17
             have H1 : (some (x19_1, rd_L2 t572 x32_3, true)) = some (r1, r2, r3) := by rw [if_pos rfl] at H; exact H
             clear H; have H := H1; clear H1; simp only [Option.some.injEq, Prod.mk.injEq] at H
             obtain ⟨rfl, rfl, rfl⟩ := H; have p575 : 0 ≤ (x32_3 : Int) := dq; have q575 : x32_3 < (t572.length : Int) := dq; obtain ⟨ad575, A575_0, c575_0, e575, hx575_0, hl575_0, hi575_0⟩ := at_L2 (Kd.S_reads' HO_30.out).2.2 x32_3 p575 q575
             cases e575
             obtain ⟨ce575, hce575, hMe575, hcc575⟩ := Kd.S_get HO_30.out [] x32_3 p575 (by first | exact q575 | exact dq | (have e_ := (Kd.S_reads' HO_30.out).1; omega)); obtain ⟨ve575_0, rfl, ge575_0⟩ := hMe575; have hv575_0 := hcc575 0 _ rfl; rw [Nat.add_zero, show ((Kd.slice 3 (Kd.int .i64))).sz = 1 from rfl, Nat.mul_one] at hv575_0; replace hv575_0 := Option.some.inj (hv575_0.symm.trans hx575_0); rw [hv575_0] at ge575_0; have HL575_0 := A_ (show Kd.R (Kd.int .i64) 3 _ _ _ _ (rd_L2 t572 x32_3) from ge575_0); clear hv575_0 ge575_0 hcc575 hce575; have HR575_0 := A_ hi575_0; have HC575_0 := A_ hl575_0; clear hi575_0 hl575_0; replace p575 := eq_true p575; replace q575 := eq_true q575; have hcz18_0 : wr.cell? ⟨gb571, 0, none⟩ = some (.int .i64 a0_0) := bc BK571 0; have hcz18_1 : wr.cell? ⟨gb571, 1, none⟩ = some (.bool a0_1) := bc BK571 1; have hcz18_2 : wr.cell? ⟨gb571, 2, none⟩ = some (.slice A0_2 l0_2.length c0_2) := bc BK571 2; have hfz18_0 := blk_frozen BK571.out 0; have hfz18_1 := blk_frozen BK571.out 1; have hfz18_2 := blk_frozen BK571.out 2; go_wp2_with (first | ((with_reducible refine gate_callee (f := 34) rfl ?_); refine gL (some 41) Tryz.func34 #[.agg #[.int .i64 a0_0, .bool a0_1, .slice A0_2 l0_2.length c0_2], .slice A1 l1.length c1, .int .i64 x19_1, .slice A575_0 (rd_L2 t572 x32_3).length c575_0] ?_; (with_reducible refine (Q18.calls k3 a0_0 a0_1 _ _ l0_2 _ _ l1 x19_1 _ _ (rd_L2 t572 x32_3) t576 true _ ?side1 ?side2 ?side3 ?side4 ?side5 ?side6 A16.out).mono ?_); (case side1 => exact cq (Kd.C_below HR0_2.out HB.out)); (case side2 => exact HC0_2.out); (case side3 => exact cq (Kd.C_below HR1.out HB.out)); (case side4 => exact HC1.out); (case side5 => repeat (first | exact (by repeat (first | (with_reducible exact HR575_0.out) | (with_reducible refine Kd.C_alloc ?_ _) | (with_reducible refine Kd.C_drewN ?_ _) | (with_reducible refine Kd.C_drew ?_) | exact HR575_0.out)) | (with_reducible refine Kd.C_alloc ?_ _) | (with_reducible refine Kd.C_drewN ?_ _) | (with_reducible refine Kd.C_drew ?_))); (case side6 => exact HC575_0.out); rintro e w19 ⟨v577, rfl, ho0, hb⟩; refine ⟨_, rfl, ?_⟩; replace HO_7 := A_ (Kd.S_elder' (sq HO_7) (Kd.R_base ho0) hb); replace HO_30 := A_ (Kd.S_elder' (sq HO_30) (Kd.R_base ho0) hb); have HO578 := A_ (Kd.R_lower (Kd.R_new' ho0 (Kd.R_lt (by (with_reducible repeat (first | apply Kd.R_alloc | apply Kd.R_drewN | apply Kd.R_drew)); exact HL575_0.out))) (below_size (hq HB))); replace HL575_0 := A_ (Kd.R_elder' (by (with_reducible repeat (first | apply Kd.R_alloc | apply Kd.R_drewN | apply Kd.R_drew)); exact HL575_0.out) (Kd.R_base ho0) hb); replace BK571 := A_ (blk_below (bq BK571) hb); replace HR575_0 := A_ (Kd.C_below (by repeat (first | (with_reducible exact HR575_0.out) | (with_reducible refine Kd.C_alloc ?_ _) | (with_reducible refine Kd.C_drewN ?_ _) | (with_reducible refine Kd.C_drew ?_) | exact HR575_0.out)) hb); replace HB := A_ (below_step (hq HB) hb); clear hb ho0))
             go_ret3
             exact ⟨_, rt, by (with_reducible repeat (first | apply Kd.R_alloc | apply Kd.R_drewN | apply Kd.R_drew)); exact Kd.R_mono HL575_0.out (fun _ hk => trivial), hq HB⟩
            ·
             replace c17 := Bool.eq_false_iff.mpr c17; subst c17
             have H1 : (Q17.l1 k3 l1 t572 x19_1 a0_0 x19_1 t572 (t572.length : Int) (wrap64 (x32_3 + 1)) a0_0 a0_1 l0_2) = some (r1, r2, r3) := by rw [if_neg (show ¬ (false = true) by decide)] at H; exact H
             clear H; have H := H1; clear H1; have H' := A_ H; clear H; have p575 : 0 ≤ (x32_3 : Int) := dq; have q575 : x32_3 < (t572.length : Int) := dq; obtain ⟨ad575, A575_0, c575_0, e575, hx575_0, hl575_0, hi575_0⟩ := at_L2 (Kd.S_reads' HO_30.out).2.2 x32_3 p575 q575
             cases e575
             obtain ⟨ce575, hce575, hMe575, hcc575⟩ := Kd.S_get HO_30.out [] x32_3 p575 (by first | exact q575 | exact dq | (have e_ := (Kd.S_reads' HO_30.out).1; omega)); obtain ⟨ve575_0, rfl, ge575_0⟩ := hMe575; have hv575_0 := hcc575 0 _ rfl; rw [Nat.add_zero, show ((Kd.slice 3 (Kd.int .i64))).sz = 1 from rfl, Nat.mul_one] at hv575_0; replace hv575_0 := Option.some.inj (hv575_0.symm.trans hx575_0); rw [hv575_0] at ge575_0; have HL575_0 := A_ (show Kd.R (Kd.int .i64) 3 _ _ _ _ (rd_L2 t572 x32_3) from ge575_0); clear hv575_0 ge575_0 hcc575 hce575; have HR575_0 := A_ hi575_0; have HC575_0 := A_ hl575_0; clear hi575_0 hl575_0; replace p575 := eq_true p575; replace q575 := eq_true q575; have hcz20_0 : wr.cell? ⟨gb571, 0, none⟩ = some (.int .i64 a0_0) := bc BK571 0; have hcz20_1 : wr.cell? ⟨gb571, 1, none⟩ = some (.bool a0_1) := bc BK571 1; have hcz20_2 : wr.cell? ⟨gb571, 2, none⟩ = some (.slice A0_2 l0_2.length c0_2) := bc BK571 2; have hfz20_0 := blk_frozen BK571.out 0; have hfz20_1 := blk_frozen BK571.out 1; have hfz20_2 := blk_frozen BK571.out 2; go_wp2_with (first | ((with_reducible refine gate_callee (f := 34) rfl ?_); refine gL (some 41) Tryz.func34 #[.agg #[.int .i64 a0_0, .bool a0_1, .slice A0_2 l0_2.length c0_2], .slice A1 l1.length c1, .int .i64 x19_1, .slice A575_0 (rd_L2 t572 x32_3).length c575_0] ?_; (with_reducible refine (Q18.calls k3 a0_0 a0_1 _ _ l0_2 _ _ l1 x19_1 _ _ (rd_L2 t572 x32_3) t576 false _ ?side1 ?side2 ?side3 ?side4 ?side5 ?side6 A16.out).mono ?_); (case side1 => exact cq (Kd.C_below HR0_2.out HB.out)); (case side2 => exact HC0_2.out); (case side3 => exact cq (Kd.C_below HR1.out HB.out)); (case side4 => exact HC1.out); (case side5 => repeat (first | exact (by repeat (first | (with_reducible exact HR575_0.out) | (with_reducible refine Kd.C_alloc ?_ _) | (with_reducible refine Kd.C_drewN ?_ _) | (with_reducible refine Kd.C_drew ?_) | exact HR575_0.out)) | (with_reducible refine Kd.C_alloc ?_ _) | (with_reducible refine Kd.C_drewN ?_ _) | (with_reducible refine Kd.C_drew ?_))); (case side6 => exact HC575_0.out); rintro e w21 ⟨v577, rfl, ho0, hb⟩; refine ⟨_, rfl, ?_⟩; replace HO_7 := A_ (Kd.S_elder' (sq HO_7) (Kd.R_base ho0) hb); replace HO_30 := A_ (Kd.S_elder' (sq HO_30) (Kd.R_base ho0) hb); have HO578 := A_ (Kd.R_lower (Kd.R_new' ho0 (Kd.R_lt (by (with_reducible repeat (first | apply Kd.R_alloc | apply Kd.R_drewN | apply Kd.R_drew)); exact HL575_0.out))) (below_size (hq HB))); replace HL575_0 := A_ (Kd.R_elder' (by (with_reducible repeat (first | apply Kd.R_alloc | apply Kd.R_drewN | apply Kd.R_drew)); exact HL575_0.out) (Kd.R_base ho0) hb); replace BK571 := A_ (blk_below (bq BK571) hb); replace HR575_0 := A_ (Kd.C_below (by repeat (first | (with_reducible exact HR575_0.out) | (with_reducible refine Kd.C_alloc ?_ _) | (with_reducible refine Kd.C_drewN ?_ _) | (with_reducible refine Kd.C_drew ?_) | exact HR575_0.out)) hb); replace HB := A_ (below_step (hq HB) hb); clear hb ho0))
             go_roundg k3
             case measure => have := HK1.out; have := HJ7.out; have := HK3.out; omega
             case rel => exact ⟨(wrap64 (x32_3 + 1)), rf, H', ⟨by have := HK1.out; have := HJ7.out; have := HK3.out; omega⟩, ⟨by (with_reducible repeat (first | apply Kd.S_alloc | apply Kd.S_drewN | apply Kd.S_drew)); exact Kd.S_mono HO_7.out (fun _ hk => trivial)⟩, ⟨by (with_reducible repeat (first | apply Kd.S_alloc | apply Kd.S_drewN | apply Kd.S_drew)); exact Kd.S_mono HO_30.out (fun _ hk => trivial)⟩, ⟨bq BK571⟩, ⟨hq HB⟩⟩
           ·
            rw [if_neg c15] at H; exact absurd H (by simp)
          ·
           rw [if_neg c14] at H; exact absurd H (by simp)
         ·
          rw [if_neg c13] at H; have c13b0 := decide_eq_false c13; clear c13; have H' := A_ H; clear H; go_wp2
          go_roundg k3
          case measure => have := HK1.out; have := HJ7.out; have := HK3.out; omega
          case rel => exact ⟨(wrap64 (x19_1 + 1)), rf, H', ⟨by have := HK1.out; have := HJ7.out; have := HK3.out; omega⟩, ⟨sq HO_7⟩, ⟨bq BK571⟩, ⟨hq HB⟩⟩
   ·
    rw [if_neg c7] at H; have c7b0 := decide_eq_false c7; clear c7; simp only [Option.some.injEq, Prod.mk.injEq] at H
    obtain ⟨rfl, rfl, rfl⟩ := H; go_wp2
    go_ret3
    exact ⟨_, rt, by first | exact Kd.R_nil _ _ _ _ _ | exact Kd.N_nil _ _ _ _ _ | exact Kd.V_nil _ _ _ _ _ | exact Kd.Q_nil _ _ _ _ _ | exact Kd.S_nil _ _ _ _ _, hq HB⟩

/-! ### impl_FirstOrder: function 10 -/
def Q77.f (k : Nat) (a0_0 : Int) (a0_1 : Bool) (l1 : List Int) (l2 : List Int) (a3 : Bool) : Option (Int × List Int × Bool) := (Q50.f k a0_0 a0_1 l1 l2).bind fun t581 => (if t581 = true then ((Q11.f k a0_0 a0_1 l1 a3).bind fun bt582 => ((Q17.f k bt582.1 bt582.2.1 bt582.2.2 l2).bind fun bt587 => (some (bt587.1, bt587.2.1, bt587.2.2)))) else (some (0, ([] : List Int), false)))
set_option maxHeartbeats 8000000 in
set_option maxRecDepth 100000 in
theorem Q77.calls (k : Nat) (a0_0 : Int) (a0_1 : Bool) (A1 : Option Addr) (c1 : Nat) (l1 : List Int) (A2 : Option Addr) (c2 : Nat) (l2 : List Int) (a3 : Bool) (r1 : Int) (r2 : List Int) (r3 : Bool) (w : World) (hr1 : Kd.C (Kd.int .i64) w A1 l1.length l1) (hc1 : l1.length ≤ c1) (hr2 : Kd.C (Kd.int .i64) w A2 l2.length l2) (hc2 : l2.length ≤ c2) (h : Q77.f k a0_0 a0_1 l1 l2 a3 = some (r1, r2, r3)) :
    Calls Tryz.prog 10 #[.agg #[.int .i64 a0_0, .bool a0_1], .slice A1 l1.length c1, .slice A2 l2.length c2, .bool a3] w fun e w' => ∃ v1_ : Value, e = .returned (.tuple #[.int .i64 r1, v1_, .bool r3]) ∧ Kd.R (Kd.int .i64) 3 w' w.heap.size (fun _ => True) v1_ r2 ∧ Below w.heap.size w w' := by
 have hu25 := Tryz.underlying25; have HR1 := A_ hr1; have HC1 := A_ hc1; clear hr1 hc1; have HR2 := A_ hr2; have HC2 := A_ hc2; clear hr2 hc2; have HB := A_ (Below.refl w.heap.size w); have H : ((Q50.f k a0_0 a0_1 l1 l2).bind fun t581 => (if t581 = true then ((Q11.f k a0_0 a0_1 l1 a3).bind fun bt582 => ((Q17.f k bt582.1 bt582.2.1 bt582.2.2 l2).bind fun bt587 => (some (bt587.1, bt587.2.1, bt587.2.2)))) else (some (0, ([] : List Int), false)))) = some (r1, r2, r3) := h; clear h; replace H := bm H; obtain ⟨t581, A5, H⟩ := H; by_cases c6 : t581 = true
 ·
  subst c6
  have H1 : ((Q11.f k a0_0 a0_1 l1 a3).bind fun bt582 => ((Q17.f k bt582.1 bt582.2.1 bt582.2.2 l2).bind fun bt587 => (some (bt587.1, bt587.2.1, bt587.2.2)))) = some (r1, r2, r3) := by rw [if_pos rfl] at H; exact H
  clear H; have H := H1; clear H1; replace H := bm H; obtain ⟨⟨t582, t583, t584⟩, A7, H⟩ := H; (try dsimp only at H); replace H := bm H; obtain ⟨⟨t587, t588, t591⟩, A8, H⟩ := H; (try dsimp only at H); simp only [Option.some.injEq, Prod.mk.injEq] at H
  obtain ⟨rfl, rfl, rfl⟩ := H; go_enter Tryz.func10, Tryz.ntmps10
  go_wp2_with (first | ((with_reducible refine gate_dst (N := 4) rfl ?_); refine bx (N := 4) #[.int .i64 a0_0, .bool a0_1] 25 ?_; intro gb580 hg w9 hbox hb; have BK580 := A_ (hbox); have GW580 := A_ (bs hg (hq HB) : w.heap.size ≤ gb580); have GE580 := A_ (bs hg (hq HB) : w.heap.size ≤ gb580); replace HB := A_ (below_step (hq HB) hb); clear hb hbox hg; obtain ⟨hcz10_0, hcz10_1, hfz10_0, hfz10_1⟩ := zc4 BK580) | ((with_reducible refine gate_callee (f := 27) rfl ?_); refine gL (some 14) Tryz.func27 #[.agg #[.int .i64 a0_0, .bool a0_1], .slice A1 l1.length c1, .slice A2 l2.length c2] ?_; (with_reducible refine (Q50.calls k a0_0 a0_1 _ _ l1 _ _ l2 true _ ?side1 ?side2 ?side3 ?side4 A5.out).mono ?_); (case side1 => exact cq (Kd.C_below HR1.out HB.out)); (case side2 => exact HC1.out); (case side3 => exact cq (Kd.C_below HR2.out HB.out)); (case side4 => exact HC2.out); rintro e w11 ⟨rfl, hb⟩; refine ⟨_, rfl, ?_⟩; replace BK580 := A_ (blk_below (bq BK580) hb); replace HB := A_ (below_step (hq HB) hb); clear hb; obtain ⟨hcz12_0, hcz12_1, hfz12_0, hfz12_1⟩ := zc4 BK580) | ((with_reducible refine gate_callee (f := 33) rfl ?_); refine gL (some 19) Tryz.func33 #[.agg #[.int .i64 a0_0, .bool a0_1], .slice A1 l1.length c1, .bool a3] ?_; (with_reducible refine (Q11.calls k a0_0 a0_1 _ _ l1 a3 t582 t583 t584 _ ?side1 ?side2 A7.out).mono ?_); (case side1 => exact cq (Kd.C_below HR1.out HB.out)); (case side2 => exact HC1.out); rintro e w13 ⟨v585, rfl, ho0, hb⟩; refine ⟨_, rfl, ?_⟩; have HO586 := A_ (Kd.R_lower ho0 (below_size (hq HB))); replace BK580 := A_ (blk_below (bq BK580) hb); replace HB := A_ (below_step (hq HB) hb); clear hb ho0; obtain ⟨Ao14, co14, eo14⟩ := Kd.R_slice HO586.out; subst eo14) | ((with_reducible refine gate_callee (f := 39) rfl ?_); refine gL (some 21) Tryz.func39 #[.agg #[.int .i64 t582, .bool t583, .slice Ao14 t584.length co14], .slice A2 l2.length c2] ?_; (with_reducible refine (Q17.calls k t582 t583 _ _ t584 _ _ l2 t587 t588 t591 _ ?side1 ?side2 ?side3 ?side4 A8.out).mono ?_); (case side1 => exact cq (Kd.R_reads' HO586.out).2.2); (case side2 => exact (Kd.R_reads' HO586.out).2.1); (case side3 => exact cq (Kd.C_below HR2.out HB.out)); (case side4 => exact HC2.out); rintro e w15 ⟨v589, rfl, ho0, hb⟩; refine ⟨_, rfl, ?_⟩; replace HO586 := A_ (Kd.R_elder' (rq HO586) (Kd.R_base ho0) hb); have HO590 := A_ (Kd.R_lower ho0 (below_size (hq HB))); replace BK580 := A_ (blk_below (bq BK580) hb); replace HB := A_ (below_step (hq HB) hb); clear hb ho0))
  go_ret3
  exact ⟨_, rt, rq HO590, hq HB⟩
 ·
  replace c6 := Bool.eq_false_iff.mpr c6; subst c6
  have H1 : (some (0, ([] : List Int), false)) = some (r1, r2, r3) := by rw [if_neg (show ¬ (false = true) by decide)] at H; exact H
  clear H; have H := H1; clear H1; simp only [Option.some.injEq, Prod.mk.injEq] at H
  obtain ⟨rfl, rfl, rfl⟩ := H; go_enter Tryz.func10, Tryz.ntmps10
  go_wp2_with (first | ((with_reducible refine gate_dst (N := 4) rfl ?_); refine bx (N := 4) #[.int .i64 a0_0, .bool a0_1] 25 ?_; intro gb580 hg w16 hbox hb; have BK580 := A_ (hbox); have GW580 := A_ (bs hg (hq HB) : w.heap.size ≤ gb580); have GE580 := A_ (bs hg (hq HB) : w.heap.size ≤ gb580); replace HB := A_ (below_step (hq HB) hb); clear hb hbox hg; obtain ⟨hcz17_0, hcz17_1, hfz17_0, hfz17_1⟩ := zc4 BK580) | ((with_reducible refine gate_callee (f := 27) rfl ?_); refine gL (some 14) Tryz.func27 #[.agg #[.int .i64 a0_0, .bool a0_1], .slice A1 l1.length c1, .slice A2 l2.length c2] ?_; (with_reducible refine (Q50.calls k a0_0 a0_1 _ _ l1 _ _ l2 false _ ?side1 ?side2 ?side3 ?side4 A5.out).mono ?_); (case side1 => exact cq (Kd.C_below HR1.out HB.out)); (case side2 => exact HC1.out); (case side3 => exact cq (Kd.C_below HR2.out HB.out)); (case side4 => exact HC2.out); rintro e w18 ⟨rfl, hb⟩; refine ⟨_, rfl, ?_⟩; replace BK580 := A_ (blk_below (bq BK580) hb); replace HB := A_ (below_step (hq HB) hb); clear hb))
  go_ret3
  exact ⟨_, rt, by first | exact Kd.R_nil _ _ _ _ _ | exact Kd.N_nil _ _ _ _ _ | exact Kd.V_nil _ _ _ _ _ | exact Kd.Q_nil _ _ _ _ _ | exact Kd.S_nil _ _ _ _ _, hq HB⟩

/-! ### spec_l1Own: function 81 -/
def Q78.f (l0 : List Int) : Option (List Int) := (some (([] : List Int) : List Int)).bind fun y592 => (if y592.length + l0.length < 17592186044416 then (some (y592 ++ l0)) else (none))
set_option maxHeartbeats 8000000 in
set_option maxRecDepth 100000 in
theorem Q78.calls (A0 : Option Addr) (c0 : Nat) (l0 : List Int) (r : List Int) (w : World) (hr0 : Kd.C (Kd.int .i64) w A0 l0.length l0) (hc0 : l0.length ≤ c0) (h : Q78.f l0 = some r) :
    Calls Tryz.prog 81 #[.slice A0 l0.length c0] w fun e w' => ∃ v0_ : Value, e = .returned (v0_) ∧ Kd.R (Kd.int .i64) 3 w' w.heap.size (fun _ => True) v0_ r ∧ Below w.heap.size w w' := by
 have HR0 := A_ hr0; have HC0 := A_ hc0; clear hr0 hc0; have HB := A_ (Below.refl w.heap.size w); have H : ((some (([] : List Int) : List Int)).bind fun y592 => (if y592.length + l0.length < 17592186044416 then (some (y592 ++ l0)) else (none))) = some r := h; clear h
 obtain ⟨y592, hy592⟩ : ∃ y_ : List Int, y_ = (([] : List Int)) := ⟨_, rfl⟩
 replace H : (if y592.length + l0.length < 17592186044416 then (some (y592 ++ l0)) else (none)) = some r := by first | (rw [hy592]; with_reducible exact H) | (have H2_ := (Option.bind_some _ _).symm.trans H; rw [hy592]; with_reducible exact H2_) | (have H2_ := (Option.bind_some _ _).symm.trans H; with_reducible exact H2_) | with_reducible exact H | (rw [hy592]; exact H) | exact H
 have Ny592 := A_ hy592; clear hy592; by_cases c2 : y592.length + l0.length < 17592186044416
 ·
  rw [if_pos c2] at H; have LMc2 := A_ c2; clear c2
  obtain ⟨y595, hy595⟩ : ∃ y_ : List Int, y_ = (y592 ++ l0) := ⟨_, rfl⟩
  replace H : (some y595) = some r := by first | (rw [hy595]; with_reducible exact H) | (have H2_ := (Option.bind_some _ _).symm.trans H; rw [hy595]; with_reducible exact H2_) | (have H2_ := (Option.bind_some _ _).symm.trans H; with_reducible exact H2_) | with_reducible exact H | (rw [hy595]; exact H) | exact H
  have Ny595 := A_ hy595; clear hy595; obtain rfl := Option.some.inj H; go_enter Tryz.func81, Tryz.ntmps81
  go_wp2_with (first | ((with_reducible refine gate_dst (N := 3) rfl ?_); refine Kd.R_lit (Kd.int .i64) _ 3 ?hg (N := 3) ?hd (xs := ([] : List Int)) (inner := []) (ok := fun _ => True) (okp := fun _ => True) ?hr ?hp (fun _ hk => hk) trivial (Below.refl _ _) (Nat.le_refl _) (by simp) ?_; (case hd => rfl); (case hg => rfl); (case hr => first | (go_simp; done) | (go_simp; rfl)); (case hp => exact (Reps.none _ _)); intro v593 w3 ho4 hb hg_ hnew_; clear hg_ hnew_; (first | rw [← Ny592.out] at ho4 | (simp only [Int.reduceToNat] at ho4; rw [← Ny592.out] at ho4)); have HO594 := A_ (Kd.R_lower ho4 (below_size (hq HB))); replace HB := A_ (below_step (hq HB) hb); clear hb ho4) | ((with_reducible refine gate_builtin (b := .append) (xs := #[.tmp 3, .tmp 4]) rfl ?_); at_builtin; refine Kd.R_append_rows (Kd.int .i64) (w0 := w) w.heap.size rfl (.tmp 3) (.tmp 4) 26 3 (.int .i64 0) 8 rfl Tryz.underlying26 info3 rfl (by decide) (by omega) v593 y592 l0 _ _ _ (fun _ => True) (fun _ => False) rfl rfl ?aO ?aR (fun _ _ h => h) (fun _ h => h.elim) ?aF ?aB ?aS ?aL ?_; (case aR => repeat (first | exact (Kd.C_below HR0.out HB.out) | (with_reducible refine Kd.C_alloc ?_ _) | (with_reducible refine Kd.C_drewN ?_ _) | (with_reducible refine Kd.C_drew ?_))); (case aB => exact (hq HB)); (case aF => exact (fun _ _ => trivial)); (case aO => exact (rq HO594)); (case aS => exact (below_size (hq HB))); (case aL => have := LMc2.out; omega); intro v596 w5 ho hb hg hat; rw [← Ny595.out] at ho; have n0_ := A_ (hb); have n1_ := A_ (ho); clear HB; clear HO594; have HB := n0_; have HO597 := n1_; clear n0_ n1_; clear ho hb hg hat))
  go_ret
  exact ⟨_, rt, rq HO597, hq HB⟩
 ·
  rw [if_neg c2] at H; exact absurd H (by simp)

/-! ### spec_l6Orders: function 65 -/
mutual
def Q22.l0 : Nat → Int → List Int → List (List Int) → Int → Option ((List (List Int)))
  | 0, _, _, _, _ => none
  | k + 1, x0, x1, x5, x6 => if x6 < x0 then ((Q42.f k x1 x6).bind fun t604 => (if t604 = true then (Q22.l0 k x0 x1 x5 (wrap64 (x6 + 1))) else ((Q78.f x1).bind fun t605 => (if t605.length < 17592186044416 then ((Q22.f k x0 (t605 ++ [x6])).bind fun t611 => (if x5.length + t611.length < 5864062014805 then (Q22.l0 k x0 x1 (x5 ++ t611) (wrap64 (x6 + 1))) else (none))) else (none))))) else (some x5)
def Q22.f : Nat → Int → List Int → Option ((List (List Int)))
  | 0, _, _ => none
  | k + 1, a0, l1 => if (l1.length : Int) = a0 then (some (([l1] : List (List Int)))) else (Q22.l0 k a0 l1 (([] : List (List Int))) 0)
end
set_option maxHeartbeats 8000000 in
set_option maxRecDepth 100000 in
theorem Q22.calls (k : Nat) : ∀ (a0 : Int) (P1_ : Nat → Prop) (A1 : Option Addr) (c1 : Nat) (l1 : List Int) (r : List (List Int)) (w : World) (hs1 : Kd.V (Kd.int .i64) 3 w w.heap.size (fun k_ => P1_ k_) (.slice A1 l1.length c1) l1) (h : Q22.f k a0 l1 = some r),
    Calls Tryz.prog 65 #[.int .i64 a0, .slice A1 l1.length c1] w fun e w' => ∃ v0_ : Value, e = .returned (v0_) ∧ Kd.N (Kd.slice 3 (Kd.int .i64)) 26 w' w.heap.size (fun k_ => (P1_ k_ ∨ w.heap.size ≤ k_)) v0_ r ∧ Below w.heap.size w w' := by
 induction k using Nat.strongRecOn with
 | _ k ih =>
 intro a0 P1_ A1 c1 l1 r w hs1 h
 cases k with
 | zero => exact absurd h (by simp [Q22.f])
 | succ k =>
 simp only [Q22.f] at h
 have HO1 := A_ (show Kd.V (Kd.int .i64) 3 w w.heap.size (fun k_ => (P1_ k_ ∨ w.heap.size ≤ k_)) (.slice A1 l1.length c1) l1 from Kd.V_mono hs1 (fun k_ hk => .inl hk)); have HB := A_ (Below.refl w.heap.size w); have H : (if (l1.length : Int) = a0 then (some (([l1] : List (List Int)))) else (Q22.l0 k a0 l1 (([] : List (List Int))) 0)) = some r := h; clear h; by_cases c3 : (l1.length : Int) = a0
 ·
  rw [if_pos c3] at H; have c3b0 : ((l1.length : Int) == a0) = true := beq_iff_eq.mpr c3; have c3b1 : ((l1.length : Int) != a0) = false := bne_eq_false_iff_eq.mpr c3; clear c3
  obtain ⟨y598, hy598⟩ : ∃ y_ : List (List Int), y_ = (([l1] : List (List Int))) := ⟨_, rfl⟩
  replace H : (some y598) = some r := by first | (rw [hy598]; with_reducible exact H) | (have H2_ := (Option.bind_some _ _).symm.trans H; rw [hy598]; with_reducible exact H2_) | (have H2_ := (Option.bind_some _ _).symm.trans H; with_reducible exact H2_) | with_reducible exact H | (rw [hy598]; exact H) | exact H
  have Ny598 := A_ hy598; clear hy598; obtain rfl := Option.some.inj H; go_enter Tryz.func65, Tryz.ntmps65
  go_wp2_with (first | ((with_reducible refine gate_dst (N := 12) rfl ?_); refine Kd.N_lit (Kd.slice 3 (Kd.int .i64)) _ 26 ?hg (N' := 12) ?hd (xs := ([l1] : List (List Int))) (inner := [.slice A1 l1.length c1]) (ok := (fun k_ => (P1_ k_ ∨ w.heap.size ≤ k_))) (okp := (fun k_ => (P1_ k_ ∨ w.heap.size ≤ k_))) ?hr ?hp (fun _ hk => hk) ((show ∀ k_, w.heap.size ≤ k_ → (fun k_ => (P1_ k_ ∨ w.heap.size ≤ k_)) k_ from fun k_ hk => (.inr (Nat.le_trans (below_size (hq HB)) hk))) _ (Nat.le_refl _)) (Below.refl _ _) (Nat.le_refl _) (by simp) ?_; (case hd => rfl); (case hg => rfl); (case hr => first | (go_simp; done) | (go_simp; rfl)); (case hp => exact (Reps.one (show Kd.FK (Kd.slice 3 (Kd.int .i64)) _ _ l1 [.slice A1 l1.length c1] from (Kd.FK_slice_mk (Kd.V_reads' (Kd.V_mono (ok' := (fun k_ => (P1_ k_ ∨ w.heap.size ≤ k_))) (HO1.out) (fun k_ hk => hk))).2.1 (Kd.V_F (Kd.V_mono (ok' := (fun k_ => (P1_ k_ ∨ w.heap.size ≤ k_))) (HO1.out) (fun k_ hk => hk))))) (Reps.none _ _))); intro v599 w4 ho5 hb hg_ hnew_; clear hg_ hnew_; (first | rw [← Ny598.out] at ho5 | (simp only [Int.reduceToNat] at ho5; rw [← Ny598.out] at ho5)); replace HO1 := A_ (Kd.V_elder' (vq HO1) (Kd.N_base ho5) hb); have HO600 := A_ (Kd.N_lower ho5 (below_size (hq HB))); replace HB := A_ (below_step (hq HB) hb); clear hb ho5))
  go_ret
  exact ⟨_, rt, nq HO600, hq HB⟩
 ·
  rw [if_neg c3] at H; have c3b0 : ((l1.length : Int) == a0) = false := beq_eq_false_iff_ne.mpr c3; have c3b1 : ((l1.length : Int) != a0) = true := bne_iff_ne.mpr c3
  obtain ⟨y601, hy601⟩ : ∃ y_ : List (List Int), y_ = (([] : List (List Int))) := ⟨_, rfl⟩
  replace H : (Q22.l0 k a0 l1 y601 0) = some r := by first | (rw [hy601]; with_reducible exact H) | (have H2_ := (Option.bind_some _ _).symm.trans H; rw [hy601]; with_reducible exact H2_) | (have H2_ := (Option.bind_some _ _).symm.trans H; with_reducible exact H2_) | with_reducible exact H | (rw [hy601]; exact H) | exact H
  have Ny601 := A_ hy601; clear hy601; have H' := A_ H; clear H; go_enter Tryz.func65, Tryz.ntmps65
  go_wp2_with (first | ((with_reducible refine gate_dst (N := 13) rfl ?_); refine Kd.N_lit (Kd.slice 3 (Kd.int .i64)) _ 26 ?hg (N' := 13) ?hd (xs := ([] : List (List Int))) (inner := []) (ok := (fun k_ => (P1_ k_ ∨ w.heap.size ≤ k_))) (okp := (fun k_ => (P1_ k_ ∨ w.heap.size ≤ k_))) ?hr ?hp (fun _ hk => hk) ((show ∀ k_, w.heap.size ≤ k_ → (fun k_ => (P1_ k_ ∨ w.heap.size ≤ k_)) k_ from fun k_ hk => (.inr (Nat.le_trans (below_size (hq HB)) hk))) _ (Nat.le_refl _)) (Below.refl _ _) (Nat.le_refl _) (by simp) ?_; (case hd => rfl); (case hg => rfl); (case hr => first | (go_simp; done) | (go_simp; rfl)); (case hp => exact (Reps.none _ _)); intro v602 w6 ho7 hb hg_ hnew_; clear hg_ hnew_; (first | rw [← Ny601.out] at ho7 | (simp only [Int.reduceToNat] at ho7; rw [← Ny601.out] at ho7)); replace HO1 := A_ (Kd.V_elder' (vq HO1) (Kd.N_base ho7) hb); have HO603 := A_ (Kd.N_lower ho7 (below_size (hq HB))); replace HB := A_ (below_step (hq HB) hb); clear hb ho7))
  go_loopg [5, 6] k (fun kq v5 v6 w' => ∃ (x5_1 : List (List Int)) (x6_1 : Int), v6 = .int .i64 x6_1 ∧ Aside0 (Q22.l0 kq a0 l1 x5_1 x6_1 = some r) ∧ Aside0 (kq ≤ k) ∧ Aside0 (Kd.V (Kd.int .i64) 3 w' w.heap.size (fun k_ => (P1_ k_ ∨ w.heap.size ≤ k_) ∧ some k_ ≠ (v5 : Value).ownBlock) (.slice A1 l1.length c1) l1) ∧ Aside0 (Kd.N (Kd.slice 3 (Kd.int .i64)) 26 w' w.heap.size (fun k_ => (P1_ k_ ∨ w.heap.size ≤ k_)) v5 x5_1) ∧ Aside0 (Below w.heap.size w w'))
  case atStart => exact ⟨(y601), (0), rf, H', ⟨Nat.le_refl _⟩, ⟨vq HO1⟩, ⟨nq HO603⟩, ⟨hq HB⟩⟩
  case round =>
   clear H'; (try clear c1); (try clear c3); (try clear c3b0); (try clear c3b1); obtain ⟨x5_1, x6_1, rfl, HA, HK1, HO_1, HO_5, HB⟩ := hrel
   cases gk with
   | zero => exact absurd HA.out (by simp [Q22.l0])
   | succ k1 =>
    have H := HA.out; clear HA; simp only [Q22.l0] at H
    by_cases c8 : x6_1 < a0
    ·
     rw [if_pos c8] at H; have c8b0 := decide_eq_true c8; clear c8; replace H := bm H; obtain ⟨t604, A9, H⟩ := H; by_cases c10 : t604 = true
     ·
      subst c10
      rw [if_pos rfl] at H; have H' := A_ H; clear H; go_wp2_with (first | ((with_reducible refine gate_callee (f := 64) rfl ?_); refine gL (some 21) Tryz.func64 #[.slice A1 l1.length c1, .int .i64 x6_1] ?_; (with_reducible refine (Q42.calls k1 _ _ l1 x6_1 true _ ?side1 ?side2 A9.out).mono ?_); (case side1 => exact cq (Kd.V_reads' HO_1.out).2.2); (case side2 => exact (Kd.V_reads' HO_1.out).2.1); rintro e w' ⟨rfl, ⟨nd, rfl⟩⟩; refine ⟨_, rfl, ?_⟩))
      go_roundg k1
      case measure => have := HK1.out; omega
      case rel => exact ⟨(x5_1), (wrap64 (x6_1 + 1)), rf, H', ⟨by have := HK1.out; omega⟩, ⟨vq HO_1⟩, ⟨nq HO_5⟩, ⟨hq HB⟩⟩
     ·
      replace c10 := Bool.eq_false_iff.mpr c10; subst c10
      rw [if_neg nf] at H; replace H := bm H; obtain ⟨t605, A11, H⟩ := H; by_cases c12 : t605.length < 17592186044416
      ·
       rw [if_pos c12] at H; have LMc12 := A_ c12; clear c12
       obtain ⟨y608, hy608⟩ : ∃ y_ : List Int, y_ = (t605 ++ [x6_1]) := ⟨_, rfl⟩
       replace H : ((Q22.f k1 a0 y608).bind fun t611 => (if x5_1.length + t611.length < 5864062014805 then (Q22.l0 k1 a0 l1 (x5_1 ++ t611) (wrap64 (x6_1 + 1))) else (none))) = some r := by first | (rw [hy608]; with_reducible exact H) | (have H2_ := (Option.bind_some _ _).symm.trans H; rw [hy608]; with_reducible exact H2_) | (have H2_ := (Option.bind_some _ _).symm.trans H; with_reducible exact H2_) | with_reducible exact H | (rw [hy608]; exact H) | exact H
       have Ny608 := A_ hy608; clear hy608; replace H := bm H; obtain ⟨t611, A13, H⟩ := H; by_cases c14 : x5_1.length + t611.length < 5864062014805
       ·
        rw [if_pos c14] at H; have LMc14 := A_ c14; clear c14
        obtain ⟨y614, hy614⟩ : ∃ y_ : List (List Int), y_ = (x5_1 ++ t611) := ⟨_, rfl⟩
        replace H : (Q22.l0 k1 a0 l1 y614 (wrap64 (x6_1 + 1))) = some r := by first | (rw [hy614]; with_reducible exact H) | (have H2_ := (Option.bind_some _ _).symm.trans H; rw [hy614]; with_reducible exact H2_) | (have H2_ := (Option.bind_some _ _).symm.trans H; with_reducible exact H2_) | with_reducible exact H | (rw [hy614]; exact H) | exact H
        have Ny614 := A_ hy614; clear hy614; have H' := A_ H; clear H; go_wp2_with (first | ((with_reducible refine gate_callee (f := 64) rfl ?_); refine gL (some 21) Tryz.func64 #[.slice A1 l1.length c1, .int .i64 x6_1] ?_; (with_reducible refine (Q42.calls k1 _ _ l1 x6_1 false _ ?side1 ?side2 A9.out).mono ?_); (case side1 => exact cq (Kd.V_reads' HO_1.out).2.2); (case side2 => exact (Kd.V_reads' HO_1.out).2.1); rintro e w' ⟨rfl, ⟨nd, rfl⟩⟩; refine ⟨_, rfl, ?_⟩) | ((with_reducible refine gate_callee (f := 81) rfl ?_); refine gL (some 26) Tryz.func81 #[.slice A1 l1.length c1] ?_; (with_reducible refine (Q78.calls _ _ l1 t605 _ ?side1 ?side2 A11.out).mono ?_); (case side1 => exact cq (Kd.V_reads' HO_1.out).2.2); (case side2 => exact (Kd.V_reads' HO_1.out).2.1); rintro e w15 ⟨v606, rfl, ho0, hb⟩; refine ⟨_, rfl, ?_⟩; replace HO_1 := A_ (Kd.V_elder' (vq HO_1) (Kd.R_base ho0) hb); replace HO_5 := A_ (Kd.N_elder' (nq HO_5) (Kd.R_base ho0) hb); have HO607 := A_ (Kd.R_lower (Kd.R_newM (M := fun k_ => (w.heap.size ≤ k_)) ho0 (below_size (hq HB)) (fun k_ h_ => h_)) (below_size (hq HB))); replace HB := A_ (below_step (hq HB) hb); clear hb ho0) | ((with_reducible refine gate_builtin (b := .append) (xs := #[.tmp 26, .tmp 28]) rfl ?_); at_builtin; refine Kd.R_append (Kd.int .i64) (w0 := w) w.heap.size rfl (.tmp 26) (.tmp 28) 26 3 (.int .i64 0) 8 rfl Tryz.underlying26 info3 rfl (by decide) (by omega) v606 t605 x6_1 [.int .i64 x6_1] (fun k_ => (w.heap.size ≤ k_)) (fun _ => False) rfl rfl ?aP (fun _ hk => hk.elim) ?aF ?aO ?aB ?aS ?aL ?_; (case aP => exact rfl); (case aB => exact (hq HB)); (case aF => exact (fun k_ hk => (Nat.le_trans (below_size (hq HB)) hk))); (case aO => exact (by (with_reducible repeat (first | apply Kd.R_alloc | apply Kd.R_drewN | apply Kd.R_drew)); exact Kd.R_mono HO607.out (fun _ hk => hk.1))); (case aS => exact (below_size (hq HB))); (case aL => have := LMc12.out; omega); intro v609 w16 ho hb hg hat; rw [← Ny608.out] at ho; have n0_ := A_ (Kd.V_afterv (ok := (fun k_ => (P1_ k_ ∨ w.heap.size ≤ k_) ∧ some k_ ≠ (u5 : Value).ownBlock)) (vq HO_1) hg hat); have n1_ := A_ (Kd.N_afterv (ok := (fun k_ => (P1_ k_ ∨ w.heap.size ≤ k_))) (nq HO_5) hg hat); have n2_ := A_ (hb); have n3_ := A_ (ho); clear HO_1; clear HO_5; clear HB; clear HO607; have HO_1 := n0_; have HO_5 := n1_; have HB := n2_; have HO610 := n3_; clear n0_ n1_ n2_ n3_; clear ho hb hg hat; obtain ⟨Ao17, co17, eo17⟩ := Kd.R_slice HO610.out; subst eo17) | ((with_reducible refine gate_callee (f := 65) rfl ?_); refine gL (some 30) Tryz.func65 #[.int .i64 a0, .slice Ao17 y608.length co17] ?_; (with_reducible refine (ih k1 (by have := HK1.out; omega) a0 (fun k_ => some k_ = (.slice Ao17 y608.length co17 : Value).ownBlock) _ _ y608 t611 _ ?side1 A13.out).mono ?_); (case side1 => exact Kd.R_V (Kd.R_tight rfl (Kd.R_apart' (HO610.out) (Kd.N_typed HO_5.out) (by decide)))); rintro e w18 ⟨v612, rfl, ho0, hb⟩; refine ⟨_, rfl, ?_⟩; replace HO_1 := A_ (Kd.V_elder' (vq HO_1) (Kd.N_base ho0) hb); have HO613 := A_ (Kd.N_lower (Kd.N_mono (ok' := fun k_ => (P1_ k_ ∨ w.heap.size ≤ k_) ∧ some k_ ≠ (u5 : Value).ownBlock) ho0 (fun k_ hk_ => ⟨Or.elim hk_ (fun hs_ => (.inr (((Kd.R_apart' (HO610.out) (Kd.N_typed HO_5.out) (by decide)).1 k_ hs_.symm).1))) (fun hn_ => (.inr (Nat.le_trans (below_size (hq HB)) hn_))), Or.elim hk_ (fun hs_ => ((Kd.R_apart' (HO610.out) (Kd.N_typed HO_5.out) (by decide)).1 k_ hs_.symm).2) (fun hn_ => (Kd.fresh' (Kd.N_lt (nq HO_5)) k_ hn_))⟩)) (below_size (hq HB))); replace HO_5 := A_ (Kd.N_elder' (nq HO_5) (Kd.N_base ho0) hb); replace HO610 := A_ (Kd.R_below (rq HO610) hb); replace HB := A_ (below_step (hq HB) hb); clear hb ho0; obtain ⟨Ao20, co20, eo20⟩ := Kd.N_slice HO613.out; subst eo20) | ((with_reducible refine gate_builtin (b := .append) (xs := #[.tmp 23, .tmp 30]) rfl ?_); at_builtin; refine Kd.N_append_rows (Kd.slice 3 (Kd.int .i64)) (w0 := w) w.heap.size rfl (.tmp 23) (.tmp 30) 61 26 (.slice none 0 0) 24 rfl Tryz.underlying61 info26 rfl (by decide) (by omega) u5 x5_1 t611 _ _ _ (fun k_ => (P1_ k_ ∨ w.heap.size ≤ k_)) (fun k_ => ((fun k_ => (P1_ k_ ∨ w.heap.size ≤ k_))) k_ ∧ some k_ ≠ (u5 : Value).ownBlock) rfl rfl ?aO ?aR (fun _ hk => hk) ?aF ?aB ?aS ?aL ?_; (case aR => exact (by skip; exact Kd.N_F (Kd.N_mono (ok' := (fun k_ => ((fun k_ => (P1_ k_ ∨ w.heap.size ≤ k_))) k_ ∧ some k_ ≠ (u5 : Value).ownBlock)) (HO613.out) (fun k_ hk => ⟨hk.1, hk.2⟩)))); (case aB => exact (hq HB)); (case aF => exact (fun k_ hk => (.inr (Nat.le_trans (below_size (hq HB)) hk)))); (case aO => exact (by (with_reducible repeat (first | apply Kd.N_alloc | apply Kd.N_drewN | apply Kd.N_drew)); exact Kd.N_mono HO_5.out (fun _ hk => hk.1.1))); (case aS => exact (below_size (hq HB))); (case aL => have := LMc14.out; omega); intro v615 w19 ho hb hg hat; rw [← Ny614.out] at ho; have n0_ := A_ (Kd.V_afterv (ok := (fun k_ => (P1_ k_ ∨ w.heap.size ≤ k_) ∧ some k_ ≠ (.slice Ao17 y608.length co17 : Value).ownBlock ∧ some k_ ≠ (.slice Ao20 t611.length co20 : Value).ownBlock)) (by (with_reducible repeat (first | apply Kd.V_alloc | apply Kd.V_drewN | apply Kd.V_drew)); exact Kd.V_mono HO_1.out (fun _ hk => ⟨⟨hk.1.1.1, ⟨hk.1.2, hk.2⟩⟩, hk.1.1.2⟩)) hg hat); have n1_ := A_ (Kd.R_over' (rq HO610) (Kd.N_typed (nq HO_5)) (by decide) hg); have n2_ := A_ (Kd.N_afterv (ok := (fun k_ => (P1_ k_ ∨ w.heap.size ≤ k_))) (nq HO613) hg hat); have n3_ := A_ (hb); have n4_ := A_ (ho); clear HO_1; clear HO610; clear HO613; clear HB; clear HO_5; have HO_1 := n0_; have HO610 := n1_; have HO613 := n2_; have HB := n3_; have HO616 := n4_; clear n0_ n1_ n2_ n3_ n4_; clear ho hb hg hat))
        go_roundg k1
        case measure => have := HK1.out; omega
        case rel => exact ⟨(y614), (wrap64 (x6_1 + 1)), rf, H', ⟨by have := HK1.out; omega⟩, ⟨by (with_reducible repeat (first | apply Kd.V_alloc | apply Kd.V_drewN | apply Kd.V_drew)); exact Kd.V_mono HO_1.out (fun _ hk => ⟨hk.1.1, hk.2⟩)⟩, ⟨nq HO616⟩, ⟨hq HB⟩⟩
       ·
        rw [if_neg c14] at H; exact absurd H (by simp)
      ·
       rw [if_neg c12] at H; exact absurd H (by simp)
    ·
     rw [if_neg c8] at H; have c8b0 := decide_eq_false c8; clear c8; obtain rfl := Option.some.inj H; go_wp2
     go_ret
     exact ⟨_, rt, nq HO_5, hq HB⟩

end Go.Proofs.YtjhppcpjobofbabGreat.PFnRuns
