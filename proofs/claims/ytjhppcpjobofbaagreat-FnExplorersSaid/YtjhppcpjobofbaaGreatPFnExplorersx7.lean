-- Told shorter still by shrink2.py.
-- Printed, and told shorter by this session's program shrink.py.
-- Printed by this session's program myprint.py.
import Derived.Test.YtjhppcpjobofbaaGreatPFnExplorersx0
import Derived.Test.YtjhppcpjobofbaaGreatPFnExplorersx6
namespace Go.Proofs.YtjhppcpjobofbaaGreat.PFnExplorers
open Go.RowKit Go.Proofs.YtjhppcpjobofbaaGreat.Own Go.Proofs.YtjhppcpjobofbaaGreatW.PrintWords Go.Proofs.YtjhppcpjobofbaaGreatW.PrintLast Go.Proofs.YtjhppcpjobofbaaGreatW.PrintMore
attribute [local go_sem] max2_int min2_int max_two min_two max_three min_three max_four min_four   -- for this text's walks alone
set_option linter.unusedVariables false
set_option linter.unusedSimpArgs false

/-! ### impl_runs_firstOrder: function 30 -/
mutual
def Q13.l0 : Nat → List Int → List (List Int) → Int → Int → Int → Bool → List (List (List Int)) → Option (Int × List Int × Bool)
  | 0, _, _, _, _, _, _, _ => none
  | k + 1, x1, x7, x18, x19, x335000, x335001, x335002 => if x19 < x18 then (if x19 > 0 then (Q13.j1 k x1 x7 x19 x18 x19 (!x335001) x335000 x335001 x335002) else (Q13.j1 k x1 x7 x19 x18 x19 false x335000 x335001 x335002)) else (some (0, ([] : List Int), false))
def Q13.j1 : Nat → List Int → List (List Int) → Int → Int → Int → Bool → Int → Bool → List (List (List Int)) → Option (Int × List Int × Bool)
  | 0, _, _, _, _, _, _, _, _, _ => none
  | k + 1, x1, x7, x8, x18, x19, x29, x335000, x335001, x335002 => if x29 = true then (some (0, ([] : List Int), false)) else (Q13.l1 k x1 x7 x8 x18 x19 x7 (x7.length : Int) 0 x335000 x335001 x335002)
def Q13.l1 : Nat → List Int → List (List Int) → Int → Int → Int → List (List Int) → Int → Int → Int → Bool → List (List (List Int)) → Option (Int × List Int × Bool)
  | 0, _, _, _, _, _, _, _, _, _, _, _ => none
  | k + 1, x1, x7, x8, x18, x19, x30, x31, x32, x335000, x335001, x335002 => if x32 < x31 then (if 0 ≤ x32 then (if x32 < (x30.length : Int) then ((Q19.f k x335000 x335001 x335002 x1 x8 (rd_L2 x30 x32)).bind fun bt339 => (if bt339.2 = true then (some (x8, rd_L2 x30 x32, true)) else (Q13.l1 k x1 x7 x8 x18 x19 x30 x31 (wrap64 (x32 + 1)) x335000 x335001 x335002))) else (none)) else (none)) else (Q13.l0 k x1 x7 x18 (wrap64 (x19 + 1)) x335000 x335001 x335002)
end
def Q13.f (k : Nat) (a0_0 : Int) (a0_1 : Bool) (l0_2 : List (List (List Int))) (l1 : List Int) : Option (Int × List Int × Bool) := (Q66.f k (l1.length : Int)).bind fun t335 => (Q13.l0 k l1 t335 a0_0 0 a0_0 a0_1 l0_2)
set_option maxHeartbeats 8000000 in
set_option maxRecDepth 100000 in
theorem Q13.calls (k : Nat) (a0_0 : Int) (a0_1 : Bool) (A0_2 : Option Addr) (c0_2 : Nat) (l0_2 : List (List (List Int))) (A1 : Option Addr) (c1 : Nat) (l1 : List Int) (r1 : Int) (r2 : List Int) (r3 : Bool) (w : World) (hr0_2 : Kd.C (Kd.slice 26 (Kd.slice 3 (Kd.int .i64))) w A0_2 l0_2.length l0_2) (hc0_2 : l0_2.length ≤ c0_2) (hr1 : Kd.C (Kd.int .i64) w A1 l1.length l1) (hc1 : l1.length ≤ c1) (h : Q13.f k a0_0 a0_1 l0_2 l1 = some (r1, r2, r3)) :
    Calls Tryz.prog 30 #[.agg #[.int .i64 a0_0, .bool a0_1, .slice A0_2 l0_2.length c0_2], .slice A1 l1.length c1] w fun e w' => ∃ v1_ : Value, e = .returned (.tuple #[.int .i64 r1, v1_, .bool r3]) ∧ Kd.R (Kd.int .i64) 3 w' w.heap.size (fun _ => True) v1_ r2 ∧ Below w.heap.size w w' := by
 have hu55 := Tryz.underlying55; have HR0_2 := A_ hr0_2; have HC0_2 := A_ hc0_2; clear hr0_2 hc0_2; have HR1 := A_ hr1; have HC1 := A_ hc1; clear hr1 hc1; have HB := A_ (Below.refl w.heap.size w); have H : ((Q66.f k (l1.length : Int)).bind fun t335 => (Q13.l0 k l1 t335 a0_0 0 a0_0 a0_1 l0_2)) = some (r1, r2, r3) := h; clear h; replace H := bm H; obtain ⟨t335, A3, H⟩ := H; have H' := A_ H; clear H; go_enter Tryz.func30, Tryz.ntmps30
 go_wp2_with (first | ((with_reducible refine gate_dst (N := 2) rfl ?_); refine bx (N := 2) #[.int .i64 a0_0, .bool a0_1, .slice A0_2 l0_2.length c0_2] 55 ?_; intro gb334 hg w4 hbox hb; have BK334 := A_ (hbox); have GW334 := A_ (bs hg (hq HB) : w.heap.size ≤ gb334); have GE334 := A_ (bs hg (hq HB) : w.heap.size ≤ gb334); replace HB := A_ (below_step (hq HB) hb); clear hb hbox hg) | ((with_reducible refine gate_callee (f := 51) rfl ?_); refine gL (some 15) Tryz.func51 #[.int .i64 (l1.length : Int)] ?_; (with_reducible refine (Q66.calls k (l1.length : Int) t335 _ A3.out).mono ?_); rintro e w5 ⟨v336, rfl, ho0, hb⟩; refine ⟨_, rfl, ?_⟩; have HO337 := A_ (Kd.S_lower ho0 (below_size (hq HB))); replace BK334 := A_ (blk_below (bq BK334) hb); replace HB := A_ (below_step (hq HB) hb); clear hb ho0; have hcz6_0 : w5.cell? ⟨gb334, 0, none⟩ = some (.int .i64 a0_0) := bc BK334 0; have hcz6_1 : w5.cell? ⟨gb334, 1, none⟩ = some (.bool a0_1) := bc BK334 1; have hcz6_2 : w5.cell? ⟨gb334, 2, none⟩ = some (.slice A0_2 l0_2.length c0_2) := bc BK334 2; have hfz6_0 := blk_frozen BK334.out 0; have hfz6_1 := blk_frozen BK334.out 1; have hfz6_2 := blk_frozen BK334.out 2))
 go_loopg [19] k (fun kq v19 w' => ∃ (x19_1 : Int), v19 = .int .i64 x19_1 ∧ Aside0 (Q13.l0 kq l1 t335 a0_0 x19_1 a0_0 a0_1 l0_2 = some (r1, r2, r3)) ∧ Aside0 (kq ≤ k) ∧ Aside0 (Kd.S (Kd.slice 3 (Kd.int .i64)) 26 w' w.heap.size (fun _ => True) v336 t335) ∧ Aside0 (w'.heap[gb334]? = some (.cells #[.int .i64 a0_0, .bool a0_1, (.slice A0_2 l0_2.length c0_2)] 55 (0, 0))) ∧ Aside0 (Below w.heap.size w w'))
 case atStart => exact ⟨(0), rf, H', ⟨Nat.le_refl _⟩, ⟨sq HO337⟩, ⟨bq BK334⟩, ⟨hq HB⟩⟩
 case round =>
  clear H'; (try clear hcz6_0); (try clear hcz6_1); (try clear hcz6_2); (try clear hfz6_0); (try clear hfz6_1); (try clear hfz6_2); obtain ⟨x19_1, rfl, HA, HK1, HO_7, BK334, HB⟩ := hrel
  cases gk with
  | zero => exact absurd HA.out (by simp [Q13.l0])
  | succ k1 =>
   have H := HA.out; clear HA; simp only [Q13.l0] at H
   by_cases c7 : x19_1 < a0_0
   ·
    rw [if_pos c7] at H; have c7b0 := decide_eq_true c7; clear c7; have HC8 := A_ H; clear H; go_upto_region 5 with (fail)
    go_cut [29] (fun v29 wc => ∃ (kq : Nat) (x29_7 : Bool), v29 = .bool x29_7 ∧ Aside0 (Q13.j1 kq l1 t335 x19_1 a0_0 x19_1 x29_7 a0_0 a0_1 l0_2 = some (r1, r2, r3)) ∧ Aside0 (kq ≤ k1) ∧ Aside0 (Kd.S (Kd.slice 3 (Kd.int .i64)) 26 wc w.heap.size (fun _ => True) v336 t335) ∧ Aside0 (wc.heap[gb334]? = some (.cells #[.int .i64 a0_0, .bool a0_1, (.slice A0_2 l0_2.length c0_2)] 55 (0, 0))) ∧ Aside0 (Below w.heap.size w wc))
    case first =>
     have H := HC8.out; clear HC8; by_cases c9 : x19_1 > 0
     ·
      rw [if_pos c9] at H; have c9b0 : decide (0 < x19_1) = true := decide_eq_true c9; clear c9; (first | rw [c9b0] | (simp only [i64_w, i32_w]; rw [c9b0]) | skip); have H' := A_ H; clear H; have hcz10_0 : wr.cell? ⟨gb334, 0, none⟩ = some (.int .i64 a0_0) := bc BK334 0; have hcz10_1 : wr.cell? ⟨gb334, 1, none⟩ = some (.bool a0_1) := bc BK334 1; have hcz10_2 : wr.cell? ⟨gb334, 2, none⟩ = some (.slice A0_2 l0_2.length c0_2) := bc BK334 2; have hfz10_0 := blk_frozen BK334.out 0; have hfz10_1 := blk_frozen BK334.out 1; have hfz10_2 := blk_frozen BK334.out 2; go_wp2
      go_meet
      case rel => exact ⟨_, (!a0_1), rf, H', ⟨by have := HK1.out; first | omega | exact Nat.le_refl _⟩, ⟨sq HO_7⟩, ⟨bq BK334⟩, ⟨hq HB⟩⟩
     ·
      rw [if_neg c9] at H; have c9b0 : decide (0 < x19_1) = false := decide_eq_false c9; clear c9; (first | rw [c9b0] | (simp only [i64_w, i32_w]; rw [c9b0]) | skip); have H' := A_ H; clear H; go_wp2
      go_meet
      case rel => exact ⟨_, (false), rf, H', ⟨by have := HK1.out; first | omega | exact Nat.le_refl _⟩, ⟨sq HO_7⟩, ⟨bq BK334⟩, ⟨hq HB⟩⟩
    case rest =>
     clear HC8; (try clear c7); (try clear c7b0); (try clear c9); (try clear c9b0); (try clear hcz10_0); (try clear hcz10_1); (try clear hcz10_2); (try clear hcz6_0); (try clear hcz6_1); (try clear hcz6_2); (try clear hfz10_0); (try clear hfz10_1); (try clear hfz10_2); (try clear hfz6_0); (try clear hfz6_1); (try clear hfz6_2); obtain ⟨kq, x29_7, rfl, HA, HJ7, HO_7, BK334, HB⟩ := hcut
     cases kq with
     | zero => exact absurd HA.out (by simp [Q13.j1])
     | succ kj7 =>
      have H := HA.out; clear HA; simp only [Q13.j1] at H
      by_cases c11 : x29_7 = true
      ·
       subst c11
       have H1 : (some (0, ([] : List Int), false)) = some (r1, r2, r3) := by rw [if_pos rfl] at H; exact H
       clear H; have H := H1; clear H1; simp only [Option.some.injEq, Prod.mk.injEq] at H
       obtain ⟨rfl, rfl, rfl⟩ := H; go_wp2
       go_ret3
       exact ⟨_, rt, by first | exact Kd.R_nil _ _ _ _ _ | exact Kd.N_nil _ _ _ _ _ | exact Kd.V_nil _ _ _ _ _ | exact Kd.Q_nil _ _ _ _ _ | exact Kd.S_nil _ _ _ _ _, hq HB⟩
      ·
       replace c11 := Bool.eq_false_iff.mpr c11; subst c11
       have H1 : (Q13.l1 kj7 l1 t335 x19_1 a0_0 x19_1 t335 (t335.length : Int) 0 a0_0 a0_1 l0_2) = some (r1, r2, r3) := by rw [if_neg (show ¬ (false = true) by decide)] at H; exact H
       clear H; have H := H1; clear H1; have H' := A_ H; clear H; obtain ⟨Ao12, co12, eo12⟩ := Kd.S_slice HO_7.out; subst eo12; go_wp2
       go_loopg [32] kj7 (fun kq v32 w' => ∃ (x32_3 : Int), v32 = .int .i64 x32_3 ∧ Aside0 (Q13.l1 kq l1 t335 x19_1 a0_0 x19_1 t335 (t335.length : Int) x32_3 a0_0 a0_1 l0_2 = some (r1, r2, r3)) ∧ Aside0 (kq ≤ kj7) ∧ Aside0 (Kd.S (Kd.slice 3 (Kd.int .i64)) 26 w' w.heap.size (fun _ => True) (.slice Ao12 t335.length co12) t335) ∧ Aside0 (Kd.S (Kd.slice 3 (Kd.int .i64)) 26 w' w.heap.size (fun _ => True) (.slice Ao12 t335.length co12) t335) ∧ Aside0 (w'.heap[gb334]? = some (.cells #[.int .i64 a0_0, .bool a0_1, (.slice A0_2 l0_2.length c0_2)] 55 (0, 0))) ∧ Aside0 (Below w.heap.size w w'))
       case atStart => exact ⟨(0), rf, H', ⟨Nat.le_refl _⟩, ⟨sq HO_7⟩, ⟨sq HO_7⟩, ⟨bq BK334⟩, ⟨hq HB⟩⟩
       case round =>
        clear H'; (try clear c7); (try clear c7b0); (try clear c9); (try clear c9b0); (try clear c11); (try clear hcz10_0); (try clear hcz10_1); (try clear hcz10_2); (try clear hcz6_0); (try clear hcz6_1); (try clear hcz6_2); (try clear hfz10_0); (try clear hfz10_1); (try clear hfz10_2); (try clear hfz6_0); (try clear hfz6_1); (try clear hfz6_2); obtain ⟨x32_3, rfl, HA, HK3, HO_7, HO_30, BK334, HB⟩ := hrel
        cases gk with
        | zero => exact absurd HA.out (by simp [Q13.l1])
        | succ k3 =>
         have H := HA.out; clear HA; simp only [Q13.l1] at H
         by_cases c13 : x32_3 < (t335.length : Int)
         ·
          rw [if_pos c13] at H; have c13b0 := decide_eq_true c13; clear c13; by_cases c14 : 0 ≤ x32_3
          ·
           rw [if_pos c14] at H; have c14b0 := decide_eq_true c14; clear c14; by_cases c15 : x32_3 < (t335.length : Int)
           ·
            rw [if_pos c15] at H; have c15b0 := decide_eq_true c15; clear c15; replace H := bm H; obtain ⟨⟨t339, t342⟩, A16, H⟩ := H; (try dsimp only at H); by_cases c17 : t342 = true
            ·
             subst c17
             have H1 : (some (x19_1, rd_L2 t335 x32_3, true)) = some (r1, r2, r3) := by rw [if_pos rfl] at H; exact H
             clear H; have H := H1; clear H1; simp only [Option.some.injEq, Prod.mk.injEq] at H
             obtain ⟨rfl, rfl, rfl⟩ := H; have p338 : 0 ≤ (x32_3 : Int) := dq; have q338 : x32_3 < (t335.length : Int) := dq; obtain ⟨ad338, A338_0, c338_0, e338, hx338_0, hl338_0, hi338_0⟩ := at_L2 (Kd.S_reads' HO_30.out).2.2 x32_3 p338 q338
             cases e338
             obtain ⟨ce338, hce338, hMe338, hcc338⟩ := Kd.S_get HO_30.out [] x32_3 p338 (by first | exact q338 | exact dq | (have e_ := (Kd.S_reads' HO_30.out).1; omega)); obtain ⟨ve338_0, rfl, ge338_0⟩ := hMe338; have hv338_0 := hcc338 0 _ rfl; rw [Nat.add_zero, show ((Kd.slice 3 (Kd.int .i64))).sz = 1 from rfl, Nat.mul_one] at hv338_0; replace hv338_0 := Option.some.inj (hv338_0.symm.trans hx338_0); rw [hv338_0] at ge338_0; have HL338_0 := A_ (show Kd.R (Kd.int .i64) 3 _ _ _ _ (rd_L2 t335 x32_3) from ge338_0); clear hv338_0 ge338_0 hcc338 hce338; have HR338_0 := A_ hi338_0; have HC338_0 := A_ hl338_0; clear hi338_0 hl338_0; replace p338 := eq_true p338; replace q338 := eq_true q338; have hcz18_0 : wr.cell? ⟨gb334, 0, none⟩ = some (.int .i64 a0_0) := bc BK334 0; have hcz18_1 : wr.cell? ⟨gb334, 1, none⟩ = some (.bool a0_1) := bc BK334 1; have hcz18_2 : wr.cell? ⟨gb334, 2, none⟩ = some (.slice A0_2 l0_2.length c0_2) := bc BK334 2; have hfz18_0 := blk_frozen BK334.out 0; have hfz18_1 := blk_frozen BK334.out 1; have hfz18_2 := blk_frozen BK334.out 2; go_wp2_with (first | ((with_reducible refine gate_callee (f := 52) rfl ?_); refine gL (some 41) Tryz.func52 #[.agg #[.int .i64 a0_0, .bool a0_1, .slice A0_2 l0_2.length c0_2], .slice A1 l1.length c1, .int .i64 x19_1, .slice A338_0 (rd_L2 t335 x32_3).length c338_0] ?_; (with_reducible refine (Q19.calls k3 a0_0 a0_1 _ _ l0_2 _ _ l1 x19_1 _ _ (rd_L2 t335 x32_3) t339 true _ ?side1 ?side2 ?side3 ?side4 ?side5 ?side6 A16.out).mono ?_); (case side1 => exact cq (Kd.C_below HR0_2.out HB.out)); (case side2 => exact HC0_2.out); (case side3 => exact cq (Kd.C_below HR1.out HB.out)); (case side4 => exact HC1.out); (case side5 => repeat (first | exact (by repeat (first | (with_reducible exact HR338_0.out) | (with_reducible refine Kd.C_alloc ?_ _) | (with_reducible refine Kd.C_drewN ?_ _) | (with_reducible refine Kd.C_drew ?_) | exact HR338_0.out)) | (with_reducible refine Kd.C_alloc ?_ _) | (with_reducible refine Kd.C_drewN ?_ _) | (with_reducible refine Kd.C_drew ?_))); (case side6 => exact HC338_0.out); rintro e w19 ⟨v340, rfl, ho0, hb⟩; refine ⟨_, rfl, ?_⟩; replace HO_7 := A_ (Kd.S_elder' (sq HO_7) (Kd.R_base ho0) hb); replace HO_30 := A_ (Kd.S_elder' (sq HO_30) (Kd.R_base ho0) hb); have HO341 := A_ (Kd.R_lower (Kd.R_new' ho0 (Kd.R_lt (by (with_reducible repeat (first | apply Kd.R_alloc | apply Kd.R_drewN | apply Kd.R_drew)); exact HL338_0.out))) (below_size (hq HB))); replace HL338_0 := A_ (Kd.R_elder' (by (with_reducible repeat (first | apply Kd.R_alloc | apply Kd.R_drewN | apply Kd.R_drew)); exact HL338_0.out) (Kd.R_base ho0) hb); replace BK334 := A_ (blk_below (bq BK334) hb); replace HR338_0 := A_ (Kd.C_below (by repeat (first | (with_reducible exact HR338_0.out) | (with_reducible refine Kd.C_alloc ?_ _) | (with_reducible refine Kd.C_drewN ?_ _) | (with_reducible refine Kd.C_drew ?_) | exact HR338_0.out)) hb); replace HB := A_ (below_step (hq HB) hb); clear hb ho0))
             go_ret3
             exact ⟨_, rt, by (with_reducible repeat (first | apply Kd.R_alloc | apply Kd.R_drewN | apply Kd.R_drew)); exact Kd.R_mono HL338_0.out (fun _ hk => trivial), hq HB⟩
            ·
             replace c17 := Bool.eq_false_iff.mpr c17; subst c17
             have H1 : (Q13.l1 k3 l1 t335 x19_1 a0_0 x19_1 t335 (t335.length : Int) (wrap64 (x32_3 + 1)) a0_0 a0_1 l0_2) = some (r1, r2, r3) := by rw [if_neg (show ¬ (false = true) by decide)] at H; exact H
             clear H; have H := H1; clear H1; have H' := A_ H; clear H; have p338 : 0 ≤ (x32_3 : Int) := dq; have q338 : x32_3 < (t335.length : Int) := dq; obtain ⟨ad338, A338_0, c338_0, e338, hx338_0, hl338_0, hi338_0⟩ := at_L2 (Kd.S_reads' HO_30.out).2.2 x32_3 p338 q338
             cases e338
             obtain ⟨ce338, hce338, hMe338, hcc338⟩ := Kd.S_get HO_30.out [] x32_3 p338 (by first | exact q338 | exact dq | (have e_ := (Kd.S_reads' HO_30.out).1; omega)); obtain ⟨ve338_0, rfl, ge338_0⟩ := hMe338; have hv338_0 := hcc338 0 _ rfl; rw [Nat.add_zero, show ((Kd.slice 3 (Kd.int .i64))).sz = 1 from rfl, Nat.mul_one] at hv338_0; replace hv338_0 := Option.some.inj (hv338_0.symm.trans hx338_0); rw [hv338_0] at ge338_0; have HL338_0 := A_ (show Kd.R (Kd.int .i64) 3 _ _ _ _ (rd_L2 t335 x32_3) from ge338_0); clear hv338_0 ge338_0 hcc338 hce338; have HR338_0 := A_ hi338_0; have HC338_0 := A_ hl338_0; clear hi338_0 hl338_0; replace p338 := eq_true p338; replace q338 := eq_true q338; have hcz20_0 : wr.cell? ⟨gb334, 0, none⟩ = some (.int .i64 a0_0) := bc BK334 0; have hcz20_1 : wr.cell? ⟨gb334, 1, none⟩ = some (.bool a0_1) := bc BK334 1; have hcz20_2 : wr.cell? ⟨gb334, 2, none⟩ = some (.slice A0_2 l0_2.length c0_2) := bc BK334 2; have hfz20_0 := blk_frozen BK334.out 0; have hfz20_1 := blk_frozen BK334.out 1; have hfz20_2 := blk_frozen BK334.out 2; go_wp2_with (first | ((with_reducible refine gate_callee (f := 52) rfl ?_); refine gL (some 41) Tryz.func52 #[.agg #[.int .i64 a0_0, .bool a0_1, .slice A0_2 l0_2.length c0_2], .slice A1 l1.length c1, .int .i64 x19_1, .slice A338_0 (rd_L2 t335 x32_3).length c338_0] ?_; (with_reducible refine (Q19.calls k3 a0_0 a0_1 _ _ l0_2 _ _ l1 x19_1 _ _ (rd_L2 t335 x32_3) t339 false _ ?side1 ?side2 ?side3 ?side4 ?side5 ?side6 A16.out).mono ?_); (case side1 => exact cq (Kd.C_below HR0_2.out HB.out)); (case side2 => exact HC0_2.out); (case side3 => exact cq (Kd.C_below HR1.out HB.out)); (case side4 => exact HC1.out); (case side5 => repeat (first | exact (by repeat (first | (with_reducible exact HR338_0.out) | (with_reducible refine Kd.C_alloc ?_ _) | (with_reducible refine Kd.C_drewN ?_ _) | (with_reducible refine Kd.C_drew ?_) | exact HR338_0.out)) | (with_reducible refine Kd.C_alloc ?_ _) | (with_reducible refine Kd.C_drewN ?_ _) | (with_reducible refine Kd.C_drew ?_))); (case side6 => exact HC338_0.out); rintro e w21 ⟨v340, rfl, ho0, hb⟩; refine ⟨_, rfl, ?_⟩; replace HO_7 := A_ (Kd.S_elder' (sq HO_7) (Kd.R_base ho0) hb); replace HO_30 := A_ (Kd.S_elder' (sq HO_30) (Kd.R_base ho0) hb); have HO341 := A_ (Kd.R_lower (Kd.R_new' ho0 (Kd.R_lt (by (with_reducible repeat (first | apply Kd.R_alloc | apply Kd.R_drewN | apply Kd.R_drew)); exact HL338_0.out))) (below_size (hq HB))); replace HL338_0 := A_ (Kd.R_elder' (by (with_reducible repeat (first | apply Kd.R_alloc | apply Kd.R_drewN | apply Kd.R_drew)); exact HL338_0.out) (Kd.R_base ho0) hb); replace BK334 := A_ (blk_below (bq BK334) hb); replace HR338_0 := A_ (Kd.C_below (by repeat (first | (with_reducible exact HR338_0.out) | (with_reducible refine Kd.C_alloc ?_ _) | (with_reducible refine Kd.C_drewN ?_ _) | (with_reducible refine Kd.C_drew ?_) | exact HR338_0.out)) hb); replace HB := A_ (below_step (hq HB) hb); clear hb ho0))
             go_roundg k3
             case measure => have := HK1.out; have := HJ7.out; have := HK3.out; omega
             case rel => exact ⟨(wrap64 (x32_3 + 1)), rf, H', ⟨by have := HK1.out; have := HJ7.out; have := HK3.out; omega⟩, ⟨by (with_reducible repeat (first | apply Kd.S_alloc | apply Kd.S_drewN | apply Kd.S_drew)); exact Kd.S_mono HO_7.out (fun _ hk => trivial)⟩, ⟨by (with_reducible repeat (first | apply Kd.S_alloc | apply Kd.S_drewN | apply Kd.S_drew)); exact Kd.S_mono HO_30.out (fun _ hk => trivial)⟩, ⟨bq BK334⟩, ⟨hq HB⟩⟩
           ·
            rw [if_neg c15] at H; exact absurd H (by simp)
          ·
           rw [if_neg c14] at H; exact absurd H (by simp)
         ·
          rw [if_neg c13] at H; have c13b0 := decide_eq_false c13; clear c13; have H' := A_ H; clear H; go_wp2
          go_roundg k3
          case measure => have := HK1.out; have := HJ7.out; have := HK3.out; omega
          case rel => exact ⟨(wrap64 (x19_1 + 1)), rf, H', ⟨by have := HK1.out; have := HJ7.out; have := HK3.out; omega⟩, ⟨sq HO_7⟩, ⟨bq BK334⟩, ⟨hq HB⟩⟩
   ·
    rw [if_neg c7] at H; have c7b0 := decide_eq_false c7; clear c7; simp only [Option.some.injEq, Prod.mk.injEq] at H
    obtain ⟨rfl, rfl, rfl⟩ := H; go_wp2
    go_ret3
    exact ⟨_, rt, by first | exact Kd.R_nil _ _ _ _ _ | exact Kd.N_nil _ _ _ _ _ | exact Kd.V_nil _ _ _ _ _ | exact Kd.Q_nil _ _ _ _ _ | exact Kd.S_nil _ _ _ _ _, hq HB⟩

/-! ### bits_Mul32: function 69 -/
def Q84.f (a0 : Int) (a1 : Int) : Option (Int × Int) := some (((IntKind.u64.wrap ((IntKind.u64.wrap (a0)) * (IntKind.u64.wrap (a1)))) / 4294967296) % 4294967296, (IntKind.u64.wrap ((IntKind.u64.wrap (a0)) * (IntKind.u64.wrap (a1)))) % 4294967296)
set_option maxHeartbeats 8000000 in
set_option maxRecDepth 100000 in
theorem Q84.calls (a0 : Int) (a1 : Int) (r1 : Int) (r2 : Int) (w : World) (h : Q84.f a0 a1 = some (r1, r2)) :
    Calls Tryz.prog 69 #[.int .u32 a0, .int .u32 a1] w fun e w' => e = .returned (.tuple #[.int .u32 r1, .int .u32 r2]) ∧ Drawn0 w w' := by
 have H : (some (((IntKind.u64.wrap ((IntKind.u64.wrap (a0)) * (IntKind.u64.wrap (a1)))) / 4294967296) % 4294967296, (IntKind.u64.wrap ((IntKind.u64.wrap (a0)) * (IntKind.u64.wrap (a1)))) % 4294967296)) = some (r1, r2) := h; clear h; simp only [Option.some.injEq, Prod.mk.injEq] at H
 obtain ⟨rfl, rfl⟩ := H; go_enter Tryz.func69, Tryz.ntmps69
 go_wp2
 go_ret2
 exact ⟨rf, by repeat (first | exact Drawn0.refl _ | apply Drawn0.step)⟩

/-! ### bits_Mul64: function 70 -/
def Q61.f (a0 : Int) (a1 : Int) : Option (Int × Int) := some (IntKind.u64.wrap ((IntKind.u64.wrap ((IntKind.u64.wrap ((a0 / 4294967296) * (a1 / 4294967296))) + ((IntKind.u64.wrap ((IntKind.u64.wrap ((a0 / 4294967296) * (Go.bits .and .u64 a1 4294967295))) + ((IntKind.u64.wrap ((Go.bits .and .u64 a0 4294967295) * (Go.bits .and .u64 a1 4294967295))) / 4294967296))) / 4294967296))) + ((IntKind.u64.wrap ((Go.bits .and .u64 (IntKind.u64.wrap ((IntKind.u64.wrap ((a0 / 4294967296) * (Go.bits .and .u64 a1 4294967295))) + ((IntKind.u64.wrap ((Go.bits .and .u64 a0 4294967295) * (Go.bits .and .u64 a1 4294967295))) / 4294967296))) 4294967295) + (IntKind.u64.wrap ((Go.bits .and .u64 a0 4294967295) * (a1 / 4294967296))))) / 4294967296)), IntKind.u64.wrap (a0 * a1))
set_option maxHeartbeats 8000000 in
set_option maxRecDepth 100000 in
theorem Q61.calls (a0 : Int) (a1 : Int) (r1 : Int) (r2 : Int) (w : World) (h : Q61.f a0 a1 = some (r1, r2)) :
    Calls Tryz.prog 70 #[.int .u64 a0, .int .u64 a1] w fun e w' => e = .returned (.tuple #[.int .u64 r1, .int .u64 r2]) ∧ Drawn0 w w' := by
 have H : (some (IntKind.u64.wrap ((IntKind.u64.wrap ((IntKind.u64.wrap ((a0 / 4294967296) * (a1 / 4294967296))) + ((IntKind.u64.wrap ((IntKind.u64.wrap ((a0 / 4294967296) * (Go.bits .and .u64 a1 4294967295))) + ((IntKind.u64.wrap ((Go.bits .and .u64 a0 4294967295) * (Go.bits .and .u64 a1 4294967295))) / 4294967296))) / 4294967296))) + ((IntKind.u64.wrap ((Go.bits .and .u64 (IntKind.u64.wrap ((IntKind.u64.wrap ((a0 / 4294967296) * (Go.bits .and .u64 a1 4294967295))) + ((IntKind.u64.wrap ((Go.bits .and .u64 a0 4294967295) * (Go.bits .and .u64 a1 4294967295))) / 4294967296))) 4294967295) + (IntKind.u64.wrap ((Go.bits .and .u64 a0 4294967295) * (a1 / 4294967296))))) / 4294967296)), IntKind.u64.wrap (a0 * a1))) = some (r1, r2) := h; clear h; simp only [Option.some.injEq, Prod.mk.injEq] at H
 obtain ⟨rfl, rfl⟩ := H; go_enter Tryz.func70, Tryz.ntmps70
 go_wp2
 go_ret2
 exact ⟨rf, by repeat (first | exact Drawn0.refl _ | apply Drawn0.step)⟩

/-! ### bits_Mul: function 58 -/
def Q69.f (a0 : Int) (a1 : Int) : Option (Int × Int) := (Q61.f a0 a1).bind fun bt343 => (some (bt343.1, bt343.2))
set_option maxHeartbeats 8000000 in
set_option maxRecDepth 100000 in
theorem Q69.calls (a0 : Int) (a1 : Int) (r1 : Int) (r2 : Int) (w : World) (h : Q69.f a0 a1 = some (r1, r2)) :
    Calls Tryz.prog 58 #[.int .u64 a0, .int .u64 a1] w fun e w' => e = .returned (.tuple #[.int .u64 r1, .int .u64 r2]) ∧ Drawn0 w w' := by
 have H : ((Q61.f a0 a1).bind fun bt343 => (some (bt343.1, bt343.2))) = some (r1, r2) := h; clear h; replace H := bm H; obtain ⟨⟨t343, t344⟩, A3, H⟩ := H; (try dsimp only at H); simp only [Option.some.injEq, Prod.mk.injEq] at H
 obtain ⟨rfl, rfl⟩ := H; go_enter Tryz.func58, Tryz.ntmps58
 go_wp2_with (first | ((with_reducible refine gate_callee (f := 70) rfl ?_); refine gL (some 25) Tryz.func70 #[.int .u64 a0, .int .u64 a1] ?_; (with_reducible refine (Q61.calls a0 a1 t343 t344 _ A3.out).mono ?_); rintro e w' ⟨rfl, ⟨nd, rfl⟩⟩; refine ⟨_, rfl, ?_⟩))
 go_ret2
 exact ⟨rf, by repeat (first | exact Drawn0.refl _ | apply Drawn0.step)⟩

/-! ### slices.Repeat at ints: some of a list, over and over -/
def repI (l : List Int) (c : Nat) : List Int := (List.range (l.length * c)).map fun i => rd l ((i % l.length : Nat) : Int)
theorem repI_len (l : List Int) (c : Nat) : (repI l c).length = l.length * c := by simp [repI]
theorem repI_get (l : List Int) (c i : Nat) (h : i < l.length * c) : (repI l c)[i]? = some (rd l ((i % l.length : Nat) : Int)) := by simp [repI, h]
theorem repI_take (l : List Int) (c : Nat) (h : 0 < c) : (repI l c).take l.length = l := by
  apply List.ext_getElem?
  intro i
  rcases Nat.lt_or_ge i l.length with hi | hi
  · have h2 : i < l.length * c := Nat.lt_of_lt_of_le hi (Nat.le_mul_of_pos_right _ h)
    rw [List.getElem?_take_of_lt hi, repI_get l c i h2, Nat.mod_eq_of_lt hi]
    unfold rd
    rw [Int.toNat_natCast, List.getD_eq_getElem?_getD, List.getElem?_eq_getElem hi]
    rfl
  · rw [List.getElem?_eq_none (by rw [List.length_take]; omega), List.getElem?_eq_none (by omega)]
/-- What has been laid, laid once more behind itself. -/
theorem repI_more (l : List Int) (c n d : Nat) (hd : d ≤ n) (hn : n + d ≤ l.length * c) (hm : l.length ∣ n) : (repI l c).take (n + d) = (repI l c).take n ++ (repI l c).take d := by
  apply List.ext_getElem?
  intro i
  have hl := repI_len l c
  rcases Nat.lt_or_ge i n with hi | hi
  · rw [List.getElem?_append_left (by rw [List.length_take]; omega), List.getElem?_take_of_lt hi, List.getElem?_take_of_lt (by omega)]
  · rw [List.getElem?_append_right (by rw [List.length_take]; omega), List.length_take, Nat.min_eq_left (by omega)]
    rcases Nat.lt_or_ge (i - n) d with h2 | h2
    · rw [List.getElem?_take_of_lt (by omega), List.getElem?_take_of_lt h2, repI_get l c i (by omega), repI_get l c (i - n) (by omega)]
      obtain ⟨q, rfl⟩ := hm
      congr 2
      conv => lhs; rw [show i = i - l.length * q + l.length * q by omega]
      rw [Nat.add_mul_mod_self_left]
    · rw [List.getElem?_eq_none (by rw [List.length_take]; omega), List.getElem?_eq_none (by rw [List.length_take]; omega)]
def Q55.f (k : Nat) (l0 : List Int) (a1 : Int) : Option (List Int) := if 0 < l0.length ∧ l0.length ≤ 65536 ∧ 1 ≤ a1 ∧ a1 ≤ 65536 then some (repI l0 a1.toNat) else none
theorem mul_small (L n : Nat) (hL : L ≤ 65536) (hn : n ≤ 65536) : Q69.f (L : Int) (n : Int) = some (0, ((L * n : Nat) : Int)) := by
  have hb : L * n ≤ 65536 * 65536 := Nat.mul_le_mul hL hn
  have e1 : (L : Int) / 4294967296 = 0 := by omega
  have e2 : (n : Int) / 4294967296 = 0 := by omega
  have m1 : ∀ x : Nat, x ≤ 65536 → Go.bits .and .u64 (x : Int) 4294967295 = (x : Int) := by
    intro x hx
    have := bits_and_u64_nat x 4294967295 (by omega) (by decide)
    rw [show ((4294967295 : Nat) : Int) = 4294967295 from rfl] at this
    rw [this, show (4294967295 : Nat) = 2 ^ 32 - 1 from rfl, Nat.and_two_pow_sub_one_eq_mod, Nat.mod_eq_of_lt (by omega)]
  have wz : ∀ x : Int, 0 ≤ x → x < 18446744073709551616 → IntKind.u64.wrap x = x := by
    intro x h0 h1
    simp [IntKind.wrap, IntKind.bits, IntKind.signed]
    omega
  unfold Q69.f Q61.f
  rw [e1, e2, m1 L hL, m1 n hn, ← Int.natCast_mul]
  have z0 : IntKind.u64.wrap 0 = 0 := rfl
  have e3 : ((L * n : Nat) : Int) / 4294967296 = 0 ∨ ((L * n : Nat) : Int) / 4294967296 = 1 := by omega
  have hz : (0 : Int) * (n : Int) = 0 := Int.zero_mul _
  have hz2 : (L : Int) * (0 : Int) = 0 := Int.mul_zero _
  have hz3 : (0 : Int) * (0 : Int) = 0 := rfl
  rw [hz, hz2, hz3, z0, wz ((L * n : Nat) : Int) (by omega) (by omega)]
  rcases e3 with e3 | e3 <;> rw [e3] <;> rfl
theorem rep_join (l : List Int) (n q d m : Nat) (hq : l.length ∣ q) (hlt : q < m) (hL : l.length * n = m) (hdd : d = min q (m - q)) :
    splice (encs (Value.int .i64) ((repI l n).take q ++ List.replicate (m - q) 0)) q (encs (Value.int .i64) ((repI l n).take d)) = encs (Value.int .i64) ((repI l n).take (q + d) ++ List.replicate (m - (q + d)) 0) := by
  have hT : (repI l n).length = m := by rw [repI_len, hL]
  rw [repI_more l n q d (by omega) (by omega) hq]
  unfold splice encs
  have h1 : ((repI l n).take q).length = q := by rw [List.length_take]; omega
  have h2 : ((repI l n).take d).length = d := by rw [List.length_take]; omega
  rw [List.map_append, List.map_append, List.map_append, List.length_map, h2, List.take_append_of_le_length (by rw [List.length_map, h1]; omega), List.take_of_length_le (by rw [List.length_map, h1]; omega), List.append_assoc]
  congr 2
  rw [List.drop_append, List.drop_of_length_le (by rw [List.length_map, h1]; omega), List.length_map, h1, List.nil_append, List.map_replicate, List.map_replicate, List.drop_replicate]
  congr 1
  omega
theorem rep_src {w w1 : World} {A0 : Option Addr} {l0 : List Int} (h : Kd.C (Kd.int .i64) w A0 l0.length l0) (h0 : 0 < l0.length) (hb : Below w.heap.size w w1) : ∃ ad, A0 = some ad ∧ ∀ j v, (encs (Value.int .i64) l0)[j]? = some v → w1.cell? (ad.add j) = some v := by
  obtain ⟨ad, e, hx⟩ := (Kd.C_below h hb).2.2 h0
  refine ⟨ad, e, fun j v hj => ?_⟩
  obtain ⟨p, hp, rfl⟩ : ∃ p, l0[j]? = some p ∧ Value.int .i64 p = v := by simpa [encs] using hj
  obtain ⟨c, hc, hk, hcell⟩ := hx j p hp
  have hk' : c = [Value.int .i64 p] := hk
  subst hk'
  have := hcell 0 _ rfl
  simpa [show (Kd.int IntKind.i64).sz = 1 from rfl] using this
theorem rep_one (l : List Int) : ∀ v ∈ encs (Value.int .i64) l, v.oneCell' = true := by
  intro v hv
  obtain ⟨x, _, rfl⟩ := List.mem_map.1 hv
  rfl
theorem rep_first {w2 : World} {g m n : Nat} {l0 : List Int} (hm : l0.length * n = m) (hle : l0.length ≤ m) (h : w2.heap[g]? = some (.cells (splice (encs (Value.int .i64) (List.replicate m 0)) 0 (encs (Value.int .i64) l0)).toArray 3 (0, 0))) : w2.heap[g]? = some (.cells (encs (Value.int .i64) ((repI l0 n).take l0.length ++ List.replicate (m - l0.length) 0)).toArray 3 (0, 0)) := by
  rw [h]
  have : splice (encs (Value.int .i64) (List.replicate m 0)) 0 (encs (Value.int .i64) l0) = encs (Value.int .i64) ((repI l0 n).take l0.length ++ List.replicate (m - l0.length) 0) := by
    have hn : 0 < n ∨ l0.length = 0 := by
      rcases Nat.eq_zero_or_pos n with rfl | h
      · right; simp at hm; omega
      · exact .inl h
    have ht : (repI l0 n).take l0.length = l0 := by
      rcases hn with hn | hn
      · exact repI_take l0 n hn
      · have : l0 = [] := List.eq_nil_of_length_eq_zero hn
        subst this
        simp [repI]
    rw [ht]
    unfold splice
    rw [List.take_zero, List.nil_append, encs_append, encs_length, Nat.zero_add]
    congr 1
    simp [encs]
  rw [this]
theorem rep_cut1 (g m q : Nat) (h0 : 0 < q) (h : q < m) (W : World) : (Instr.slice 26 (.slice (some ⟨g, 0, none⟩) m m) (some (.int .i64 (q : Int))) none none).run Tryz.prog W = .ok (.slice (some ⟨g, q, none⟩) (m - q) (m - q)) W := by
  have hel : Tryz.prog.elem 26 = 3 := by simp [Program.elem, Tryz.underlying26]
  have hu : Tryz.prog.underlying 26 = some (.slice (Tryz.prog.elem 26)) := by rw [hel]; exact Tryz.underlying26
  obtain ⟨i0, hi, hz0, hz1, hz2⟩ := info_parts (show (Tryz.prog.info? 3).map (fun i => (i.zero, i.size, i.bytes)) = some (some (.int .i64 0), 1, 8) by kernel_rfl)
  rw [run_slice_l W 26 (some ⟨g, 0, none⟩) m m hu .i64 (q : Int) (by omega) (by omega), hel]
  simp [sizeOf, typeInfo, hi, hz1, sliced, Result.andThen, Addr.add]
  rw [if_neg (by omega), if_neg (by omega)]
theorem rep_cut2 (g m q : Nat) (h : q ≤ m) (W : World) : (Instr.slice 26 (.slice (some ⟨g, 0, none⟩) m m) none (some (.int .i64 (q : Int))) none).run Tryz.prog W = .ok (.slice (some ⟨g, 0, none⟩) q m) W := by
  have hel : Tryz.prog.elem 26 = 3 := by simp [Program.elem, Tryz.underlying26]
  have hu : Tryz.prog.underlying 26 = some (.slice (Tryz.prog.elem 26)) := by rw [hel]; exact Tryz.underlying26
  obtain ⟨i0, hi, hz0, hz1, hz2⟩ := info_parts (show (Tryz.prog.info? 3).map (fun i => (i.zero, i.size, i.bytes)) = some (some (.int .i64 0), 1, 8) by kernel_rfl)
  rw [run_slice_h W 26 (some ⟨g, 0, none⟩) m m hu .i64 (q : Int) (by omega) (by omega), hel]
  simp [sizeOf, typeInfo, hi, hz1, sliced, Result.andThen, Addr.add]
theorem rep_last {w1 : World} {g m n : Nat} {l0 : List Int} (hm : l0.length * n = m) (hmb : (m : Int) ≤ 4294967296) (h : w1.heap[g]? = some (.cells (encs (Value.int .i64) ((repI l0 n).take m ++ List.replicate (m - m) 0)).toArray 3 (0, 0))) : Kd.R (Kd.int .i64) 3 w1 g (fun _ => True) (.slice (some ⟨g, 0, none⟩) m m) (repI l0 n) := by
  have hl := repI_len l0 n
  rw [hm] at hl
  rw [List.take_of_length_le (by omega), Nat.sub_self, List.replicate_zero, List.append_nil] at h
  refine Kd.R_of_own ?_ (fun _ _ => trivial)
  refine ⟨by rw [encs_length]; omega, .inr ⟨g, m, _, by rw [hl], Nat.le_refl _, h, by omega, by unfold maxLen; omega, by simp [encs_length, hl], ?_⟩⟩
  rw [List.toList_toArray, Nat.mul_one, List.take_of_length_le (by rw [encs_length]; omega)]
theorem rep_less {m q d gk : Nat} (h : m - q ≤ gk) (h0 : 0 < d) (h1 : q + d ≤ m) : m - (q + d) < gk := by omega
theorem rep_num {q d : Nat} (h : (q : Int) + (d : Int) ≤ 4294967296) : Value.int .i64 (IntKind.i64.wrap ((q : Int) + (d : Int))) = .int .i64 ((q + d : Nat) : Int) := by
  congr 1
  simp [IntKind.wrap, IntKind.bits, IntKind.signed]
  omega
theorem rep_dl {l0 : List Int} {n m q d : Nat} (hm : l0.length * n = m) (hq : q ≤ m) (hd : d = min q (m - q)) : (encs (Value.int .i64) ((repI l0 n).take d)).length = d := by
  rw [encs_length, List.length_take, repI_len, hm]
  omega
theorem rep_dlen {l0 : List Int} {n m q d : Nat} (hm : l0.length * n = m) (hq : q ≤ m) (hd : d = min q (m - q)) : (encs (Value.int .i64) ((repI l0 n).take d)).length = Nat.min q (m - q) := by
  rw [rep_dl hm hq hd]
  exact hd
theorem rep_dfit {l0 : List Int} {n m q d : Nat} (hm : l0.length * n = m) (hq : q ≤ m) (hd : d = min q (m - q)) : q + (encs (Value.int .i64) ((repI l0 n).take d)).length ≤ (encs (Value.int .i64) ((repI l0 n).take q ++ List.replicate (m - q) 0)).length := by
  rw [rep_dl hm hq hd, encs_length, List.length_append, List.length_take, repI_len, hm, List.length_replicate]
  omega
theorem rep_cells {l0 : List Int} {n m q d g : Nat} {w1 : World} (hm : l0.length * n = m) (hq : q ≤ m) (hd : d = min q (m - q)) (h : w1.heap[g]? = some (.cells (encs (Value.int .i64) ((repI l0 n).take q ++ List.replicate (m - q) 0)).toArray 3 (0, 0))) : ∀ j v, (encs (Value.int .i64) ((repI l0 n).take d))[j]? = some v → w1.cell? ((⟨g, 0, none⟩ : Addr).add j) = some v := by
  intro j v hj
  have hjd : j < d := by
    have := (List.getElem?_eq_some_iff.1 hj).1
    rw [rep_dl hm hq hd] at this
    exact this
  have ha : (⟨g, 0, none⟩ : Addr).add j = ⟨g, j, none⟩ := by
    simp [Addr.add]
    omega
  rw [ha, blk_cell h j, List.getElem?_toArray]
  unfold encs at hj ⊢
  rw [List.map_append, List.getElem?_append_left (by rw [List.length_map, List.length_take, repI_len, hm]; omega), ← hj, List.getElem?_map, List.getElem?_map, List.getElem?_take_of_lt (by omega), List.getElem?_take_of_lt hjd]
theorem rep_next {l0 : List Int} {n m q d g : Nat} {w1 : World} (hm : l0.length * n = m) (hq : q ≤ m) (hlt : q < m) (hD : l0.length ∣ q ∨ q = m) (hd : d = min q (m - q)) (h : w1.heap[g]? = some (.cells (splice (encs (Value.int .i64) ((repI l0 n).take q ++ List.replicate (m - q) 0)) q (encs (Value.int .i64) ((repI l0 n).take d))).toArray 3 (0, 0))) : w1.heap[g]? = some (.cells (encs (Value.int .i64) ((repI l0 n).take (q + d) ++ List.replicate (m - (q + d)) 0)).toArray 3 (0, 0)) := by
  rw [h, rep_join l0 n q d m (hD.resolve_right (by omega)) hlt hm hd]
theorem rep_div {L q d m : Nat} (hq : q ≤ m) (hD : L ∣ q ∨ q = m) (hd : d = min q (m - q)) : L ∣ q + d ∨ q + d = m := by
  rcases hD with h | h
  · rcases Nat.lt_or_ge (m - q) q with h2 | h2
    · right; omega
    · left
      rw [hd, Nat.min_eq_left h2]
      exact Nat.dvd_add h h
  · right; omega
set_option maxHeartbeats 8000000 in
set_option maxRecDepth 100000 in
theorem Q55.calls (k : Nat) (A0 : Option Addr) (c0 : Nat) (l0 : List Int) (a1 : Int) (r : List Int) (w : World) (hr0 : Kd.C (Kd.int .i64) w A0 l0.length l0) (hc0 : l0.length ≤ c0) (h : Q55.f k l0 a1 = some r) :
    Calls Tryz.prog 38 #[.slice A0 l0.length c0, .int .i64 a1] w fun e w' => ∃ v0_ : Value, e = .returned (v0_) ∧ Kd.R (Kd.int .i64) 3 w' w.heap.size (fun _ => True) v0_ r ∧ Below w.heap.size w w' := by
 unfold Q55.f at h; by_cases c : 0 < l0.length ∧ l0.length ≤ 65536 ∧ 1 ≤ a1 ∧ a1 ≤ 65536
 ·
  rw [if_pos c] at h; obtain ⟨c1, c2, c3, c4⟩ := c; obtain ⟨n, rfl⟩ := Int.eq_ofNat_of_zero_le (show 0 ≤ a1 by omega); have HI := A_ (show repI l0 n = r from by simpa using Option.some.inj h); have HM := A_ (mul_small l0.length n c2 (by omega)); have hb : l0.length * n ≤ 65536 * 65536 := Nat.mul_le_mul c2 (by omega); have hLm : l0.length ≤ l0.length * n := Nat.le_mul_of_pos_right _ (by omega); have HLM := A_ (show ∃ m, l0.length * n = m from ⟨_, rfl⟩); obtain ⟨m, hm⟩ := HLM.out; rw [hm] at hb hLm HM; have HME := A_ hm; have HR0 := A_ hr0
  have hL1 : (0 : Int) < (l0.length : Int) := by omega
  have hL2 : (l0.length : Int) ≤ 65536 := by omega
  have hn1 : (1 : Int) ≤ (n : Int) := by omega
  have hn2 : (n : Int) ≤ 65536 := by omega
  have hm1 : (0 : Int) ≤ (m : Int) := by omega
  have hm2 : (m : Int) ≤ 4294967296 := by omega
  have HLL := A_ hLm; have HC1 := A_ c1
  obtain ⟨g, hg⟩ : ∃ g, g = w.heap.size := ⟨_, rfl⟩
  have HG := A_ hg
  have hmk : ∀ W : World, (Instr.makeSlice 26 (.int .i64 (m : Int)) (.int .i64 (m : Int))).run Tryz.prog W = .ok (.slice (some ⟨W.heap.size, 0, none⟩) m m) (W.alloc (.cells (encs (Value.int .i64) (List.replicate m 0)).toArray 3)) := by
   have h1 := print_make_int (P := Tryz.prog) 26 3 (.int .i64 0) 8 Tryz.underlying26 (by kernel_rfl) rfl (by decide) (m : Int) (by omega) (by rw [Int.toNat_natCast]; omega); intro W; rw [h1 W, Int.toNat_natCast]
   have h2 : madeCells #[Value.int .i64 0] m = (encs (Value.int .i64) (List.replicate m 0)).toArray := by
    apply Array.ext'; apply List.ext_getElem
    ·
     simp [encs, madeCells]
    ·
     intro i h1 h2; simp [encs, madeCells, Nat.mod_one]
   rw [h2]
  clear h hr0 hm c1 c2 c3 c4 hb hLm hg HLM; go_enter Tryz.func38, Tryz.ntmps38
  go_wp2_with (first | (go_at_call 58; refine (Q69.calls _ _ 0 (m : Int) _ HM.out).mono ?_; rintro e w' ⟨rfl, ⟨nd, rfl⟩⟩) | ((with_reducible refine wpList_copy_splice rfl (.tmp 31) (.tmp 32) 26 26 rfl 3 Tryz.underlying26 (by kernel_rfl) (some ⟨w.heap.size, 0, none⟩) A0 m m l0.length c0 rfl rfl w.heap.size 0 (encs (Value.int .i64) (List.replicate m 0)) 3 ?hcb (encs (Value.int .i64) l0) ?hcn ?hcp ?hcf ?hc1 w.heap.size w ?hcB (Nat.le_refl _) ?hck); (case hcb => exact blk_new (w.drewN nd) _); (case hcn => rw [encs_length]; exact (Nat.min_eq_left HLL.out).symm); (case hcp => exact fun _ => ⟨rfl, rep_src HR0.out HC1.out (by repeat (first | exact Below.refl _ _ | apply below_alloc | apply pw_below_drewN | apply below_drew1))⟩); (case hcf => rw [encs_length, encs_length, List.length_replicate]; have := HLL.out; omega); (case hc1 => exact rep_one l0); (case hcB => repeat (first | exact Below.refl _ _ | apply below_alloc | apply pw_below_drewN | apply below_drew1)); intro w2 hw2 hb2; have HW := A_ (rep_first HME.out HLL.out hw2.out); have HB := A_ hb2; clear hw2 hb2; rw [encs_length]))
  go_loopg [8] m (fun gg s8 wr => ∃ q : Nat, s8 = .int .i64 q ∧ 0 < q ∧ q ≤ m ∧ m - q ≤ gg ∧ Aside0 (l0.length ∣ q ∨ q = m) ∧ Aside0 (wr.heap[w.heap.size]? = some (.cells (encs (Value.int .i64) ((repI l0 n).take q ++ List.replicate (m - q) 0)).toArray 3 (0, 0))) ∧ Aside0 (Below w.heap.size w wr))
  case atStart => exact ⟨l0.length, rfl, HC1.out, HLL.out, by omega, ⟨.inl (Nat.dvd_refl _)⟩, HW, HB⟩
  case round =>
   clear HW HB; obtain ⟨q, rfl, hq0, hqm, hgg, HD, HW, HB⟩ := hrel; by_cases hlt : q < m
   ·
    have hltz : (q : Int) < (m : Int) := by omega
    have hqz : (0 : Int) ≤ (q : Int) := by omega
    obtain ⟨d, hd⟩ : ∃ d, d = min q (m - q) := ⟨_, rfl⟩
    have HDD := A_ hd
    have hd1 : q + d ≤ m := by omega
    have hd0 : 0 < d := by omega
    clear hd
    have cut1 : ∀ W : World, (Instr.slice 26 (.slice (some ⟨w.heap.size, 0, none⟩) m m) (some (.int .i64 (q : Int))) none none).run Tryz.prog W = .ok (.slice (some ⟨w.heap.size, q, none⟩) (m - q) (m - q)) W := fun W => rep_cut1 w.heap.size m q hq0 hlt W
    have cut2 : ∀ W : World, (Instr.slice 26 (.slice (some ⟨w.heap.size, 0, none⟩) m m) none (some (.int .i64 (q : Int))) none).run Tryz.prog W = .ok (.slice (some ⟨w.heap.size, 0, none⟩) q m) W := fun W => rep_cut2 w.heap.size m q hqm W
    have hqd : (q : Int) + (d : Int) ≤ 4294967296 := by omega
    have hdz : (0 : Int) ≤ (d : Int) := by omega
    go_wp2
    rename_i K1 a2 J1 K0 a1 a0; have A2 := A_ a2; have A1 := A_ a1; have A0' := A_ a0; clear a2 a1 a0 hmk; go_region_law (refine step_copy_splice rfl (.tmp 41) (.tmp 44) 26 26 rfl 3 Tryz.underlying26 (by kernel_rfl) (some ⟨w.heap.size, q, none⟩) (some ⟨w.heap.size, 0, none⟩) (m - q) (m - q) q m (by simp [Act.eval, Act.put]) (by simp [Act.eval, Act.put]) w.heap.size q (encs (Value.int .i64) ((repI l0 n).take q ++ List.replicate (m - q) 0)) 3 HW.out (encs (Value.int .i64) ((repI l0 n).take d)) (rep_dlen HME.out hqm HDD.out) (fun _ => ⟨rfl, _, rfl, rep_cells HME.out hqm HDD.out HW.out⟩) (rep_dfit HME.out hqm HDD.out) (rep_one _) w.heap.size w (by repeat (first | exact HB.out | apply below_alloc | apply pw_below_drewN | apply below_drew1)) (Nat.le_refl _) ?_; intro w2 hw2 hb2; have HW2 := A_ (rep_next HME.out hqm hlt HD.out HDD.out hw2.out); have HB2 := A_ hb2; clear hw2 hb2; rw [rep_dl HME.out hqm HDD.out])
    have a2 := A2.out; have a1 := A1.out; have a0 := A0'.out; clear A2 A1 A0'; go_wp2
    go_roundg (m - (q + d))
    case measure => exact rep_less hgg hd0 hd1
    case rel => exact ⟨q + d, (by first | go_num | exact rep_num hqd), by omega, hd1, by omega, ⟨rep_div hqm HD.out HDD.out⟩, HW2, HB2⟩
   ·
    have hltz : ¬ (q : Int) < (m : Int) := by omega
    obtain rfl : q = m := by omega
    go_wp2
    go_ret
    have h3 := HI.out; subst h3; exact ⟨_, rfl, rep_last HME.out hm2 HW.out, HB.out⟩
 ·
  rw [if_neg c] at h; exact absurd h (by simp)

end Go.Proofs.YtjhppcpjobofbaaGreat.PFnExplorers
