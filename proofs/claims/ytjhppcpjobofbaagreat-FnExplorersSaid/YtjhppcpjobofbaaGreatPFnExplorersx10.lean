-- Told shorter still by shrink2.py.
-- Printed, and told shorter by this session's program shrink.py.
-- Printed by this session's program myprint.py.
import Derived.Test.YtjhppcpjobofbaaGreatPFnExplorersx0
import Derived.Test.YtjhppcpjobofbaaGreatPFnExplorersx1
import Derived.Test.YtjhppcpjobofbaaGreatPFnExplorersx9
namespace Go.Proofs.YtjhppcpjobofbaaGreat.PFnExplorers
open Go.RowKit Go.Proofs.YtjhppcpjobofbaaGreat.Own Go.Proofs.YtjhppcpjobofbaaGreatW.PrintWords Go.Proofs.YtjhppcpjobofbaaGreatW.PrintLast Go.Proofs.YtjhppcpjobofbaaGreatW.PrintMore
attribute [local go_sem] max2_int min2_int max_two min_two max_three min_three max_four min_four   -- for this text's walks alone
set_option linter.unusedVariables false
set_option linter.unusedSimpArgs false

/-! ### spec_l6Orders: function 53 -/
mutual
def Q18.l0 : Nat → Int → List Int → List (List Int) → Int → Option ((List (List Int)))
  | 0, _, _, _, _ => none
  | k + 1, x0, x1, x5, x6 => if x6 < x0 then ((Q46.f k x1 x6).bind fun t400 => (if t400 = true then (Q18.l0 k x0 x1 x5 (wrap64 (x6 + 1))) else ((Q70.f x1).bind fun t401 => (if t401.length < 17592186044416 then ((Q18.f k x0 (t401 ++ [x6])).bind fun t407 => (if x5.length + t407.length < 5864062014805 then (Q18.l0 k x0 x1 (x5 ++ t407) (wrap64 (x6 + 1))) else (none))) else (none))))) else (some x5)
def Q18.f : Nat → Int → List Int → Option ((List (List Int)))
  | 0, _, _ => none
  | k + 1, a0, l1 => if (l1.length : Int) = a0 then (some (([l1] : List (List Int)))) else (Q18.l0 k a0 l1 (([] : List (List Int))) 0)
end
set_option maxHeartbeats 8000000 in
set_option maxRecDepth 100000 in
theorem Q18.calls (k : Nat) : ∀ (a0 : Int) (P1_ : Nat → Prop) (A1 : Option Addr) (c1 : Nat) (l1 : List Int) (r : List (List Int)) (w : World) (hs1 : Kd.V (Kd.int .i64) 3 w w.heap.size (fun k_ => P1_ k_) (.slice A1 l1.length c1) l1) (h : Q18.f k a0 l1 = some r),
    Calls Tryz.prog 53 #[.int .i64 a0, .slice A1 l1.length c1] w fun e w' => ∃ v0_ : Value, e = .returned (v0_) ∧ Kd.N (Kd.slice 3 (Kd.int .i64)) 26 w' w.heap.size (fun k_ => (P1_ k_ ∨ w.heap.size ≤ k_)) v0_ r ∧ Below w.heap.size w w' := by
 induction k using Nat.strongRecOn with
 | _ k ih =>
 intro a0 P1_ A1 c1 l1 r w hs1 h
 cases k with
 | zero => exact absurd h (by simp [Q18.f])
 | succ k =>
 simp only [Q18.f] at h
 have HO1 := A_ (show Kd.V (Kd.int .i64) 3 w w.heap.size (fun k_ => (P1_ k_ ∨ w.heap.size ≤ k_)) (.slice A1 l1.length c1) l1 from Kd.V_mono hs1 (fun k_ hk => .inl hk)); have HB := A_ (Below.refl w.heap.size w); have H : (if (l1.length : Int) = a0 then (some (([l1] : List (List Int)))) else (Q18.l0 k a0 l1 (([] : List (List Int))) 0)) = some r := h; clear h; by_cases c3 : (l1.length : Int) = a0
 ·
  rw [if_pos c3] at H; have c3b0 : ((l1.length : Int) == a0) = true := beq_iff_eq.mpr c3; have c3b1 : ((l1.length : Int) != a0) = false := bne_eq_false_iff_eq.mpr c3; clear c3
  obtain ⟨y394, hy394⟩ : ∃ y_ : List (List Int), y_ = (([l1] : List (List Int))) := ⟨_, rfl⟩
  replace H : (some y394) = some r := by first | (rw [hy394]; with_reducible exact H) | (have H2_ := (Option.bind_some _ _).symm.trans H; rw [hy394]; with_reducible exact H2_) | (have H2_ := (Option.bind_some _ _).symm.trans H; with_reducible exact H2_) | with_reducible exact H | (rw [hy394]; exact H) | exact H
  have Ny394 := A_ hy394; clear hy394; obtain rfl := Option.some.inj H; go_enter Tryz.func53, Tryz.ntmps53
  go_wp2_with (first | ((with_reducible refine gate_dst (N := 12) rfl ?_); refine Kd.N_lit (Kd.slice 3 (Kd.int .i64)) _ 26 ?hg (N' := 12) ?hd (xs := ([l1] : List (List Int))) (inner := [.slice A1 l1.length c1]) (ok := (fun k_ => (P1_ k_ ∨ w.heap.size ≤ k_))) (okp := (fun k_ => (P1_ k_ ∨ w.heap.size ≤ k_))) ?hr ?hp (fun _ hk => hk) ((show ∀ k_, w.heap.size ≤ k_ → (fun k_ => (P1_ k_ ∨ w.heap.size ≤ k_)) k_ from fun k_ hk => (.inr (Nat.le_trans (below_size (hq HB)) hk))) _ (Nat.le_refl _)) (Below.refl _ _) (Nat.le_refl _) (by simp) ?_; (case hd => rfl); (case hg => rfl); (case hr => first | (go_simp; done) | (go_simp; rfl)); (case hp => exact (Reps.one (show Kd.FK (Kd.slice 3 (Kd.int .i64)) _ _ l1 [.slice A1 l1.length c1] from (Kd.FK_slice_mk (Kd.V_reads' (Kd.V_mono (ok' := (fun k_ => (P1_ k_ ∨ w.heap.size ≤ k_))) (HO1.out) (fun k_ hk => hk))).2.1 (Kd.V_F (Kd.V_mono (ok' := (fun k_ => (P1_ k_ ∨ w.heap.size ≤ k_))) (HO1.out) (fun k_ hk => hk))))) (Reps.none _ _))); intro v395 w4 ho5 hb hg_ hnew_; clear hg_ hnew_; (first | rw [← Ny394.out] at ho5 | (simp only [Int.reduceToNat] at ho5; rw [← Ny394.out] at ho5)); replace HO1 := A_ (Kd.V_elder' (vq HO1) (Kd.N_base ho5) hb); have HO396 := A_ (Kd.N_lower ho5 (below_size (hq HB))); replace HB := A_ (below_step (hq HB) hb); clear hb ho5))
  go_ret
  exact ⟨_, rt, nq HO396, hq HB⟩
 ·
  rw [if_neg c3] at H; have c3b0 : ((l1.length : Int) == a0) = false := beq_eq_false_iff_ne.mpr c3; have c3b1 : ((l1.length : Int) != a0) = true := bne_iff_ne.mpr c3
  obtain ⟨y397, hy397⟩ : ∃ y_ : List (List Int), y_ = (([] : List (List Int))) := ⟨_, rfl⟩
  replace H : (Q18.l0 k a0 l1 y397 0) = some r := by first | (rw [hy397]; with_reducible exact H) | (have H2_ := (Option.bind_some _ _).symm.trans H; rw [hy397]; with_reducible exact H2_) | (have H2_ := (Option.bind_some _ _).symm.trans H; with_reducible exact H2_) | with_reducible exact H | (rw [hy397]; exact H) | exact H
  have Ny397 := A_ hy397; clear hy397; have H' := A_ H; clear H; go_enter Tryz.func53, Tryz.ntmps53
  go_wp2_with (first | ((with_reducible refine gate_dst (N := 13) rfl ?_); refine Kd.N_lit (Kd.slice 3 (Kd.int .i64)) _ 26 ?hg (N' := 13) ?hd (xs := ([] : List (List Int))) (inner := []) (ok := (fun k_ => (P1_ k_ ∨ w.heap.size ≤ k_))) (okp := (fun k_ => (P1_ k_ ∨ w.heap.size ≤ k_))) ?hr ?hp (fun _ hk => hk) ((show ∀ k_, w.heap.size ≤ k_ → (fun k_ => (P1_ k_ ∨ w.heap.size ≤ k_)) k_ from fun k_ hk => (.inr (Nat.le_trans (below_size (hq HB)) hk))) _ (Nat.le_refl _)) (Below.refl _ _) (Nat.le_refl _) (by simp) ?_; (case hd => rfl); (case hg => rfl); (case hr => first | (go_simp; done) | (go_simp; rfl)); (case hp => exact (Reps.none _ _)); intro v398 w6 ho7 hb hg_ hnew_; clear hg_ hnew_; (first | rw [← Ny397.out] at ho7 | (simp only [Int.reduceToNat] at ho7; rw [← Ny397.out] at ho7)); replace HO1 := A_ (Kd.V_elder' (vq HO1) (Kd.N_base ho7) hb); have HO399 := A_ (Kd.N_lower ho7 (below_size (hq HB))); replace HB := A_ (below_step (hq HB) hb); clear hb ho7))
  go_loopg [5, 6] k (fun kq v5 v6 w' => ∃ (x5_1 : List (List Int)) (x6_1 : Int), v6 = .int .i64 x6_1 ∧ Aside0 (Q18.l0 kq a0 l1 x5_1 x6_1 = some r) ∧ Aside0 (kq ≤ k) ∧ Aside0 (Kd.V (Kd.int .i64) 3 w' w.heap.size (fun k_ => (P1_ k_ ∨ w.heap.size ≤ k_) ∧ some k_ ≠ (v5 : Value).ownBlock) (.slice A1 l1.length c1) l1) ∧ Aside0 (Kd.N (Kd.slice 3 (Kd.int .i64)) 26 w' w.heap.size (fun k_ => (P1_ k_ ∨ w.heap.size ≤ k_)) v5 x5_1) ∧ Aside0 (Below w.heap.size w w'))
  case atStart => exact ⟨(y397), (0), rf, H', ⟨Nat.le_refl _⟩, ⟨vq HO1⟩, ⟨nq HO399⟩, ⟨hq HB⟩⟩
  case round =>
   clear H'; (try clear c1); (try clear c3); (try clear c3b0); (try clear c3b1); obtain ⟨x5_1, x6_1, rfl, HA, HK1, HO_1, HO_5, HB⟩ := hrel
   cases gk with
   | zero => exact absurd HA.out (by simp [Q18.l0])
   | succ k1 =>
    have H := HA.out; clear HA; simp only [Q18.l0] at H
    by_cases c8 : x6_1 < a0
    ·
     rw [if_pos c8] at H; have c8b0 := decide_eq_true c8; clear c8; replace H := bm H; obtain ⟨t400, A9, H⟩ := H; by_cases c10 : t400 = true
     ·
      subst c10
      have H1 : (Q18.l0 k1 a0 l1 x5_1 (wrap64 (x6_1 + 1))) = some r := by rw [if_pos rfl] at H; exact H
      clear H; have H := H1; clear H1; have H' := A_ H; clear H; go_wp2_with (first | ((with_reducible refine gate_callee (f := 65) rfl ?_); refine gL (some 21) Tryz.func65 #[.slice A1 l1.length c1, .int .i64 x6_1] ?_; (with_reducible refine (Q46.calls k1 _ _ l1 x6_1 true _ ?side1 ?side2 A9.out).mono ?_); (case side1 => exact cq (Kd.V_reads' HO_1.out).2.2); (case side2 => exact (Kd.V_reads' HO_1.out).2.1); rintro e w' ⟨rfl, ⟨nd, rfl⟩⟩; refine ⟨_, rfl, ?_⟩))
      go_roundg k1
      case measure => have := HK1.out; omega
      case rel => exact ⟨(x5_1), (wrap64 (x6_1 + 1)), rf, H', ⟨by have := HK1.out; omega⟩, ⟨vq HO_1⟩, ⟨nq HO_5⟩, ⟨hq HB⟩⟩
     ·
      replace c10 := Bool.eq_false_iff.mpr c10; subst c10
      have H1 : ((Q70.f l1).bind fun t401 => (if t401.length < 17592186044416 then ((Q18.f k1 a0 (t401 ++ [x6_1])).bind fun t407 => (if x5_1.length + t407.length < 5864062014805 then (Q18.l0 k1 a0 l1 (x5_1 ++ t407) (wrap64 (x6_1 + 1))) else (none))) else (none))) = some r := by rw [if_neg (show ¬ (false = true) by decide)] at H; exact H
      clear H; have H := H1; clear H1; replace H := bm H; obtain ⟨t401, A11, H⟩ := H; by_cases c12 : t401.length < 17592186044416
      ·
       rw [if_pos c12] at H; have LMc12 := A_ c12; clear c12
       obtain ⟨y404, hy404⟩ : ∃ y_ : List Int, y_ = (t401 ++ [x6_1]) := ⟨_, rfl⟩
       replace H : ((Q18.f k1 a0 y404).bind fun t407 => (if x5_1.length + t407.length < 5864062014805 then (Q18.l0 k1 a0 l1 (x5_1 ++ t407) (wrap64 (x6_1 + 1))) else (none))) = some r := by first | (rw [hy404]; with_reducible exact H) | (have H2_ := (Option.bind_some _ _).symm.trans H; rw [hy404]; with_reducible exact H2_) | (have H2_ := (Option.bind_some _ _).symm.trans H; with_reducible exact H2_) | with_reducible exact H | (rw [hy404]; exact H) | exact H
       have Ny404 := A_ hy404; clear hy404; replace H := bm H; obtain ⟨t407, A13, H⟩ := H; by_cases c14 : x5_1.length + t407.length < 5864062014805
       ·
        rw [if_pos c14] at H; have LMc14 := A_ c14; clear c14
        obtain ⟨y410, hy410⟩ : ∃ y_ : List (List Int), y_ = (x5_1 ++ t407) := ⟨_, rfl⟩
        replace H : (Q18.l0 k1 a0 l1 y410 (wrap64 (x6_1 + 1))) = some r := by first | (rw [hy410]; with_reducible exact H) | (have H2_ := (Option.bind_some _ _).symm.trans H; rw [hy410]; with_reducible exact H2_) | (have H2_ := (Option.bind_some _ _).symm.trans H; with_reducible exact H2_) | with_reducible exact H | (rw [hy410]; exact H) | exact H
        have Ny410 := A_ hy410; clear hy410; have H' := A_ H; clear H; go_wp2_with (first | ((with_reducible refine gate_callee (f := 65) rfl ?_); refine gL (some 21) Tryz.func65 #[.slice A1 l1.length c1, .int .i64 x6_1] ?_; (with_reducible refine (Q46.calls k1 _ _ l1 x6_1 false _ ?side1 ?side2 A9.out).mono ?_); (case side1 => exact cq (Kd.V_reads' HO_1.out).2.2); (case side2 => exact (Kd.V_reads' HO_1.out).2.1); rintro e w' ⟨rfl, ⟨nd, rfl⟩⟩; refine ⟨_, rfl, ?_⟩) | ((with_reducible refine gate_callee (f := 66) rfl ?_); refine gL (some 26) Tryz.func66 #[.slice A1 l1.length c1] ?_; (with_reducible refine (Q70.calls _ _ l1 t401 _ ?side1 ?side2 A11.out).mono ?_); (case side1 => exact cq (Kd.V_reads' HO_1.out).2.2); (case side2 => exact (Kd.V_reads' HO_1.out).2.1); rintro e w15 ⟨v402, rfl, ho0, hb⟩; refine ⟨_, rfl, ?_⟩; replace HO_1 := A_ (Kd.V_elder' (vq HO_1) (Kd.R_base ho0) hb); replace HO_5 := A_ (Kd.N_elder' (nq HO_5) (Kd.R_base ho0) hb); have HO403 := A_ (Kd.R_lower (Kd.R_newM (M := fun k_ => (w.heap.size ≤ k_)) ho0 (below_size (hq HB)) (fun k_ h_ => h_)) (below_size (hq HB))); replace HB := A_ (below_step (hq HB) hb); clear hb ho0) | ((with_reducible refine gate_builtin (b := .append) (xs := #[.tmp 26, .tmp 28]) rfl ?_); at_builtin; refine Kd.R_append (Kd.int .i64) (w0 := w) w.heap.size rfl (.tmp 26) (.tmp 28) 26 3 (.int .i64 0) 8 rfl Tryz.underlying26 info3 rfl (by decide) (by omega) v402 t401 x6_1 [.int .i64 x6_1] (fun k_ => (w.heap.size ≤ k_)) (fun _ => False) rfl rfl ?aP (fun _ hk => hk.elim) ?aF ?aO ?aB ?aS ?aL ?_; (case aP => exact rfl); (case aB => exact (hq HB)); (case aF => exact (fun k_ hk => (Nat.le_trans (below_size (hq HB)) hk))); (case aO => exact (by (with_reducible repeat (first | apply Kd.R_alloc | apply Kd.R_drewN | apply Kd.R_drew)); exact Kd.R_mono HO403.out (fun _ hk => hk.1))); (case aS => exact (below_size (hq HB))); (case aL => have := LMc12.out; omega); intro v405 w16 ho hb hg hat; rw [← Ny404.out] at ho; have n0_ := A_ (Kd.V_afterv (ok := (fun k_ => (P1_ k_ ∨ w.heap.size ≤ k_) ∧ some k_ ≠ (u5 : Value).ownBlock)) (vq HO_1) hg hat); have n1_ := A_ (Kd.N_afterv (ok := (fun k_ => (P1_ k_ ∨ w.heap.size ≤ k_))) (nq HO_5) hg hat); have n2_ := A_ (hb); have n3_ := A_ (ho); clear HO_1; clear HO_5; clear HB; clear HO403; have HO_1 := n0_; have HO_5 := n1_; have HB := n2_; have HO406 := n3_; clear n0_ n1_ n2_ n3_; clear ho hb hg hat; obtain ⟨Ao17, co17, eo17⟩ := Kd.R_slice HO406.out; subst eo17) | ((with_reducible refine gate_callee (f := 53) rfl ?_); refine gL (some 30) Tryz.func53 #[.int .i64 a0, .slice Ao17 y404.length co17] ?_; (with_reducible refine (ih k1 (by have := HK1.out; omega) a0 (fun k_ => some k_ = (.slice Ao17 y404.length co17 : Value).ownBlock) _ _ y404 t407 _ ?side1 A13.out).mono ?_); (case side1 => exact Kd.R_V (Kd.R_tight rfl (Kd.R_apart' (HO406.out) (Kd.N_typed HO_5.out) (by decide)))); rintro e w18 ⟨v408, rfl, ho0, hb⟩; refine ⟨_, rfl, ?_⟩; replace HO_1 := A_ (Kd.V_elder' (vq HO_1) (Kd.N_base ho0) hb); have HO409 := A_ (Kd.N_lower (Kd.N_mono (ok' := fun k_ => (P1_ k_ ∨ w.heap.size ≤ k_) ∧ some k_ ≠ (u5 : Value).ownBlock) ho0 (fun k_ hk_ => ⟨Or.elim hk_ (fun hs_ => (.inr (((Kd.R_apart' (HO406.out) (Kd.N_typed HO_5.out) (by decide)).1 k_ hs_.symm).1))) (fun hn_ => (.inr (Nat.le_trans (below_size (hq HB)) hn_))), Or.elim hk_ (fun hs_ => ((Kd.R_apart' (HO406.out) (Kd.N_typed HO_5.out) (by decide)).1 k_ hs_.symm).2) (fun hn_ => (Kd.fresh' (Kd.N_lt (nq HO_5)) k_ hn_))⟩)) (below_size (hq HB))); replace HO_5 := A_ (Kd.N_elder' (nq HO_5) (Kd.N_base ho0) hb); replace HO406 := A_ (Kd.R_below (rq HO406) hb); replace HB := A_ (below_step (hq HB) hb); clear hb ho0; obtain ⟨Ao20, co20, eo20⟩ := Kd.N_slice HO409.out; subst eo20) | ((with_reducible refine gate_builtin (b := .append) (xs := #[.tmp 23, .tmp 30]) rfl ?_); at_builtin; refine Kd.N_append_rows (Kd.slice 3 (Kd.int .i64)) (w0 := w) w.heap.size rfl (.tmp 23) (.tmp 30) 71 26 (.slice none 0 0) 24 rfl Tryz.underlying71 info26 rfl (by decide) (by omega) u5 x5_1 t407 _ _ _ (fun k_ => (P1_ k_ ∨ w.heap.size ≤ k_)) (fun k_ => ((fun k_ => (P1_ k_ ∨ w.heap.size ≤ k_))) k_ ∧ some k_ ≠ (u5 : Value).ownBlock) rfl rfl ?aO ?aR (fun _ hk => hk) ?aF ?aB ?aS ?aL ?_; (case aR => exact (by skip; exact Kd.N_F (Kd.N_mono (ok' := (fun k_ => ((fun k_ => (P1_ k_ ∨ w.heap.size ≤ k_))) k_ ∧ some k_ ≠ (u5 : Value).ownBlock)) (HO409.out) (fun k_ hk => ⟨hk.1, hk.2⟩)))); (case aB => exact (hq HB)); (case aF => exact (fun k_ hk => (.inr (Nat.le_trans (below_size (hq HB)) hk)))); (case aO => exact (by (with_reducible repeat (first | apply Kd.N_alloc | apply Kd.N_drewN | apply Kd.N_drew)); exact Kd.N_mono HO_5.out (fun _ hk => hk.1.1))); (case aS => exact (below_size (hq HB))); (case aL => have := LMc14.out; omega); intro v411 w19 ho hb hg hat; rw [← Ny410.out] at ho; have n0_ := A_ (Kd.V_afterv (ok := (fun k_ => (P1_ k_ ∨ w.heap.size ≤ k_) ∧ some k_ ≠ (.slice Ao17 y404.length co17 : Value).ownBlock ∧ some k_ ≠ (.slice Ao20 t407.length co20 : Value).ownBlock)) (by (with_reducible repeat (first | apply Kd.V_alloc | apply Kd.V_drewN | apply Kd.V_drew)); exact Kd.V_mono HO_1.out (fun _ hk => ⟨⟨hk.1.1.1, ⟨hk.1.2, hk.2⟩⟩, hk.1.1.2⟩)) hg hat); have n1_ := A_ (Kd.R_over' (rq HO406) (Kd.N_typed (nq HO_5)) (by decide) hg); have n2_ := A_ (Kd.N_afterv (ok := (fun k_ => (P1_ k_ ∨ w.heap.size ≤ k_))) (nq HO409) hg hat); have n3_ := A_ (hb); have n4_ := A_ (ho); clear HO_1; clear HO406; clear HO409; clear HB; clear HO_5; have HO_1 := n0_; have HO406 := n1_; have HO409 := n2_; have HB := n3_; have HO412 := n4_; clear n0_ n1_ n2_ n3_ n4_; clear ho hb hg hat))
        go_roundg k1
        case measure => have := HK1.out; omega
        case rel => exact ⟨(y410), (wrap64 (x6_1 + 1)), rf, H', ⟨by have := HK1.out; omega⟩, ⟨by (with_reducible repeat (first | apply Kd.V_alloc | apply Kd.V_drewN | apply Kd.V_drew)); exact Kd.V_mono HO_1.out (fun _ hk => ⟨hk.1.1, hk.2⟩)⟩, ⟨nq HO412⟩, ⟨hq HB⟩⟩
       ·
        rw [if_neg c14] at H; exact absurd H (by simp)
      ·
       rw [if_neg c12] at H; exact absurd H (by simp)
    ·
     rw [if_neg c8] at H; have c8b0 := decide_eq_false c8; clear c8; obtain rfl := Option.some.inj H; go_wp2
     go_ret
     exact ⟨_, rt, nq HO_5, hq HB⟩

/-! ### spec_l2Far: function 86 -/
def Q52.f (a0_0 : Int) (a0_1 : Bool) (a1 : Int) (a2 : Int) : Option (Int) := if a0_0 = 0 then (none) else (some (Int.tmod (wrap64 ((wrap64 (a2 - a1)) + a0_0)) a0_0))
set_option maxHeartbeats 8000000 in
set_option maxRecDepth 100000 in
theorem Q52.calls (a0_0 : Int) (a0_1 : Bool) (a1 : Int) (a2 : Int) (r : Int) (w : World) (h : Q52.f a0_0 a0_1 a1 a2 = some r) :
    Calls Tryz.prog 86 #[.agg #[.int .i64 a0_0, .bool a0_1], .int .i64 a1, .int .i64 a2] w fun e w' => e = .returned (.int .i64 r) ∧ Below w.heap.size w w' := by
 have hu25 := Tryz.underlying25; have HB := A_ (Below.refl w.heap.size w); have H : (if a0_0 = 0 then (none) else (some (Int.tmod (wrap64 ((wrap64 (a2 - a1)) + a0_0)) a0_0))) = some r := h; clear h; by_cases c4 : a0_0 = 0
 ·
  rw [if_pos c4] at H; exact absurd H (by simp)
 ·
  rw [if_neg c4] at H; have c4b0 : (a0_0 == 0) = false := beq_eq_false_iff_ne.mpr c4; have c4b1 : (a0_0 != 0) = true := bne_iff_ne.mpr c4; obtain rfl := Option.some.inj H; go_enter Tryz.func86, Tryz.ntmps86
  go_wp2_with (first | ((with_reducible refine gate_dst (N := 3) rfl ?_); refine bx (N := 3) #[.int .i64 a0_0, .bool a0_1] 25 ?_; intro gb413 hg w5 hbox hb; have BK413 := A_ (hbox); have GW413 := A_ (bs hg (hq HB) : w.heap.size ≤ gb413); have GE413 := A_ (bs hg (hq HB) : w.heap.size ≤ gb413); replace HB := A_ (below_step (hq HB) hb); clear hb hbox hg; have hcz6_0 : w5.cell? ⟨gb413, 0, none⟩ = some (.int .i64 a0_0) := bc BK413 0; have hcz6_1 : w5.cell? ⟨gb413, 1, none⟩ = some (.bool a0_1) := bc BK413 1; have hfz6_0 := blk_frozen BK413.out 0; have hfz6_1 := blk_frozen BK413.out 1))
  go_ret
  exact ⟨rt, hq HB⟩

/-! ### spec_l6Back: function 80 -/
mutual
def Q5.l1 : Nat → Int → List Int → Int → Int → Int → Bool → Option (Int)
  | 0, _, _, _, _, _, _ => none
  | k + 1, x1, x2, x10, x11, x415000, x415001 => if x11 < x415000 then (Q5.l2 k x1 x2 x10 x11 0 0 x415000 x415001) else (some x10)
def Q5.l2 : Nat → Int → List Int → Int → Int → Int → Int → Int → Bool → Option (Int)
  | 0, _, _, _, _, _, _, _, _ => none
  | k + 1, x1, x2, x10, x11, x12, x13, x415000, x415001 => if x13 < (x2.length : Int) then (if 0 ≤ x13 then ((Q52.f x415000 x415001 x1 (rd x2 x13)).bind fun t421 => (if t421 > x11 then ((Q14.f x12 (wrap64 (x415000 - t421))).bind fun t422 => (Q5.l2 k x1 x2 x10 x11 t422 (wrap64 (x13 + 1)) x415000 x415001)) else (Q5.l2 k x1 x2 x10 x11 x12 (wrap64 (x13 + 1)) x415000 x415001))) else (none)) else ((Q22.f x10 (wrap64 (2 * (wrap64 (x12 + x11))))).bind fun t419 => (Q5.l1 k x1 x2 t419 (wrap64 (x11 + 1)) x415000 x415001))
def Q5.l0 : Nat → Int → List Int → Int → Int → Int → Option (Int)
  | 0, _, _, _, _, _ => none
  | k + 1, x1, x2, x7, x8, x9 => if x9 < (x2.length : Int) then (if 0 ≤ x9 then ((Q14.f x7 (wrap64 (x1 - (rd x2 x9)))).bind fun t416 => ((Q14.f x8 (wrap64 ((rd x2 x9) - x1))).bind fun t418 => (Q5.l0 k x1 x2 t416 t418 (wrap64 (x9 + 1))))) else (none)) else (some (wrap64 (2 * (wrap64 (x7 + x8)))))
end
def Q5.f (k : Nat) (a0_0 : Int) (a0_1 : Bool) (a1 : Int) (l2 : List Int) : Option (Int) := if a0_1 = true then (Q5.l1 k a1 l2 a0_0 0 a0_0 a0_1) else (Q5.l0 k a1 l2 0 0 0)
def Q5.T17 : Bool × List (List Nat × List Nat) := (true, [([], []), ([], []), ([], []), ([], []), ([2, 3], [2, 3]), ([4], [4]), ([0, 1, 5], [0, 1, 5]), ([6, 6, 0, 1, 2, 3, 4, 5, 6], [6])])
def Q5.B17 : List Nat := [0, 0, 0, 0, 12, 28, 63, 127]
theorem Q5.tab17 : rtab .any (opsOf Tryz.f80 17) = Q5.T17 := by kernel_rfl
theorem Q5.bits17 : waitsOk Q5.T17.2 Q5.B17 = true := by kernel_rfl
set_option maxHeartbeats 8000000 in
set_option maxRecDepth 100000 in
theorem Q5.calls (k : Nat) (a0_0 : Int) (a0_1 : Bool) (a1 : Int) (A2 : Option Addr) (c2 : Nat) (l2 : List Int) (r : Int) (w : World) (hr2 : Kd.C (Kd.int .i64) w A2 l2.length l2) (hc2 : l2.length ≤ c2) (h : Q5.f k a0_0 a0_1 a1 l2 = some r) :
    Calls Tryz.prog 80 #[.agg #[.int .i64 a0_0, .bool a0_1], .int .i64 a1, .slice A2 l2.length c2] w fun e w' => e = .returned (.int .i64 r) ∧ Below w.heap.size w w' := by
 have hu25 := Tryz.underlying25; have HR2 := A_ hr2; have HC2 := A_ hc2; clear hr2 hc2; have HB := A_ (Below.refl w.heap.size w); have H : (if a0_1 = true then (Q5.l1 k a1 l2 a0_0 0 a0_0 a0_1) else (Q5.l0 k a1 l2 0 0 0)) = some r := h; clear h; by_cases c4 : a0_1 = true
 ·
  subst c4
  have H1 : (Q5.l1 k a1 l2 a0_0 0 a0_0 true) = some r := by rw [if_pos rfl] at H; exact H
  clear H; have H := H1; clear H1; have H' := A_ H; clear H; go_enter Tryz.func80, Tryz.ntmps80
  go_wp2_with (first | ((with_reducible refine gate_dst (N := 3) rfl ?_); refine bx (N := 3) #[.int .i64 a0_0, .bool true] 25 ?_; intro gb414 hg w5 hbox hb; have BK414 := A_ (hbox); have GW414 := A_ (bs hg (hq HB) : w.heap.size ≤ gb414); have GE414 := A_ (bs hg (hq HB) : w.heap.size ≤ gb414); replace HB := A_ (below_step (hq HB) hb); clear hb hbox hg; have hcz6_0 : w5.cell? ⟨gb414, 0, none⟩ = some (.int .i64 a0_0) := bc BK414 0; have hcz6_1 : w5.cell? ⟨gb414, 1, none⟩ = some (.bool true) := bc BK414 1; have hfz6_0 := blk_frozen BK414.out 0; have hfz6_1 := blk_frozen BK414.out 1))
  go_loopg [10, 11] k (fun kq v10 v11 w' => ∃ (x10_1 : Int) (x11_1 : Int), v10 = .int .i64 x10_1 ∧ v11 = .int .i64 x11_1 ∧ Aside0 (Q5.l1 kq a1 l2 x10_1 x11_1 a0_0 true = some r) ∧ Aside0 (kq ≤ k) ∧ Aside0 (w'.heap[gb414]? = some (.cells #[.int .i64 a0_0, .bool true] 25 (0, 0))) ∧ Aside0 (Below w.heap.size w w'))
  case atStart => exact ⟨(a0_0), (0), rf, rf, H', ⟨Nat.le_refl _⟩, ⟨bq BK414⟩, ⟨hq HB⟩⟩
  case round =>
   clear H'; (try clear c4); (try clear hcz6_0); (try clear hcz6_1); (try clear hfz6_0); (try clear hfz6_1); obtain ⟨x10_1, x11_1, rfl, rfl, HA, HK1, BK414, HB⟩ := hrel
   cases gk with
   | zero => exact absurd HA.out (by simp [Q5.l1])
   | succ k1 =>
    have H := HA.out; clear HA; simp only [Q5.l1] at H
    by_cases c7 : x11_1 < a0_0
    ·
     rw [if_pos c7] at H; have c7b0 := decide_eq_true c7; clear c7; have H' := A_ H; clear H; have hcz8_0 : wr.cell? ⟨gb414, 0, none⟩ = some (.int .i64 a0_0) := bc BK414 0; have hcz8_1 : wr.cell? ⟨gb414, 1, none⟩ = some (.bool true) := bc BK414 1; have hfz8_0 := blk_frozen BK414.out 0; have hfz8_1 := blk_frozen BK414.out 1; go_wp2
     go_loopg [12, 13] k1 (fun kq v12 v13 w' => ∃ (x12_2 : Int) (x13_2 : Int), v12 = .int .i64 x12_2 ∧ v13 = .int .i64 x13_2 ∧ Aside0 (Q5.l2 kq a1 l2 x10_1 x11_1 x12_2 x13_2 a0_0 true = some r) ∧ Aside0 (kq ≤ k1) ∧ Aside0 (w'.heap[gb414]? = some (.cells #[.int .i64 a0_0, .bool true] 25 (0, 0))) ∧ Aside0 (Below w.heap.size w w'))
     case atStart => exact ⟨(0), (0), rf, rf, H', ⟨Nat.le_refl _⟩, ⟨bq BK414⟩, ⟨hq HB⟩⟩
     case round =>
      clear H'; (try clear c4); (try clear c7); (try clear c7b0); (try clear hcz6_0); (try clear hcz6_1); (try clear hcz8_0); (try clear hcz8_1); (try clear hfz6_0); (try clear hfz6_1); (try clear hfz8_0); (try clear hfz8_1); obtain ⟨x12_2, x13_2, rfl, rfl, HA, HK2, BK414, HB⟩ := hrel
      cases gk with
      | zero => exact absurd HA.out (by simp [Q5.l2])
      | succ k2 =>
       have H := HA.out; clear HA; simp only [Q5.l2] at H
       by_cases c9 : x13_2 < (l2.length : Int)
       ·
        rw [if_pos c9] at H; have c9b0 := decide_eq_true c9; clear c9; by_cases c10 : 0 ≤ x13_2
        ·
         rw [if_pos c10] at H; have c10b0 := decide_eq_true c10; clear c10; replace H := bm H; obtain ⟨t421, A11, H⟩ := H; by_cases c12 : t421 > x11_1
         ·
          rw [if_pos c12] at H; have c12b0 : decide (x11_1 < t421) = true := decide_eq_true c12; clear c12; replace H := bm H; obtain ⟨t422, A13, H⟩ := H; have H' := A_ H; clear H; try go_wp2
          replace BK414 := A_ (blk_drew BK414.out); replace HB := A_ (below_drew1 HB.out); have p420 : 0 ≤ (x13_2 : Int) := dq; have q420 : x13_2 < (l2.length : Int) := dq; obtain ⟨ad420, e420, hx420_0⟩ := Kd.at_int HR2.out x13_2 p420 q420; have hw420_0 := hx420_0
          cases e420
          replace hx420_0 := (HB.out.cell (World.block_lt_of_cell? w _ hx420_0)).trans hx420_0; replace p420 := eq_true p420; replace q420 := eq_true q420; refine start_ (n := 8) (S := fun w' => w'.cell? ⟨gb414, 0, none⟩ = some (.int .i64 a0_0) ∧ w'.cell? ⟨gb414, 1, none⟩ = some (.bool true) ∧ w'.cell? (ad420.add (x13_2).toNat) = some (.int .i64 (rd l2 x13_2))) (ds := []) #[false, false, false, false, false, false, false, false] (by kernel_rfl) rfl rfl ⟨bc BK414 0, bc BK414 1, ((HB.out.cell (World.block_lt_of_cell? w _ hw420_0)).trans hw420_0)⟩ (fun hHeld => ?_); refine with_tabW Q5.tab17 Q5.bits17 (fun HT_ HW_ => ?_); generalize wr.drew = w14 at BK414 HB hx420_0 hHeld ⊢; refine puT (i := 1) (N := some 59) HT_ #[false, true, false, false, false, false, false, false] ?_; refine puT (i := 2) (N := some 60) HT_ #[false, true, true, false, false, false, false, false] ?_; refine puT (i := 3) (N := some 61) HT_ #[false, true, true, true, false, false, false, false] ?_; refine puT (i := 4) (N := some 62) HT_ #[false, true, true, true, true, false, false, false] ?_; refine tkT (i := 0) (N := some 58) HT_ HW_ hHeld #[true, true, true, true, true, false, false, false] ?_; refine tkT (i := 5) (N := some 63) HT_ HW_ hHeld #[true, true, true, true, true, true, false, false] ?_; refine onT (i := 6) (N := some 64) HT_ #[true, true, true, true, true, true, true, false] (fun K hK => ?_); refine go_ Tryz.func86 #[.agg #[.int .i64 a0_0, .bool true], .int .i64 a1, .int .i64 (rd l2 x13_2)] ?_; with_reducible refine (Q52.calls a0_0 true a1 (rd l2 x13_2) t421 _ A11.out).mono ?_
          rintro e w15 ⟨rfl, hb⟩; refine ⟨_, rfl, ?_⟩; replace BK414 := A_ (blk_below (bq BK414) hb); replace HB := A_ (below_step (hq HB) hb); clear hb; refine hK.out _ _ ⟨bc BK414 0, bc BK414 1, ((HB.out.cell (World.block_lt_of_cell? w _ hw420_0)).trans hw420_0)⟩ (fun hHeld => ?_); clear hK K; refine nq_ (some 64) ?_; refine puT (i := 7) (N := some 14) HT_ #[true, true, true, true, true, true, true, true] ?_; refine done_ (done_of HT_.out (by kernel_rfl)) ?_; have hcz16_0 : w15.cell? ⟨gb414, 0, none⟩ = some (.int .i64 a0_0) := bc BK414 0; have hcz16_1 : w15.cell? ⟨gb414, 1, none⟩ = some (.bool true) := bc BK414 1; have hfz16_0 := blk_frozen BK414.out 0; have hfz16_1 := blk_frozen BK414.out 1; try go_wp2_with (first | ((with_reducible refine gate_callee (f := 46) rfl ?_); refine gL (some 73) Tryz.func46 #[.int .i64 x12_2, .int .i64 (wrap64 (a0_0 - t421))] ?_; (with_reducible refine (Q14.calls x12_2 (wrap64 (a0_0 - t421)) t422 _ A13.out).mono ?_); rintro e w' ⟨rfl, ⟨nd, rfl⟩⟩; refine ⟨_, rfl, ?_⟩))
          go_roundg k2
          case measure => have := HK1.out; have := HK2.out; omega
          case rel => exact ⟨(t422), (wrap64 (x13_2 + 1)), rf, rf, H', ⟨by have := HK1.out; have := HK2.out; omega⟩, ⟨bq BK414⟩, ⟨hq HB⟩⟩
         ·
          rw [if_neg c12] at H; have c12b0 : decide (x11_1 < t421) = false := decide_eq_false c12; clear c12; have H' := A_ H; clear H; try go_wp2
          replace BK414 := A_ (blk_drew BK414.out); replace HB := A_ (below_drew1 HB.out); have p420 : 0 ≤ (x13_2 : Int) := dq; have q420 : x13_2 < (l2.length : Int) := dq; obtain ⟨ad420, e420, hx420_0⟩ := Kd.at_int HR2.out x13_2 p420 q420; have hw420_0 := hx420_0
          cases e420
          replace hx420_0 := (HB.out.cell (World.block_lt_of_cell? w _ hx420_0)).trans hx420_0; replace p420 := eq_true p420; replace q420 := eq_true q420; refine start_ (n := 8) (S := fun w' => w'.cell? ⟨gb414, 0, none⟩ = some (.int .i64 a0_0) ∧ w'.cell? ⟨gb414, 1, none⟩ = some (.bool true) ∧ w'.cell? (ad420.add (x13_2).toNat) = some (.int .i64 (rd l2 x13_2))) (ds := []) #[false, false, false, false, false, false, false, false] (by kernel_rfl) rfl rfl ⟨bc BK414 0, bc BK414 1, ((HB.out.cell (World.block_lt_of_cell? w _ hw420_0)).trans hw420_0)⟩ (fun hHeld => ?_); refine with_tabW Q5.tab17 Q5.bits17 (fun HT_ HW_ => ?_); generalize wr.drew = w17 at BK414 HB hx420_0 hHeld ⊢; refine puT (i := 1) (N := some 59) HT_ #[false, true, false, false, false, false, false, false] ?_; refine puT (i := 2) (N := some 60) HT_ #[false, true, true, false, false, false, false, false] ?_; refine puT (i := 3) (N := some 61) HT_ #[false, true, true, true, false, false, false, false] ?_; refine puT (i := 4) (N := some 62) HT_ #[false, true, true, true, true, false, false, false] ?_; refine tkT (i := 0) (N := some 58) HT_ HW_ hHeld #[true, true, true, true, true, false, false, false] ?_; refine tkT (i := 5) (N := some 63) HT_ HW_ hHeld #[true, true, true, true, true, true, false, false] ?_; refine onT (i := 6) (N := some 64) HT_ #[true, true, true, true, true, true, true, false] (fun K hK => ?_); refine go_ Tryz.func86 #[.agg #[.int .i64 a0_0, .bool true], .int .i64 a1, .int .i64 (rd l2 x13_2)] ?_; with_reducible refine (Q52.calls a0_0 true a1 (rd l2 x13_2) t421 _ A11.out).mono ?_
          rintro e w18 ⟨rfl, hb⟩; refine ⟨_, rfl, ?_⟩; replace BK414 := A_ (blk_below (bq BK414) hb); replace HB := A_ (below_step (hq HB) hb); clear hb; refine hK.out _ _ ⟨bc BK414 0, bc BK414 1, ((HB.out.cell (World.block_lt_of_cell? w _ hw420_0)).trans hw420_0)⟩ (fun hHeld => ?_); clear hK K; refine nq_ (some 64) ?_; refine puT (i := 7) (N := some 14) HT_ #[true, true, true, true, true, true, true, true] ?_; refine done_ (done_of HT_.out (by kernel_rfl)) ?_; try go_wp2
          go_roundg k2
          case measure => have := HK1.out; have := HK2.out; omega
          case rel => exact ⟨(x12_2), (wrap64 (x13_2 + 1)), rf, rf, H', ⟨by have := HK1.out; have := HK2.out; omega⟩, ⟨bq BK414⟩, ⟨hq HB⟩⟩
        ·
         rw [if_neg c10] at H; exact absurd H (by simp)
       ·
        rw [if_neg c9] at H; have c9b0 := decide_eq_false c9; clear c9; replace H := bm H; obtain ⟨t419, A19, H⟩ := H; have H' := A_ H; clear H; go_wp2_with (first | ((with_reducible refine gate_callee (f := 44) rfl ?_); refine gL (some 79) Tryz.func44 #[.int .i64 x10_1, .int .i64 (wrap64 (2 * (wrap64 (x12_2 + x11_1))))] ?_; (with_reducible refine (Q22.calls x10_1 (wrap64 (2 * (wrap64 (x12_2 + x11_1)))) t419 _ A19.out).mono ?_); rintro e w' ⟨rfl, ⟨nd, rfl⟩⟩; refine ⟨_, rfl, ?_⟩))
        go_roundg k2
        case measure => have := HK1.out; have := HK2.out; omega
        case rel => exact ⟨(t419), (wrap64 (x11_1 + 1)), rf, rf, H', ⟨by have := HK1.out; have := HK2.out; omega⟩, ⟨bq BK414⟩, ⟨hq HB⟩⟩
    ·
     rw [if_neg c7] at H; have c7b0 := decide_eq_false c7; clear c7; obtain rfl := Option.some.inj H; have hcz20_0 : wr.cell? ⟨gb414, 0, none⟩ = some (.int .i64 a0_0) := bc BK414 0; have hcz20_1 : wr.cell? ⟨gb414, 1, none⟩ = some (.bool true) := bc BK414 1; have hfz20_0 := blk_frozen BK414.out 0; have hfz20_1 := blk_frozen BK414.out 1; go_wp2
     go_ret
     exact ⟨rt, hq HB⟩
 ·
  replace c4 := Bool.eq_false_iff.mpr c4; subst c4
  have H1 : (Q5.l0 k a1 l2 0 0 0) = some r := by rw [if_neg (show ¬ (false = true) by decide)] at H; exact H
  clear H; have H := H1; clear H1; have H' := A_ H; clear H; go_enter Tryz.func80, Tryz.ntmps80
  go_wp2_with (first | ((with_reducible refine gate_dst (N := 3) rfl ?_); refine bx (N := 3) #[.int .i64 a0_0, .bool false] 25 ?_; intro gb414 hg w21 hbox hb; have BK414 := A_ (hbox); have GW414 := A_ (bs hg (hq HB) : w.heap.size ≤ gb414); have GE414 := A_ (bs hg (hq HB) : w.heap.size ≤ gb414); replace HB := A_ (below_step (hq HB) hb); clear hb hbox hg; have hcz22_0 : w21.cell? ⟨gb414, 0, none⟩ = some (.int .i64 a0_0) := bc BK414 0; have hcz22_1 : w21.cell? ⟨gb414, 1, none⟩ = some (.bool false) := bc BK414 1; have hfz22_0 := blk_frozen BK414.out 0; have hfz22_1 := blk_frozen BK414.out 1))
  go_loopg [7, 8, 9] k (fun kq v7 v8 v9 w' => ∃ (x7_1 : Int) (x8_1 : Int) (x9_1 : Int), v7 = .int .i64 x7_1 ∧ v8 = .int .i64 x8_1 ∧ v9 = .int .i64 x9_1 ∧ Aside0 (Q5.l0 kq a1 l2 x7_1 x8_1 x9_1 = some r) ∧ Aside0 (kq ≤ k) ∧ Aside0 (w'.heap[gb414]? = some (.cells #[.int .i64 a0_0, .bool false] 25 (0, 0))) ∧ Aside0 (Below w.heap.size w w'))
  case atStart => exact ⟨(0), (0), (0), rf, rf, rf, H', ⟨Nat.le_refl _⟩, ⟨bq BK414⟩, ⟨hq HB⟩⟩
  case round =>
   clear H'; (try clear c4); (try clear c7); (try clear c7b0); (try clear c9); (try clear c9b0); (try clear c10); (try clear c10b0); (try clear c12); (try clear c12b0); (try clear hcz16_0); (try clear hcz16_1); (try clear hcz20_0); (try clear hcz20_1); (try clear hcz22_0); (try clear hcz22_1); (try clear hcz6_0); (try clear hcz6_1); (try clear hcz8_0); (try clear hcz8_1); (try clear hfz16_0); (try clear hfz16_1); (try clear hfz20_0); (try clear hfz20_1); (try clear hfz22_0); (try clear hfz22_1); (try clear hfz6_0); (try clear hfz6_1); (try clear hfz8_0); (try clear hfz8_1); (try clear hx420_0); (try clear p420); (try clear q420); obtain ⟨x7_1, x8_1, x9_1, rfl, rfl, rfl, HA, HK1, BK414, HB⟩ := hrel
   cases gk with
   | zero => exact absurd HA.out (by simp [Q5.l0])
   | succ k1 =>
    have H := HA.out; clear HA; simp only [Q5.l0] at H
    by_cases c23 : x9_1 < (l2.length : Int)
    ·
     rw [if_pos c23] at H; have c23b0 := decide_eq_true c23; clear c23; by_cases c24 : 0 ≤ x9_1
     ·
      rw [if_pos c24] at H; have c24b0 := decide_eq_true c24; clear c24; replace H := bm H; obtain ⟨t416, A25, H⟩ := H; replace H := bm H; obtain ⟨t418, A26, H⟩ := H; have H' := A_ H; clear H; have p415 : 0 ≤ (x9_1 : Int) := dq; have q415 : x9_1 < (l2.length : Int) := dq; obtain ⟨ad415, e415, hx415_0⟩ := Kd.at_int HR2.out x9_1 p415 q415
      cases e415
      replace hx415_0 := (HB.out.cell (World.block_lt_of_cell? w _ hx415_0)).trans hx415_0; replace p415 := eq_true p415; replace q415 := eq_true q415; go_wp2_with (first | ((with_reducible refine gate_callee (f := 46) rfl ?_); refine gL (some 31) Tryz.func46 #[.int .i64 x7_1, .int .i64 (wrap64 (a1 - (rd l2 x9_1)))] ?_; (with_reducible refine (Q14.calls x7_1 (wrap64 (a1 - (rd l2 x9_1))) t416 _ A25.out).mono ?_); rintro e w' ⟨rfl, ⟨nd, rfl⟩⟩; refine ⟨_, rfl, ?_⟩; have p417 : 0 ≤ (x9_1 : Int) := dq; have q417 : x9_1 < (l2.length : Int) := dq; obtain ⟨ad417, e417, hx417_0⟩ := Kd.at_int HR2.out x9_1 p417 q417; obtain rfl : ad415 = ad417 := (by injection e417); replace hx417_0 := (HB.out.cell (World.block_lt_of_cell? w _ hx417_0)).trans hx417_0; replace p417 := eq_true p417; replace q417 := eq_true q417) | ((with_reducible refine gate_callee (f := 46) rfl ?_); refine gL (some 39) Tryz.func46 #[.int .i64 x8_1, .int .i64 (wrap64 ((rd l2 x9_1) - a1))] ?_; (with_reducible refine (Q14.calls x8_1 (wrap64 ((rd l2 x9_1) - a1)) t418 _ A26.out).mono ?_); rintro e w' ⟨rfl, ⟨nd, rfl⟩⟩; refine ⟨_, rfl, ?_⟩))
      go_roundg k1
      case measure => have := HK1.out; omega
      case rel => exact ⟨(t416), (t418), (wrap64 (x9_1 + 1)), rf, rf, rf, H', ⟨by have := HK1.out; omega⟩, ⟨bq BK414⟩, ⟨hq HB⟩⟩
     ·
      rw [if_neg c24] at H; exact absurd H (by simp)
    ·
     rw [if_neg c23] at H; have c23b0 := decide_eq_false c23; clear c23; obtain rfl := Option.some.inj H; go_wp2
     go_ret
     exact ⟨rt, hq HB⟩

/-! ### spec_l6Run: function 81 -/
def Q28.l0 : Nat → Int → Int → List Int → Int → Int → Bool → Option (List Int)
  | 0, _, _, _, _, _, _ => none
  | k + 1, x1, x2, x7, x8, x424000, x424001 => if x8 < x2 then (if x424000 = 0 then (none) else (if x7.length < 17592186044416 then (Q28.l0 k x1 x2 (x7 ++ [Int.tmod (wrap64 (x1 + x8)) x424000]) (wrap64 (x8 + 1)) x424000 x424001) else (none))) else (some x7)
def Q28.f (k : Nat) (a0_0 : Int) (a0_1 : Bool) (a1 : Int) (a2 : Int) : Option (List Int) := Q28.l0 k a1 a2 (([] : List Int)) 0 a0_0 a0_1
set_option maxHeartbeats 8000000 in
set_option maxRecDepth 100000 in
theorem Q28.calls (k : Nat) (a0_0 : Int) (a0_1 : Bool) (a1 : Int) (a2 : Int) (r : List Int) (w : World) (h : Q28.f k a0_0 a0_1 a1 a2 = some r) :
    Calls Tryz.prog 81 #[.agg #[.int .i64 a0_0, .bool a0_1], .int .i64 a1, .int .i64 a2] w fun e w' => ∃ v0_ : Value, e = .returned (v0_) ∧ Kd.R (Kd.int .i64) 3 w' w.heap.size (fun _ => True) v0_ r ∧ Below w.heap.size w w' := by
 have hu25 := Tryz.underlying25; have HB := A_ (Below.refl w.heap.size w); have H : (Q28.l0 k a1 a2 (([] : List Int)) 0 a0_0 a0_1) = some r := h; clear h
 obtain ⟨y424, hy424⟩ : ∃ y_ : List Int, y_ = (([] : List Int)) := ⟨_, rfl⟩
 replace H : (Q28.l0 k a1 a2 y424 0 a0_0 a0_1) = some r := by first | (rw [hy424]; with_reducible exact H) | (have H2_ := (Option.bind_some _ _).symm.trans H; rw [hy424]; with_reducible exact H2_) | (have H2_ := (Option.bind_some _ _).symm.trans H; with_reducible exact H2_) | with_reducible exact H | (rw [hy424]; exact H) | exact H
 have Ny424 := A_ hy424; clear hy424; have H' := A_ H; clear H; go_enter Tryz.func81, Tryz.ntmps81
 go_wp2_with (first | ((with_reducible refine gate_dst (N := 3) rfl ?_); refine bx (N := 3) #[.int .i64 a0_0, .bool a0_1] 25 ?_; intro gb423 hg w4 hbox hb; have BK423 := A_ (hbox); have GW423 := A_ (bs hg (hq HB) : w.heap.size ≤ gb423); have GE423 := A_ (bs hg (hq HB) : w.heap.size ≤ gb423); replace HB := A_ (below_step (hq HB) hb); clear hb hbox hg) | ((with_reducible refine gate_dst (N := 9) rfl ?_); refine Kd.R_lit (Kd.int .i64) _ 3 ?hg (N := 9) ?hd (xs := ([] : List Int)) (inner := []) (ok := fun _ => True) (okp := fun _ => True) ?hr ?hp (fun _ hk => hk) trivial (Below.refl _ _) (Nat.le_refl _) (by simp) ?_; (case hd => rfl); (case hg => rfl); (case hr => first | (go_simp; done) | (go_simp; rfl)); (case hp => exact (Reps.none _ _)); intro v425 w5 ho6 hb hg_ hnew_; clear hg_ hnew_; (first | rw [← Ny424.out] at ho6 | (simp only [Int.reduceToNat] at ho6; rw [← Ny424.out] at ho6)); have HO426 := A_ (Kd.R_lower ho6 (below_size (hq HB))); replace BK423 := A_ (blk_below (bq BK423) hb); replace HB := A_ (below_step (hq HB) hb); clear hb ho6))
 go_loopg [7, 8] k (fun kq v7 v8 w' => ∃ (x7_1 : List Int) (x8_1 : Int), v8 = .int .i64 x8_1 ∧ Aside0 (Q28.l0 kq a1 a2 x7_1 x8_1 a0_0 a0_1 = some r) ∧ Aside0 (kq ≤ k) ∧ Aside0 (Kd.R (Kd.int .i64) 3 w' w.heap.size (fun _ => True) v7 x7_1) ∧ Aside0 (w'.heap[gb423]? = some (.cells #[.int .i64 a0_0, .bool a0_1] 25 (0, 0))) ∧ Aside0 (Below w.heap.size w w'))
 case atStart => exact ⟨(y424), (0), rf, H', ⟨Nat.le_refl _⟩, ⟨rq HO426⟩, ⟨bq BK423⟩, ⟨hq HB⟩⟩
 case round =>
  clear H'; obtain ⟨x7_1, x8_1, rfl, HA, HK1, HO_7, BK423, HB⟩ := hrel
  cases gk with
  | zero => exact absurd HA.out (by simp [Q28.l0])
  | succ k1 =>
   have H := HA.out; clear HA; simp only [Q28.l0] at H
   by_cases c7 : x8_1 < a2
   ·
    rw [if_pos c7] at H; have c7b0 := decide_eq_true c7; clear c7; by_cases c8 : a0_0 = 0
    ·
     rw [if_pos c8] at H; exact absurd H (by simp)
    ·
     rw [if_neg c8] at H; have c8b0 : (a0_0 == 0) = false := beq_eq_false_iff_ne.mpr c8; have c8b1 : (a0_0 != 0) = true := bne_iff_ne.mpr c8; by_cases c9 : x7_1.length < 17592186044416
     ·
      rw [if_pos c9] at H; have LMc9 := A_ c9; clear c9
      obtain ⟨y427, hy427⟩ : ∃ y_ : List Int, y_ = (x7_1 ++ [Int.tmod (wrap64 (a1 + x8_1)) a0_0]) := ⟨_, rfl⟩
      replace H : (Q28.l0 k1 a1 a2 y427 (wrap64 (x8_1 + 1)) a0_0 a0_1) = some r := by first | (rw [hy427]; with_reducible exact H) | (have H2_ := (Option.bind_some _ _).symm.trans H; rw [hy427]; with_reducible exact H2_) | (have H2_ := (Option.bind_some _ _).symm.trans H; with_reducible exact H2_) | with_reducible exact H | (rw [hy427]; exact H) | exact H
      have Ny427 := A_ hy427; clear hy427; have H' := A_ H; clear H; have hcz10_0 : wr.cell? ⟨gb423, 0, none⟩ = some (.int .i64 a0_0) := bc BK423 0; have hcz10_1 : wr.cell? ⟨gb423, 1, none⟩ = some (.bool a0_1) := bc BK423 1; have hfz10_0 := blk_frozen BK423.out 0; have hfz10_1 := blk_frozen BK423.out 1; go_wp2_with (first | ((with_reducible refine gate_builtin (b := .append) (xs := #[.tmp 15, .tmp 22]) rfl ?_); at_builtin; refine Kd.R_append (Kd.int .i64) (w0 := w) w.heap.size rfl (.tmp 15) (.tmp 22) 26 3 (.int .i64 0) 8 rfl Tryz.underlying26 info3 rfl (by decide) (by omega) u7 x7_1 (Int.tmod (wrap64 (a1 + x8_1)) a0_0) [.int .i64 (Int.tmod (wrap64 (a1 + x8_1)) a0_0)] (fun _ => True) (fun _ => False) rfl rfl ?aP (fun _ hk => hk.elim) ?aF ?aO ?aB ?aS ?aL ?_; (case aP => exact rfl); (case aB => exact (hq HB)); (case aF => exact (fun _ _ => trivial)); (case aO => exact (rq HO_7)); (case aS => exact (below_size (hq HB))); (case aL => have := LMc9.out; omega); intro v428 w11 ho hb hg hat; rw [← Ny427.out] at ho; have n0_ := A_ (blk_grown (g := gb423) (o := .cells #[.int .i64 a0_0, .bool a0_1] 25 (0, 0)) (bq BK423) hg (Kd.R_ne HO_7.out BK423.out (by decide))); have n1_ := A_ (hb); have n2_ := A_ (ho); clear BK423; clear HB; clear HO_7; have BK423 := n0_; have HB := n1_; have HO429 := n2_; clear n0_ n1_ n2_; clear ho hb hg hat))
      go_roundg k1
      case measure => have := HK1.out; omega
      case rel => exact ⟨(y427), (wrap64 (x8_1 + 1)), rf, H', ⟨by have := HK1.out; omega⟩, ⟨rq HO429⟩, ⟨bq BK423⟩, ⟨hq HB⟩⟩
     ·
      rw [if_neg c9] at H; exact absurd H (by simp)
   ·
    rw [if_neg c7] at H; have c7b0 := decide_eq_false c7; clear c7; obtain rfl := Option.some.inj H; go_wp2
    go_ret
    exact ⟨_, rt, rq HO_7, hq HB⟩

/-! ### spec_l2Tour: function 87 -/
def Q67.f (a0 : Int) (a1 : Int) : Option (Int) := (Q22.f a0 a1).bind fun t430 => (some (wrap64 ((wrap64 (a0 + a1)) + t430)))
set_option maxHeartbeats 8000000 in
set_option maxRecDepth 100000 in
theorem Q67.calls (a0 : Int) (a1 : Int) (r : Int) (w : World) (h : Q67.f a0 a1 = some r) :
    Calls Tryz.prog 87 #[.int .i64 a0, .int .i64 a1] w fun e w' => e = .returned (.int .i64 r) ∧ Drawn0 w w' := by
 have H : ((Q22.f a0 a1).bind fun t430 => (some (wrap64 ((wrap64 (a0 + a1)) + t430)))) = some r := h; clear h; replace H := bm H; obtain ⟨t430, A3, H⟩ := H; obtain rfl := Option.some.inj H; go_enter Tryz.func87, Tryz.ntmps87
 go_wp2_with (first | ((with_reducible refine gate_callee (f := 44) rfl ?_); refine gL (some 10) Tryz.func44 #[.int .i64 a0, .int .i64 a1] ?_; (with_reducible refine (Q22.calls a0 a1 t430 _ A3.out).mono ?_); rintro e w' ⟨rfl, ⟨nd, rfl⟩⟩; refine ⟨_, rfl, ?_⟩))
 go_ret
 exact ⟨rf, by repeat (first | exact Drawn0.refl _ | apply Drawn0.step)⟩

end Go.Proofs.YtjhppcpjobofbaaGreat.PFnExplorers
