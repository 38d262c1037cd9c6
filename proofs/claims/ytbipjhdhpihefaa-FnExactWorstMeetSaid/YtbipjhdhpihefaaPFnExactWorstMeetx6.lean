-- Printed by this session's program myprint.py.
import Derived.Test.YtbipjhdhpihefaaPFnExactWorstMeetx0
import Derived.Test.YtbipjhdhpihefaaPFnExactWorstMeetx5
namespace Go.Proofs.Ytbipjhdhpihefaa.PFnExactWorstMeet
open Go.RowKit Go.Proofs.Ytbipjhdhpihefaa.Own Go.Proofs.YtbipjhdhpihefaaW.PrintWords Go.Proofs.YtbipjhdhpihefaaW.PrintLast Go.Proofs.YtbipjhdhpihefaaW.PrintMore
attribute [local go_sem] max2_int min2_int max_two min_two max_three min_three max_four min_four   -- for this text's walks alone
set_option linter.unusedVariables false
set_option linter.unusedSimpArgs false

/-! ### impl_areWalkers$1: the predicate areWalkers hands on -/
set_option maxHeartbeats 4000000 in
theorem areWalkers_1.calls (k : Nat) (s : Int) (r0 : Bool) (gb : Nat) (x : S33) (A' : Option Addr) (c' : Nat) (b : Bool) (w : World) (hbk : w.heap[gb]? = some (.cells #[.int .i64 s, .bool r0] 31 (0, 0))) (hr0 : Kd.C (Kd.int .i64) w A' x.f3.length x.f3) (hc0 : x.f3.length ≤ c')
    (h : (impl_Road_isWalker.f k s r0 x.f0 x.f1 x.f2 x.f3).bind (fun b => some (!b)) = some b) :
    Calls Try.prog 89 (#[.agg #[.int .i64 x.f0, .int .i64 x.f1, .int .i64 x.f2, .slice A' x.f3.length c']] ++ #[.pointer (some ⟨gb, 0, none⟩)]) w fun e w' => e = .returned (.bool b) ∧ Below w.heap.size w w' := by
  obtain ⟨b0, hb0, hb1⟩ := Option.bind_eq_some_iff.mp h
  obtain rfl := Option.some.inj hb1
  clear hb1 h
  have HR0 := Aside0.mk hr0
  have HC0 := Aside0.mk hc0
  have A8 := Aside0.mk hb0
  have HB := Aside0.mk (Below.refl w.heap.size w)
  have hx0 : w.cell? ⟨gb, 0, none⟩ = some (.int .i64 s) := (blk_cell hbk 0).trans rfl
  have hx1 : w.cell? ⟨gb, 1, none⟩ = some (.bool r0) := (blk_cell hbk 1).trans rfl
  have hlt : gb < w.heap.size := blk_lt hbk
  have hu2 := Try.underlying33
  clear hr0 hc0 hb0 hbk
  go_enter Try.func89, Try.ntmps89
  go_wp2_with (first | ((with_reducible refine gate_dst (N := 2) rfl ?_); refine box_event ?hg (N := 2) ?hd (cs := #[.int .i64 x.f0, .int .i64 x.f1, .int .i64 x.f2, .slice A' x.f3.length c']) (t := 33) ?hr ?_; (case hd => rfl); (case hg => rfl); (case hr => first | (go_simp; done) | (go_simp; rfl)); intro gb2 hg wb2 hbox hb; have hx0' : wb2.cell? ⟨gb, 0, none⟩ = some (.int .i64 s) := (hb.cell (p := ⟨gb, 0, none⟩) hlt).trans hx0; have hx1' : wb2.cell? ⟨gb, 1, none⟩ = some (.bool r0) := (hb.cell (p := ⟨gb, 1, none⟩) hlt).trans hx1; have n0_ := Aside0.mk (below_step (by repeat (first | (with_reducible first | exact HB.out | apply below_alloc | apply pw_below_drewN | apply below_drew1) | exact HB.out)) hb); have n1_ := Aside0.mk (hbox); clear HB; have HB := n0_; have BK2 := n1_; clear n0_ n1_; clear hb hbox hg; have hczb2_0 : wb2.cell? ⟨gb2, 0, none⟩ = some (.int .i64 x.f0) := (blk_cell BK2.out 0).trans rfl; have hczb2_1 : wb2.cell? ⟨gb2, 1, none⟩ = some (.int .i64 x.f1) := (blk_cell BK2.out 1).trans rfl; have hczb2_2 : wb2.cell? ⟨gb2, 2, none⟩ = some (.int .i64 x.f2) := (blk_cell BK2.out 2).trans rfl; have hczb2_3 : wb2.cell? ⟨gb2, 3, none⟩ = some (.slice A' x.f3.length c') := (blk_cell BK2.out 3).trans rfl) | ((with_reducible refine gate_callee (f := 90) rfl ?_); refine goesL_ (some 6) rfl rfl Try.func90 (by kernel_rfl) rfl #[.agg #[.int .i64 s, .bool r0], .agg #[.int .i64 x.f0, .int .i64 x.f1, .int .i64 x.f2, .slice A' x.f3.length c']] rfl (by (try simp only [List.map_toArray, List.map_cons, List.map_nil]); first | done | rfl) ?_; (with_reducible refine (impl_Road_isWalker.calls k s r0 x.f0 x.f1 x.f2 _ _ x.f3 b0 _ ?side1 ?side2 A8.out).mono ?_); (case side1 => repeat (first | exact (Kd.C_below HR0.out HB.out) | exact HR0.out | (with_reducible refine Kd.C_alloc ?_ _) | (with_reducible refine Kd.C_drewN ?_ _))); (case side2 => exact HC0.out); rintro e w8 ⟨rfl, hb⟩; refine ⟨_, rfl, ?_⟩; have n_HB := Aside0.mk (below_step (by repeat (first | (with_reducible first | exact HB.out | apply below_alloc | apply pw_below_drewN | apply below_drew1) | exact HB.out)) hb); clear HB; have HB := n_HB; clear n_HB hb))
  go_ret
  exact ⟨rfl, by repeat (first | (with_reducible first | exact HB.out | apply below_alloc | apply pw_below_drewN | apply below_drew1) | exact HB.out)⟩
/-! ### impl_areWalkers -/
def impl_areWalkers.f (k : Nat) (a0_0 : Int) (a0_1 : Bool) (l1 : List (S33)) : Option (Bool) := (impl_IsRoad.f a0_0 a0_1).bind fun t => (if t = true then ((anyO (fun x : S33 => (impl_Road_isWalker.f k a0_0 a0_1 x.f0 x.f1 x.f2 x.f3).bind fun b => some (!b)) l1).bind fun c => some (!c)) else (some false))
theorem impl_areWalkers.mono : ∀ a0 a1 a2 k, LeO (impl_areWalkers.f k a0 a1 a2) (impl_areWalkers.f (k + 1) a0 a1 a2) := by
  intro a0 a1 a2 k
  unfold impl_areWalkers.f
  refine LeO.bind (LeO.refl _) (fun t => LeO.ite (LeO.bind (anyO_mono (fun x => LeO.bind (impl_Road_isWalker.mono _ _ _ _ _ _ k) (fun b => LeO.refl _)) _) (fun c => LeO.refl _)) (LeO.refl _))
set_option maxHeartbeats 8000000 in
set_option maxRecDepth 100000 in
theorem impl_areWalkers.calls (k : Nat) (a0_0 : Int) (a0_1 : Bool) (A1 : Option Addr) (c1 : Nat) (l1 : List (S33)) (r : Bool) (w : World) (hr1 : Kd.C k33 w A1 l1.length l1) (hc1 : l1.length ≤ c1) (h : impl_areWalkers.f k a0_0 a0_1 l1 = some r) :
    Calls Try.prog 45 #[.agg #[.int .i64 a0_0, .bool a0_1], .slice A1 l1.length c1] w fun e w' => e = .returned (.bool r) ∧ Below w.heap.size w w' := by
  have HR1 := Aside0.mk hr1
  have HC1 := Aside0.mk hc1
  clear hr1 hc1
  have HB := Aside0.mk (Below.refl w.heap.size w)
  have hu := Try.underlying31
  obtain ⟨t, ht, h1⟩ := Option.bind_eq_some_iff.mp h
  have A2 := Aside0.mk ht
  clear ht h
  cases t with
  | true =>
    rw [if_pos rfl] at h1
    obtain ⟨c, hc, h2⟩ := Option.bind_eq_some_iff.mp h1
    have A3 := Aside0.mk hc
    obtain rfl := Option.some.inj h2
    clear hc h1 h2
    have EG := Aside0.mk (show ∀ (args : Array Value) (w : World), (callFunc 89 args).run Try.prog w = .ok (.enter 89 args) w from enters_of Try.func89 (by kernel_rfl) rfl)
    go_enter Try.func45, Try.ntmps45
    go_wp2_with (first | ((with_reducible refine gate_dst (N := 2) rfl ?_); refine box_event ?hg (N := 2) ?hd (cs := #[.int .i64 a0_0, .bool a0_1]) (t := 31) ?hr ?_; (case hd => rfl); (case hg => rfl); (case hr => first | (go_simp; done) | (go_simp; rfl)); intro gb2 hg wb2 hbox hb; have n0_ := Aside0.mk (below_step (by repeat (first | (with_reducible first | exact HB.out | apply below_alloc | apply pw_below_drewN | apply below_drew1) | exact HB.out)) hb); have n1_ := Aside0.mk (hbox); clear HB; have HB := n0_; have BK2 := n1_; clear n0_ n1_; clear hb hbox hg; have hczb2_0 : wb2.cell? ⟨gb2, 0, none⟩ = some (.int .i64 a0_0) := (blk_cell BK2.out 0).trans rfl; have hczb2_1 : wb2.cell? ⟨gb2, 1, none⟩ = some (.bool a0_1) := (blk_cell BK2.out 1).trans rfl) | ((with_reducible refine gate_callee (f := 53) rfl ?_); refine goesL_ (some 6) rfl rfl Try.func53 (by kernel_rfl) rfl #[.agg #[.int .i64 a0_0, .bool a0_1]] rfl (by (try simp only [List.map_toArray, List.map_cons, List.map_nil]); first | done | rfl) ?_; (with_reducible refine (impl_IsRoad.calls a0_0 a0_1 true _ A2.out).mono ?_); rintro e w3 ⟨rfl, hb⟩; refine ⟨_, rfl, ?_⟩; have n_BK2 := Aside0.mk (blk_below (g := gb2) (o := .cells #[.int .i64 a0_0, .bool a0_1] 31 (0, 0)) (by (with_reducible repeat (first | refine blk_drewN ?_ _ | refine blk_drew ?_ | refine blk_alloc ?_ _)); exact BK2.out) hb); have n_HB := Aside0.mk (below_step (by repeat (first | (with_reducible first | exact HB.out | apply below_alloc | apply pw_below_drewN | apply below_drew1) | exact HB.out)) hb); clear BK2; have BK2 := n_BK2; clear n_BK2; clear HB; have HB := n_HB; clear n_HB hb) | (go_at_call 88; (with_reducible refine (conf_walkers.calls (fun x : S33 => (impl_Road_isWalker.f k a0_0 a0_1 x.f0 x.f1 x.f2 x.f3).bind fun b => some (!b)) 89 #[.pointer (some ⟨gb2, 0, none⟩)] EG.out _ _ l1 c _ ?side1 ?side2 ?side3 A3.out).mono ?_); (case side1 => repeat (first | exact (Kd.C_below HR1.out HB.out) | (with_reducible refine Kd.C_alloc ?_ _) | (with_reducible refine Kd.C_drewN ?_ _))); (case side2 => exact HC1.out); (case side3 => exact fun x A' c' b W hbW hC hl hq => areWalkers_1.calls k a0_0 a0_1 gb2 x A' c' b W (blk_below (g := gb2) (o := .cells #[.int .i64 a0_0, .bool a0_1] 31 (0, 0)) (by (with_reducible repeat (first | refine blk_drewN ?_ _ | refine blk_drew ?_ | refine blk_alloc ?_ _)); exact BK2.out) hbW) hC hl hq); rintro e w10 ⟨rfl, hb⟩; have n_HB := Aside0.mk (below_step (by repeat (first | (with_reducible first | exact HB.out | apply below_alloc | apply pw_below_drewN | apply below_drew1) | exact HB.out)) hb); clear HB; have HB := n_HB; clear n_HB hb))
    go_ret
    exact ⟨rfl, by repeat (first | (with_reducible first | exact HB.out | apply below_alloc | apply pw_below_drewN | apply below_drew1) | exact HB.out)⟩
  | false =>
    rw [if_neg (by decide)] at h1
    obtain rfl := Option.some.inj h1
    clear h1
    go_enter Try.func45, Try.ntmps45
    go_wp2_with (first | ((with_reducible refine gate_dst (N := 2) rfl ?_); refine box_event ?hg (N := 2) ?hd (cs := #[.int .i64 a0_0, .bool a0_1]) (t := 31) ?hr ?_; (case hd => rfl); (case hg => rfl); (case hr => first | (go_simp; done) | (go_simp; rfl)); intro gb2 hg wb2 hbox hb; have n0_ := Aside0.mk (below_step (by repeat (first | (with_reducible first | exact HB.out | apply below_alloc | apply pw_below_drewN | apply below_drew1) | exact HB.out)) hb); have n1_ := Aside0.mk (hbox); clear HB; have HB := n0_; have BK2 := n1_; clear n0_ n1_; clear hb hbox hg; have hczb2_0 : wb2.cell? ⟨gb2, 0, none⟩ = some (.int .i64 a0_0) := (blk_cell BK2.out 0).trans rfl; have hczb2_1 : wb2.cell? ⟨gb2, 1, none⟩ = some (.bool a0_1) := (blk_cell BK2.out 1).trans rfl) | ((with_reducible refine gate_callee (f := 53) rfl ?_); refine goesL_ (some 6) rfl rfl Try.func53 (by kernel_rfl) rfl #[.agg #[.int .i64 a0_0, .bool a0_1]] rfl (by (try simp only [List.map_toArray, List.map_cons, List.map_nil]); first | done | rfl) ?_; (with_reducible refine (impl_IsRoad.calls a0_0 a0_1 false _ A2.out).mono ?_); rintro e w3 ⟨rfl, hb⟩; refine ⟨_, rfl, ?_⟩; have n_BK2 := Aside0.mk (blk_below (g := gb2) (o := .cells #[.int .i64 a0_0, .bool a0_1] 31 (0, 0)) (by (with_reducible repeat (first | refine blk_drewN ?_ _ | refine blk_drew ?_ | refine blk_alloc ?_ _)); exact BK2.out) hb); have n_HB := Aside0.mk (below_step (by repeat (first | (with_reducible first | exact HB.out | apply below_alloc | apply pw_below_drewN | apply below_drew1) | exact HB.out)) hb); clear BK2; have BK2 := n_BK2; clear n_BK2; clear HB; have HB := n_HB; clear n_HB hb))
    go_ret
    exact ⟨rfl, by repeat (first | (with_reducible first | exact HB.out | apply below_alloc | apply pw_below_drewN | apply below_drew1) | exact HB.out)⟩

/-! ### impl_found: function 48 -/
def impl_found.f (a0 : Int) : Option (Int × Bool) := some (mx 0 a0, decide (a0 ≥ 0))
set_option maxHeartbeats 8000000 in
set_option maxRecDepth 100000 in
theorem impl_found.calls (a0 : Int) (r1 : Int) (r2 : Bool) (w : World) (h : impl_found.f a0 = some (r1, r2)) :
    Calls Try.prog 48 #[.int .i64 a0] w fun e w' => e = .returned (.tuple #[.int .i64 r1, .bool r2]) ∧ Below w.heap.size w w' := by
  have HB := Aside0.mk (Below.refl w.heap.size w)
  have H : (some (mx 0 a0, decide (a0 ≥ 0))) = some (r1, r2) := h
  clear h
  obtain ⟨ji2, hji2⟩ : ∃ j_ : Int, (mx 0 a0) = j_ := ⟨_, rfl⟩
  replace H : (some (ji2, decide (a0 ≥ 0))) = some (r1, r2) := by first | (rw [hji2] at H; exact H) | (simp only [hji2] at H ⊢; exact H)
  (try (have hji2l : 0 ≤ ji2 := by (rw [← hji2]; unfold mx; (repeat' split) <;> omega)))
  (try (have hji2m : 0 ≤ ji2 := by omega))
  have hji2_ : (if 0 < a0 then a0 else 0) = ji2 := hji2
  simp only [Option.some.injEq, Prod.mk.injEq] at H
  obtain ⟨rfl, rfl⟩ := H
  go_enter Try.func48, Try.ntmps48
  go_wp2
  go_ret2
  exact ⟨by first | rfl | (simp [errW_none, errW_some] <;> rfl) | (simp only [← hji2]; first | rfl | (simp [errW_none, errW_some] <;> rfl)) | (simp [*, errW_none, errW_some] <;> rfl), by repeat (first | (with_reducible first | exact HB.out | apply below_alloc | apply pw_below_drewN | apply below_drew1) | exact HB.out)⟩

end Go.Proofs.Ytbipjhdhpihefaa.PFnExactWorstMeet
