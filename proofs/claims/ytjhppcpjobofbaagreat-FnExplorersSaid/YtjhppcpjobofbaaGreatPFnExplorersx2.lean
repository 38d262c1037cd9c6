-- Told shorter still by shrink2.py.
-- Printed, and told shorter by this session's program shrink.py.
-- Printed by this session's program myprint.py.
import Derived.Test.YtjhppcpjobofbaaGreatPFnExplorersx0
import Derived.Test.YtjhppcpjobofbaaGreatPFnExplorersx1
namespace Go.Proofs.YtjhppcpjobofbaaGreat.PFnExplorers
open Go.RowKit Go.Proofs.YtjhppcpjobofbaaGreat.Own Go.Proofs.YtjhppcpjobofbaaGreatW.PrintWords Go.Proofs.YtjhppcpjobofbaaGreatW.PrintLast Go.Proofs.YtjhppcpjobofbaaGreatW.PrintMore
attribute [local go_sem] max2_int min2_int max_two min_two max_three min_three max_four min_four   -- for this text's walks alone
set_option linter.unusedVariables false
set_option linter.unusedSimpArgs false

/-! ### spec_DrawReachTime: function 5 -/
def Q64.f (k : Nat) (l0 : List Int) : Option (Int × Bool × List Int) := (Q51.f l0 0 0).bind fun bt199 => ((Q32.f k l0 bt199.2.2.1 bt199.2.2.2 bt199.1 bt199.2.1).bind fun bt204 => (some (bt199.1, bt199.2.1, bt204.1)))
set_option maxHeartbeats 8000000 in
set_option maxRecDepth 100000 in
theorem Q64.calls (k : Nat) (A0 : Option Addr) (c0 : Nat) (l0 : List Int) (r1 : Int) (r2 : Bool) (r3 : List Int) (w : World) (hr0 : Kd.C (Kd.int .u8) w A0 l0.length l0) (hc0 : l0.length ≤ c0) (h : Q64.f k l0 = some (r1, r2, r3)) :
    Calls Tryz.prog 5 #[.slice A0 l0.length c0] w fun e w' => ∃ v2_ : Value, e = .returned (.tuple #[.agg #[.int .i64 r1, .bool r2], v2_]) ∧ Kd.R (Kd.int .i64) 3 w' w.heap.size (fun _ => True) v2_ r3 ∧ Below w.heap.size w w' := by
 have hu25 := Tryz.underlying25; have hu39 := Tryz.underlying39; have HR0 := A_ hr0; have HC0 := A_ hc0; clear hr0 hc0; have HB := A_ (Below.refl w.heap.size w); have H : ((Q51.f l0 0 0).bind fun bt199 => ((Q32.f k l0 bt199.2.2.1 bt199.2.2.2 bt199.1 bt199.2.1).bind fun bt204 => (some (bt199.1, bt199.2.1, bt204.1)))) = some (r1, r2, r3) := h; clear h; replace H := bm H; obtain ⟨⟨t199, t200, t201, t202⟩, A2, H⟩ := H; (try dsimp only at H); replace H := bm H; obtain ⟨⟨t204, t207, t208⟩, A3, H⟩ := H; (try dsimp only at H); simp only [Option.some.injEq, Prod.mk.injEq] at H
 obtain ⟨rfl, rfl, rfl⟩ := H; go_enter Tryz.func5, Tryz.ntmps5
 try go_wp2_with (first | ((with_reducible refine gate_dst (N := 2) rfl ?_); refine bx (N := 2) #[.int .i64 0, .bool false] 25 ?_; intro gb197 hg w4 hbox hb; have BK197 := A_ (hbox); have GW197 := A_ (bs hg (hq HB) : w.heap.size ≤ gb197); have GE197 := A_ (bs hg (hq HB) : w.heap.size ≤ gb197); replace HB := A_ (below_step (hq HB) hb); clear hb hbox hg) | ((with_reducible refine gate_dst (N := 8) rfl ?_); refine bx (N := 8) #[.slice A0 l0.length c0, .int .i64 0, .int .u64 0] 39 ?_; intro gb198 hg w5 hbox hb; have GW198 := A_ (bs hg (hq HB) : w.heap.size ≤ gb198); have GE198 := A_ (bs hg (hq HB) : w.heap.size ≤ gb198); have NB197_198 := A_ ((by rw [hg]; exact Nat.ne_of_lt (blk_lt (bq BK197)) : gb197 ≠ gb198)); have NB198_197 := A_ ((by rw [hg]; exact Nat.ne_of_gt (blk_lt (bq BK197)) : gb198 ≠ gb197)); replace BK197 := A_ (blk_below (bq BK197) hb); have HI198 := A_ ((⟨_, _, hbox, by rw [hg]; exact (below_size (hq HB)), HR0.out⟩ : IsS39 w w5 gb198 l0 0 0)); replace HB := A_ (below_step (hq HB) hb); clear hb hbox hg) | ((with_reducible refine gate_callee (f := 17) rfl ?_); refine gL (some 10) Tryz.func17 #[.pointer (some ⟨gb198, 0, none⟩)] ?_; (with_reducible refine (Q51.calls gb198 l0 0 0 t199 t200 t201 t202 w _ ?side1 ?side2 A2.out).mono ?_); (case side1 => repeat (first | (with_reducible first | exact HI198.out | apply IsS39.alloc | apply IsS39.drewN | apply IsS39.drew | apply IsS39.set_1 | apply IsS39.set_2 | refine IsS39.far ?_ NB198_197.out _) | exact HI198.out)); (case side2 => repeat (first | (with_reducible first | exact HB.out | apply below_alloc | apply pw_below_drewN | apply below_drew1 | refine below_set ?_ (IsS39.ge HI198.out) | refine below_set ?_ GE197.out) | exact HB.out)); rintro e w6 ⟨rfl, hi, hb, hk⟩; refine ⟨_, rfl, ?_⟩; replace BK197 := A_ (KeepBut.blk hk (g' := gb197) (o := .cells #[.int .i64 0, .bool false] 25 (0, 0)) (bq BK197) NB197_198.out (by simp)); replace HB := A_ (hb); replace HI198 := A_ (hi); clear hb hk hi) | ((with_reducible refine gate_dst (N := 5) rfl ?_); refine bx (N := 5) #[.int .i64 0, .bool false] 25 ?_; intro gb203 hg w7 hbox hb; have BK203 := A_ (hbox); have GW203 := A_ ((by rw [hg]; exact (below_size (by repeat (first | (with_reducible first | exact HB.out | apply below_alloc | apply pw_below_drewN | apply below_drew1 | refine below_set ?_ (IsS39.ge HI198.out) | refine below_set ?_ GE197.out) | exact HB.out))) : w.heap.size ≤ gb203)); have GE203 := A_ ((by rw [hg]; exact (below_size (by repeat (first | (with_reducible first | exact HB.out | apply below_alloc | apply pw_below_drewN | apply below_drew1 | refine below_set ?_ (IsS39.ge HI198.out) | refine below_set ?_ GE197.out) | exact HB.out))) : w.heap.size ≤ gb203)); replace HB := A_ (below_step (by repeat (first | (with_reducible first | exact HB.out | apply below_alloc | apply pw_below_drewN | apply below_drew1 | refine below_set ?_ (IsS39.ge HI198.out) | refine below_set ?_ GE197.out) | exact HB.out)) hb); have NB197_203 := A_ ((by rw [hg]; exact Nat.ne_of_lt (blk_lt (bq BK197)) : gb197 ≠ gb203)); have NB203_197 := A_ ((by rw [hg]; exact Nat.ne_of_gt (blk_lt (bq BK197)) : gb203 ≠ gb197)); replace BK197 := A_ (blk_below (bq BK197) hb); have NB198_203 := A_ ((by rw [hg]; exact Nat.ne_of_lt (IsS39.lt (show IsS39 w _ gb198 l0 t201 t202 from by repeat (first | (with_reducible first | exact HI198.out | apply IsS39.alloc | apply IsS39.drewN | apply IsS39.drew | apply IsS39.set_1 | apply IsS39.set_2 | refine IsS39.far ?_ NB198_197.out _) | exact HI198.out))) : gb198 ≠ gb203)); have NB203_198 := A_ ((by rw [hg]; exact Nat.ne_of_gt (IsS39.lt (show IsS39 w _ gb198 l0 t201 t202 from by repeat (first | (with_reducible first | exact HI198.out | apply IsS39.alloc | apply IsS39.drewN | apply IsS39.drew | apply IsS39.set_1 | apply IsS39.set_2 | refine IsS39.far ?_ NB198_197.out _) | exact HI198.out))) : gb203 ≠ gb198)); replace HI198 := A_ (IsS39.below (by repeat (first | (with_reducible first | exact HI198.out | apply IsS39.alloc | apply IsS39.drewN | apply IsS39.drew | apply IsS39.set_1 | apply IsS39.set_2 | refine IsS39.far ?_ NB198_197.out _) | exact HI198.out)) hb); clear hb hbox hg; have hnb8 := NB203_197.out; have hnc8 := NB197_203.out; have hnb9 := NB203_198.out; have hnc9 := NB198_203.out; have hcz10_0 : w7.cell? ⟨gb203, 0, none⟩ = some (.int .i64 0) := bc BK203 0; have hcz10_1 : w7.cell? ⟨gb203, 1, none⟩ = some (.bool false) := bc BK203 1; have hfz10_0 := blk_frozen BK203.out 0; have hfz10_1 := blk_frozen BK203.out 1))
 have n0_ : Aside0 (((w7.setCell ⟨gb203, 0, none⟩ (.int .i64 t199)).setCell ⟨gb203, 1, none⟩ (.bool t200)).heap[gb197]? = some (.cells #[.int .i64 0, .bool false] 25 (0, 0))) := ⟨by (with_reducible repeat (first | refine blk_drewN ?_ _ | refine blk_drew ?_ | refine blk_alloc ?_ _)); refine blk_far ?_ NB197_203.out _; (with_reducible repeat (first | refine blk_drewN ?_ _ | refine blk_drew ?_ | refine blk_alloc ?_ _)); refine blk_far ?_ NB197_203.out _; (with_reducible repeat (first | refine blk_drewN ?_ _ | refine blk_drew ?_ | refine blk_alloc ?_ _)); exact BK197.out⟩
 have n1_ : Aside0 (((w7.setCell ⟨gb203, 0, none⟩ (.int .i64 t199)).setCell ⟨gb203, 1, none⟩ (.bool t200)).heap[gb203]? = some (.cells #[.int .i64 t199, .bool t200] 25 (0, 0))) := ⟨by (with_reducible repeat (first | refine blk_drewN ?_ _ | refine blk_drew ?_ | refine blk_alloc ?_ _)); refine blk_put (cs := #[.int .i64 t199, .bool false]) ?_ 1 _ rfl; (with_reducible repeat (first | refine blk_drewN ?_ _ | refine blk_drew ?_ | refine blk_alloc ?_ _)); refine blk_put (cs := #[.int .i64 0, .bool false]) ?_ 0 _ rfl; (with_reducible repeat (first | refine blk_drewN ?_ _ | refine blk_drew ?_ | refine blk_alloc ?_ _)); exact BK203.out⟩
 have n2_ : Aside0 (IsS39 w ((w7.setCell ⟨gb203, 0, none⟩ (.int .i64 t199)).setCell ⟨gb203, 1, none⟩ (.bool t200)) gb198 l0 t201 t202) := ⟨by repeat (first | (with_reducible first | exact HI198.out | apply IsS39.alloc | apply IsS39.drewN | apply IsS39.drew | apply IsS39.set_1 | apply IsS39.set_2 | refine IsS39.far ?_ NB198_197.out _ | refine IsS39.far ?_ NB198_203.out _) | exact HI198.out)⟩
 have n3_ : Aside0 (Below w.heap.size w ((w7.setCell ⟨gb203, 0, none⟩ (.int .i64 t199)).setCell ⟨gb203, 1, none⟩ (.bool t200))) := ⟨by repeat (first | (with_reducible first | exact HB.out | apply below_alloc | apply pw_below_drewN | apply below_drew1 | refine below_set ?_ (IsS39.ge HI198.out) | refine below_set ?_ GE197.out | refine below_set ?_ GE203.out) | exact HB.out)⟩
 (try clear BK197); (try clear BK203); (try clear HI198); (try clear HB); generalize ((w7.setCell ⟨gb203, 0, none⟩ (.int .i64 t199)).setCell ⟨gb203, 1, none⟩ (.bool t200)) = w11 at n0_ n1_ n2_ n3_ ⊢; have BK197 := n0_; have BK203 := n1_; have HI198 := n2_; have HB := n3_; clear n0_ n1_ n2_ n3_; replace BK197 := A_ (blk_drew BK197.out); replace BK203 := A_ (blk_drew BK203.out); replace HI198 := A_ (IsS39.drew HI198.out); replace HB := A_ (below_drew1 HB.out); refine start_ (n := 6) (S := fun w' => w'.cell? ⟨gb203, 0, none⟩ = some (.int .i64 t199) ∧ w'.cell? ⟨gb203, 1, none⟩ = some (.bool t200)) (ds := []) #[false, false, false, false, false, false] (by kernel_rfl) rfl rfl ⟨bc BK203 0, bc BK203 1⟩ (fun hHeld => ?_); generalize w11.drew = w12 at BK197 BK203 HI198 HB hHeld ⊢; refine pu (i := 1) (N := some 12) #[false, true, false, false, false, false] ?_; refine tk (i := 0) (N := some 11) hHeld #[true, true, false, false, false, false] ?_; refine tk (i := 2) (N := some 13) hHeld #[true, true, true, false, false, false] ?_; refine on (i := 3) (N := some 14) #[true, true, true, true, false, false] (fun K hK => ?_); refine go_ Tryz.func18 #[.pointer (some ⟨gb198, 0, none⟩), .agg #[.int .i64 t199, .bool t200]] ?_; with_reducible refine (Q32.calls k gb198 l0 t201 t202 t199 t200 t204 t207 t208 w _ ?side1 ?side2 A3.out).mono ?_
 (case side1 => repeat (first | (with_reducible first | exact HI198.out | apply IsS39.alloc | apply IsS39.drewN | apply IsS39.drew | apply IsS39.set_1 | apply IsS39.set_2 | refine IsS39.far ?_ NB198_197.out _ | refine IsS39.far ?_ NB198_203.out _) | exact HI198.out)); (case side2 => repeat (first | (with_reducible first | exact HB.out | apply below_alloc | apply pw_below_drewN | apply below_drew1 | refine below_set ?_ (IsS39.ge HI198.out) | refine below_set ?_ GE197.out | refine below_set ?_ GE203.out) | exact HB.out)); rintro e w13 ⟨v205, rfl, ho0, hi, hb, hk⟩; refine ⟨_, rfl, ?_⟩; replace BK197 := A_ (KeepBut.blk hk (g' := gb197) (o := .cells #[.int .i64 0, .bool false] 25 (0, 0)) (bq BK197) NB197_198.out (by simp)); replace BK203 := A_ (KeepBut.blk hk (g' := gb203) (o := .cells #[.int .i64 t199, .bool t200] 25 (0, 0)) (bq BK203) NB203_198.out (by simp)); have HO206 := A_ (Kd.R_lower ho0 (below_size (by repeat (first | (with_reducible first | exact HB.out | apply below_alloc | apply pw_below_drewN | apply below_drew1 | refine below_set ?_ (IsS39.ge HI198.out) | refine below_set ?_ GE197.out | refine below_set ?_ GE203.out) | exact HB.out)))); replace HB := A_ (hb); replace HI198 := A_ (hi); clear hb hk hi ho0; refine hK.out _ _ ⟨bc BK203 0, bc BK203 1⟩ (fun hHeld => ?_); clear hK K; refine nq_ (some 14) ?_; refine on (i := 4) (N := none) #[true, true, true, true, true, false] (fun K hK => ?_); have hs14 : w13.cell? ⟨gb197, 0, none⟩ = some (.int .i64 0) := bc BK197 0; have hfs14 := blk_frozen BK197.out 0; have hns14_1 := NB203_197.out; have hms14_1 := NB197_203.out; have hs15 : w13.cell? ⟨gb197, 1, none⟩ = some (.bool false) := bc BK197 1; have hfs15 := blk_frozen BK197.out 1; have hns15_1 := NB203_197.out; have hms15_1 := NB197_203.out; refine skip_ (w1 := ?_) (by rfl) rfl ?_ ?_
 rotate_left
 ·
  go_simp
  rfl
 refine hK.out _ _ ⟨((cell_far (p := ⟨gb197, _, none⟩) NB203_197.out _).trans (((cell_far (p := ⟨gb197, _, none⟩) NB203_197.out _).trans (hHeld.1)))), ((cell_far (p := ⟨gb197, _, none⟩) NB203_197.out _).trans (((cell_far (p := ⟨gb197, _, none⟩) NB203_197.out _).trans (hHeld.2))))⟩ (fun hHeld => ?_); clear hK K; refine pu (i := 5) (N := some 3) #[true, true, true, true, true, true] ?_; refine done_ (by kernel_rfl) ?_; try go_wp2
 refine bodyPost_ret (results_ct rfl _ _ gb197 25 #[.int .i64 t199, .bool t200] (0, 0) _ rfl (by (with_reducible repeat (first | refine blk_drewN ?_ _ | refine blk_drew ?_ | refine blk_alloc ?_ _)); refine blk_put (cs := #[.int .i64 t199, .bool false]) ?_ 1 _ rfl; (with_reducible repeat (first | refine blk_drewN ?_ _ | refine blk_drew ?_ | refine blk_alloc ?_ _)); refine blk_put (cs := #[.int .i64 0, .bool false]) ?_ 0 _ rfl; (with_reducible repeat (first | refine blk_drewN ?_ _ | refine blk_drew ?_ | refine blk_alloc ?_ _)); exact BK197.out) Tryz.underlying25 rfl (by kernel_rfl)) rfl ?_; exact ⟨_, rt, by (with_reducible repeat (first | apply Kd.R_alloc | apply Kd.R_drewN | apply Kd.R_drew)); exact Kd.R_mono (Kd.R_far (p := ⟨gb197, 1, none⟩) (Kd.R_far (p := ⟨gb197, 0, none⟩) (Kd.R_types HO206.out BK197.out (by decide)) (fun _ => cj) (.int .i64 t199)) (fun _ => cj) (.bool t200)) (fun _ hk => trivial), by repeat (first | (with_reducible first | exact HB.out | apply below_alloc | apply pw_below_drewN | apply below_drew1 | refine below_set ?_ (IsS39.ge HI198.out) | refine below_set ?_ GE197.out | refine below_set ?_ GE203.out) | exact HB.out)⟩

/-! ### impl_within: function 42 -/
def Q23.f (a0 : Int) (a1 : Int) (a2 : Int) : Option (Bool) := if a0 ≥ a1 then (some (decide (a0 ≤ a2))) else (some false)
set_option maxHeartbeats 8000000 in
set_option maxRecDepth 100000 in
theorem Q23.calls (a0 : Int) (a1 : Int) (a2 : Int) (r : Bool) (w : World) (h : Q23.f a0 a1 a2 = some r) :
    Calls Tryz.prog 42 #[.int .i64 a0, .int .i64 a1, .int .i64 a2] w fun e w' => e = .returned (.bool r) ∧ Drawn0 w w' := by
 have H : (if a0 ≥ a1 then (some (decide (a0 ≤ a2))) else (some false)) = some r := h; clear h; by_cases c4 : a0 ≥ a1
 ·
  rw [if_pos c4] at H; have c4b0 : decide (a1 ≤ a0) = true := decide_eq_true c4; clear c4; obtain rfl := Option.some.inj H; go_enter Tryz.func42, Tryz.ntmps42
  go_wp2
  go_ret
  exact ⟨rf, by repeat (first | exact Drawn0.refl _ | apply Drawn0.step)⟩
 ·
  rw [if_neg c4] at H; have c4b0 : decide (a1 ≤ a0) = false := decide_eq_false c4; clear c4; obtain rfl := Option.some.inj H; go_enter Tryz.func42, Tryz.ntmps42
  go_wp2
  go_ret
  exact ⟨rf, by repeat (first | exact Drawn0.refl _ | apply Drawn0.step)⟩

/-! ### impl_IsRoad: function 22 -/
def Q27.f (a0_0 : Int) (a0_1 : Bool) : Option (Bool) := (Q23.f a0_0 2 24).bind fun t210 => (if t210 = true then (if a0_1 = true then (some (decide (a0_0 ≥ 3))) else (some true)) else (some false))
set_option maxHeartbeats 8000000 in
set_option maxRecDepth 100000 in
theorem Q27.calls (a0_0 : Int) (a0_1 : Bool) (r : Bool) (w : World) (h : Q27.f a0_0 a0_1 = some r) :
    Calls Tryz.prog 22 #[.agg #[.int .i64 a0_0, .bool a0_1]] w fun e w' => e = .returned (.bool r) ∧ Below w.heap.size w w' := by
 have hu25 := Tryz.underlying25; have HB := A_ (Below.refl w.heap.size w); have H : ((Q23.f a0_0 2 24).bind fun t210 => (if t210 = true then (if a0_1 = true then (some (decide (a0_0 ≥ 3))) else (some true)) else (some false))) = some r := h; clear h; replace H := bm H; obtain ⟨t210, A2, H⟩ := H; by_cases c3 : t210 = true
 ·
  subst c3
  have H1 : (if a0_1 = true then (some (decide (a0_0 ≥ 3))) else (some true)) = some r := by rw [if_pos rfl] at H; exact H
  clear H; have H := H1; clear H1; by_cases c4 : a0_1 = true
  ·
   subst c4
   have H1 : (some (decide (a0_0 ≥ 3))) = some r := by rw [if_pos rfl] at H; exact H
   clear H; have H := H1; clear H1; obtain rfl := Option.some.inj H; go_enter Tryz.func22, Tryz.ntmps22
   go_wp2_with (first | ((with_reducible refine gate_dst (N := 1) rfl ?_); refine bx (N := 1) #[.int .i64 a0_0, .bool true] 25 ?_; intro gb209 hg w5 hbox hb; have BK209 := A_ (hbox); have GW209 := A_ (bs hg (hq HB) : w.heap.size ≤ gb209); have GE209 := A_ (bs hg (hq HB) : w.heap.size ≤ gb209); replace HB := A_ (below_step (hq HB) hb); clear hb hbox hg; have hcz6_0 : w5.cell? ⟨gb209, 0, none⟩ = some (.int .i64 a0_0) := bc BK209 0; have hcz6_1 : w5.cell? ⟨gb209, 1, none⟩ = some (.bool true) := bc BK209 1; have hfz6_0 := blk_frozen BK209.out 0; have hfz6_1 := blk_frozen BK209.out 1) | ((with_reducible refine gate_callee (f := 42) rfl ?_); refine gL (some 5) Tryz.func42 #[.int .i64 a0_0, .int .i64 2, .int .i64 24] ?_; (with_reducible refine (Q23.calls a0_0 2 24 true _ A2.out).mono ?_); rintro e w' ⟨rfl, ⟨nd, rfl⟩⟩; refine ⟨_, rfl, ?_⟩))
   go_ret
   exact ⟨rt, hq HB⟩
  ·
   replace c4 := Bool.eq_false_iff.mpr c4; subst c4
   have H1 : (some true) = some r := by rw [if_neg (show ¬ (false = true) by decide)] at H; exact H
   clear H; have H := H1; clear H1; obtain rfl := Option.some.inj H; go_enter Tryz.func22, Tryz.ntmps22
   go_wp2_with (first | ((with_reducible refine gate_dst (N := 1) rfl ?_); refine bx (N := 1) #[.int .i64 a0_0, .bool false] 25 ?_; intro gb209 hg w7 hbox hb; have BK209 := A_ (hbox); have GW209 := A_ (bs hg (hq HB) : w.heap.size ≤ gb209); have GE209 := A_ (bs hg (hq HB) : w.heap.size ≤ gb209); replace HB := A_ (below_step (hq HB) hb); clear hb hbox hg; have hcz8_0 : w7.cell? ⟨gb209, 0, none⟩ = some (.int .i64 a0_0) := bc BK209 0; have hcz8_1 : w7.cell? ⟨gb209, 1, none⟩ = some (.bool false) := bc BK209 1; have hfz8_0 := blk_frozen BK209.out 0; have hfz8_1 := blk_frozen BK209.out 1) | ((with_reducible refine gate_callee (f := 42) rfl ?_); refine gL (some 5) Tryz.func42 #[.int .i64 a0_0, .int .i64 2, .int .i64 24] ?_; (with_reducible refine (Q23.calls a0_0 2 24 true _ A2.out).mono ?_); rintro e w' ⟨rfl, ⟨nd, rfl⟩⟩; refine ⟨_, rfl, ?_⟩))
   go_ret
   exact ⟨rt, hq HB⟩
 ·
  replace c3 := Bool.eq_false_iff.mpr c3; subst c3
  have H1 : (some false) = some r := by rw [if_neg (show ¬ (false = true) by decide)] at H; exact H
  clear H; have H := H1; clear H1; obtain rfl := Option.some.inj H; go_enter Tryz.func22, Tryz.ntmps22
  go_wp2_with (first | ((with_reducible refine gate_dst (N := 1) rfl ?_); refine bx (N := 1) #[.int .i64 a0_0, .bool a0_1] 25 ?_; intro gb209 hg w9 hbox hb; have BK209 := A_ (hbox); have GW209 := A_ (bs hg (hq HB) : w.heap.size ≤ gb209); have GE209 := A_ (bs hg (hq HB) : w.heap.size ≤ gb209); replace HB := A_ (below_step (hq HB) hb); clear hb hbox hg; have hcz10_0 : w9.cell? ⟨gb209, 0, none⟩ = some (.int .i64 a0_0) := bc BK209 0; have hcz10_1 : w9.cell? ⟨gb209, 1, none⟩ = some (.bool a0_1) := bc BK209 1; have hfz10_0 := blk_frozen BK209.out 0; have hfz10_1 := blk_frozen BK209.out 1) | ((with_reducible refine gate_callee (f := 42) rfl ?_); refine gL (some 5) Tryz.func42 #[.int .i64 a0_0, .int .i64 2, .int .i64 24] ?_; (with_reducible refine (Q23.calls a0_0 2 24 false _ A2.out).mono ?_); rintro e w' ⟨rfl, ⟨nd, rfl⟩⟩; refine ⟨_, rfl, ?_⟩))
  go_ret
  exact ⟨rt, hq HB⟩

/-! ### impl_allWithin: function 48 -/
def Q31.l0 : Nat → Int → Int → List Int → Int → Int → Option (Bool)
  | 0, _, _, _, _, _ => none
  | k + 1, x1, x2, x9, x10, x11 => if x11 < x10 then (if 0 ≤ x11 then (if x11 < (x9.length : Int) then ((Q23.f (rd x9 x11) x1 x2).bind fun t212 => (if t212 = true then (Q31.l0 k x1 x2 x9 x10 (wrap64 (x11 + 1))) else (some false))) else (none)) else (none)) else (some true)
def Q31.f (k : Nat) (l0 : List Int) (a1 : Int) (a2 : Int) : Option (Bool) := Q31.l0 k a1 a2 l0 (l0.length : Int) 0
set_option maxHeartbeats 8000000 in
set_option maxRecDepth 100000 in
theorem Q31.calls (k : Nat) (A0 : Option Addr) (c0 : Nat) (l0 : List Int) (a1 : Int) (a2 : Int) (r : Bool) (w : World) (hr0 : Kd.C (Kd.int .i64) w A0 l0.length l0) (hc0 : l0.length ≤ c0) (h : Q31.f k l0 a1 a2 = some r) :
    Calls Tryz.prog 48 #[.slice A0 l0.length c0, .int .i64 a1, .int .i64 a2] w fun e w' => e = .returned (.bool r) ∧ Drawn0 w w' := by
 have HR0 := A_ hr0; have HC0 := A_ hc0; clear hr0 hc0; have H : (Q31.l0 k a1 a2 l0 (l0.length : Int) 0) = some r := h; clear h; have H' := A_ H; clear H; go_enter Tryz.func48, Tryz.ntmps48
 go_wp2
 go_loopg [11] k (fun kq v11 w' => ∃ (x11_1 : Int), v11 = .int .i64 x11_1 ∧ Aside0 (Q31.l0 kq a1 a2 l0 (l0.length : Int) x11_1 = some r) ∧ Aside0 (kq ≤ k) ∧ Drawn0 w w')
 case atStart => exact ⟨(0), rf, H', ⟨Nat.le_refl _⟩, by repeat (first | exact Drawn0.refl _ | apply Drawn0.step)⟩
 case round =>
  clear H'; obtain ⟨x11_1, rfl, HA, HK1, ⟨m1, rfl⟩⟩ := hrel
  cases gk with
  | zero => exact absurd HA.out (by simp [Q31.l0])
  | succ k1 =>
   have H := HA.out; clear HA; simp only [Q31.l0] at H
   by_cases c4 : x11_1 < (l0.length : Int)
   ·
    rw [if_pos c4] at H; have c4b0 := decide_eq_true c4; clear c4; by_cases c5 : 0 ≤ x11_1
    ·
     rw [if_pos c5] at H; have c5b0 := decide_eq_true c5; clear c5; by_cases c6 : x11_1 < (l0.length : Int)
     ·
      rw [if_pos c6] at H; have c6b0 := decide_eq_true c6; clear c6; replace H := bm H; obtain ⟨t212, A7, H⟩ := H; by_cases c8 : t212 = true
      ·
       subst c8
       have H1 : (Q31.l0 k1 a1 a2 l0 (l0.length : Int) (wrap64 (x11_1 + 1))) = some r := by rw [if_pos rfl] at H; exact H
       clear H; have H := H1; clear H1; have H' := A_ H; clear H; have p211 : 0 ≤ (x11_1 : Int) := dq; have q211 : x11_1 < (l0.length : Int) := dq; obtain ⟨ad211, e211, hx211_0⟩ := Kd.at_int HR0.out x11_1 p211 q211
       cases e211
       replace p211 := eq_true p211; replace q211 := eq_true q211; go_wp2_with (first | ((with_reducible refine gate_callee (f := 42) rfl ?_); refine gL (some 18) Tryz.func42 #[.int .i64 (rd l0 x11_1), .int .i64 a1, .int .i64 a2] ?_; (with_reducible refine (Q23.calls (rd l0 x11_1) a1 a2 true _ A7.out).mono ?_); rintro e w' ⟨rfl, ⟨nd, rfl⟩⟩; refine ⟨_, rfl, ?_⟩))
       go_roundg k1
       case measure => have := HK1.out; omega
       case rel => exact ⟨(wrap64 (x11_1 + 1)), rf, H', ⟨by have := HK1.out; omega⟩, by repeat (first | exact Drawn0.refl _ | apply Drawn0.step)⟩
      ·
       replace c8 := Bool.eq_false_iff.mpr c8; subst c8
       have H1 : (some false) = some r := by rw [if_neg (show ¬ (false = true) by decide)] at H; exact H
       clear H; have H := H1; clear H1; obtain rfl := Option.some.inj H; have p211 : 0 ≤ (x11_1 : Int) := dq; have q211 : x11_1 < (l0.length : Int) := dq; obtain ⟨ad211, e211, hx211_0⟩ := Kd.at_int HR0.out x11_1 p211 q211
       cases e211
       replace p211 := eq_true p211; replace q211 := eq_true q211; go_wp2_with (first | ((with_reducible refine gate_callee (f := 42) rfl ?_); refine gL (some 18) Tryz.func42 #[.int .i64 (rd l0 x11_1), .int .i64 a1, .int .i64 a2] ?_; (with_reducible refine (Q23.calls (rd l0 x11_1) a1 a2 false _ A7.out).mono ?_); rintro e w' ⟨rfl, ⟨nd, rfl⟩⟩; refine ⟨_, rfl, ?_⟩))
       go_ret
       exact ⟨rf, by repeat (first | exact Drawn0.refl _ | apply Drawn0.step)⟩
     ·
      rw [if_neg c6] at H; exact absurd H (by simp)
    ·
     rw [if_neg c5] at H; exact absurd H (by simp)
   ·
    rw [if_neg c4] at H; have c4b0 := decide_eq_false c4; clear c4; obtain rfl := Option.some.inj H; go_wp2
    go_ret
    exact ⟨rf, by repeat (first | exact Drawn0.refl _ | apply Drawn0.step)⟩

/-! ### impl_Road_has: function 43 -/
def Q42.f (k : Nat) (a0_0 : Int) (a0_1 : Bool) (l1 : List Int) : Option (Bool) := (Q31.f k l1 0 (wrap64 (a0_0 - 1))).bind fun t214 => (some t214)
set_option maxHeartbeats 8000000 in
set_option maxRecDepth 100000 in
theorem Q42.calls (k : Nat) (a0_0 : Int) (a0_1 : Bool) (A1 : Option Addr) (c1 : Nat) (l1 : List Int) (r : Bool) (w : World) (hr1 : Kd.C (Kd.int .i64) w A1 l1.length l1) (hc1 : l1.length ≤ c1) (h : Q42.f k a0_0 a0_1 l1 = some r) :
    Calls Tryz.prog 43 #[.agg #[.int .i64 a0_0, .bool a0_1], .slice A1 l1.length c1] w fun e w' => e = .returned (.bool r) ∧ Below w.heap.size w w' := by
 have hu25 := Tryz.underlying25; have HR1 := A_ hr1; have HC1 := A_ hc1; clear hr1 hc1; have HB := A_ (Below.refl w.heap.size w); have H : ((Q31.f k l1 0 (wrap64 (a0_0 - 1))).bind fun t214 => (some t214)) = some r := h; clear h; replace H := bm H; obtain ⟨t214, A3, H⟩ := H; obtain rfl := Option.some.inj H; go_enter Tryz.func43, Tryz.ntmps43
 go_wp2_with (first | ((with_reducible refine gate_dst (N := 2) rfl ?_); refine bx (N := 2) #[.int .i64 a0_0, .bool a0_1] 25 ?_; intro gb213 hg w4 hbox hb; have BK213 := A_ (hbox); have GW213 := A_ (bs hg (hq HB) : w.heap.size ≤ gb213); have GE213 := A_ (bs hg (hq HB) : w.heap.size ≤ gb213); replace HB := A_ (below_step (hq HB) hb); clear hb hbox hg; have hcz5_0 : w4.cell? ⟨gb213, 0, none⟩ = some (.int .i64 a0_0) := bc BK213 0; have hcz5_1 : w4.cell? ⟨gb213, 1, none⟩ = some (.bool a0_1) := bc BK213 1; have hfz5_0 := blk_frozen BK213.out 0; have hfz5_1 := blk_frozen BK213.out 1) | ((with_reducible refine gate_callee (f := 48) rfl ?_); refine gL (some 9) Tryz.func48 #[.slice A1 l1.length c1, .int .i64 0, .int .i64 (wrap64 (a0_0 - 1))] ?_; (with_reducible refine (Q31.calls k _ _ l1 0 (wrap64 (a0_0 - 1)) t214 _ ?side1 ?side2 A3.out).mono ?_); (case side1 => exact cq (Kd.C_below HR1.out HB.out)); (case side2 => exact HC1.out); rintro e w' ⟨rfl, ⟨nd, rfl⟩⟩; refine ⟨_, rfl, ?_⟩))
 go_ret
 exact ⟨rt, hq HB⟩

/-! ### impl_Road_areExplorers: function 23 -/
def Q24.f (k : Nat) (a0_0 : Int) (a0_1 : Bool) (l1 : List Int) : Option (Bool) := (Q23.f (l1.length : Int) 1 4).bind fun t216 => (if t216 = true then ((Q42.f k a0_0 a0_1 l1).bind fun t217 => (some t217)) else (some false))
set_option maxHeartbeats 8000000 in
set_option maxRecDepth 100000 in
theorem Q24.calls (k : Nat) (a0_0 : Int) (a0_1 : Bool) (A1 : Option Addr) (c1 : Nat) (l1 : List Int) (r : Bool) (w : World) (hr1 : Kd.C (Kd.int .i64) w A1 l1.length l1) (hc1 : l1.length ≤ c1) (h : Q24.f k a0_0 a0_1 l1 = some r) :
    Calls Tryz.prog 23 #[.agg #[.int .i64 a0_0, .bool a0_1], .slice A1 l1.length c1] w fun e w' => e = .returned (.bool r) ∧ Below w.heap.size w w' := by
 have hu25 := Tryz.underlying25; have HR1 := A_ hr1; have HC1 := A_ hc1; clear hr1 hc1; have HB := A_ (Below.refl w.heap.size w); have H : ((Q23.f (l1.length : Int) 1 4).bind fun t216 => (if t216 = true then ((Q42.f k a0_0 a0_1 l1).bind fun t217 => (some t217)) else (some false))) = some r := h; clear h; replace H := bm H; obtain ⟨t216, A3, H⟩ := H; by_cases c4 : t216 = true
 ·
  subst c4
  have H1 : ((Q42.f k a0_0 a0_1 l1).bind fun t217 => (some t217)) = some r := by rw [if_pos rfl] at H; exact H
  clear H; have H := H1; clear H1; replace H := bm H; obtain ⟨t217, A5, H⟩ := H; obtain rfl := Option.some.inj H; go_enter Tryz.func23, Tryz.ntmps23
  go_wp2_with (first | ((with_reducible refine gate_dst (N := 2) rfl ?_); refine bx (N := 2) #[.int .i64 a0_0, .bool a0_1] 25 ?_; intro gb215 hg w6 hbox hb; have BK215 := A_ (hbox); have GW215 := A_ (bs hg (hq HB) : w.heap.size ≤ gb215); have GE215 := A_ (bs hg (hq HB) : w.heap.size ≤ gb215); replace HB := A_ (below_step (hq HB) hb); clear hb hbox hg) | ((with_reducible refine gate_callee (f := 42) rfl ?_); refine gL (some 7) Tryz.func42 #[.int .i64 (l1.length : Int), .int .i64 1, .int .i64 4] ?_; (with_reducible refine (Q23.calls (l1.length : Int) 1 4 true _ A3.out).mono ?_); rintro e w' ⟨rfl, ⟨nd, rfl⟩⟩; refine ⟨_, rfl, ?_⟩; have hcz7_0 : w6.cell? ⟨gb215, 0, none⟩ = some (.int .i64 a0_0) := bc BK215 0; have hcz7_1 : w6.cell? ⟨gb215, 1, none⟩ = some (.bool a0_1) := bc BK215 1; have hfz7_0 := blk_frozen BK215.out 0; have hfz7_1 := blk_frozen BK215.out 1) | (go_at_call 43; (with_reducible refine (Q42.calls k a0_0 a0_1 _ _ l1 t217 _ ?side1 ?side2 A5.out).mono ?_); (case side1 => exact cq (Kd.C_below HR1.out (hq HB))); (case side2 => exact HC1.out); rintro e w8 ⟨rfl, hb⟩; replace BK215 := A_ (blk_below (bq BK215) hb); replace HB := A_ (below_step (hq HB) hb); clear hb))
  go_ret
  exact ⟨rt, hq HB⟩
 ·
  replace c4 := Bool.eq_false_iff.mpr c4; subst c4
  have H1 : (some false) = some r := by rw [if_neg (show ¬ (false = true) by decide)] at H; exact H
  clear H; have H := H1; clear H1; obtain rfl := Option.some.inj H; go_enter Tryz.func23, Tryz.ntmps23
  go_wp2_with (first | ((with_reducible refine gate_dst (N := 2) rfl ?_); refine bx (N := 2) #[.int .i64 a0_0, .bool a0_1] 25 ?_; intro gb215 hg w9 hbox hb; have BK215 := A_ (hbox); have GW215 := A_ (bs hg (hq HB) : w.heap.size ≤ gb215); have GE215 := A_ (bs hg (hq HB) : w.heap.size ≤ gb215); replace HB := A_ (below_step (hq HB) hb); clear hb hbox hg) | ((with_reducible refine gate_callee (f := 42) rfl ?_); refine gL (some 7) Tryz.func42 #[.int .i64 (l1.length : Int), .int .i64 1, .int .i64 4] ?_; (with_reducible refine (Q23.calls (l1.length : Int) 1 4 false _ A3.out).mono ?_); rintro e w' ⟨rfl, ⟨nd, rfl⟩⟩; refine ⟨_, rfl, ?_⟩))
  go_ret
  exact ⟨rt, hq HB⟩

/-! ### impl_Road_isRun: function 49 -/
def Q76.f (k : Nat) (a0_0 : Int) (a0_1 : Bool) (a1 : Int) (a2 : Int) : Option (Bool) := (Q42.f k a0_0 a0_1 (([a1] : List Int))).bind fun t222 => (if t222 = true then ((Q23.f a2 0 a0_0).bind fun t223 => (if t223 = true then (if a0_1 = true then (some true) else (some (decide ((wrap64 (a1 + a2)) ≤ a0_0)))) else (some false))) else (some false))
set_option maxHeartbeats 8000000 in
set_option maxRecDepth 100000 in
theorem Q76.calls (k : Nat) (a0_0 : Int) (a0_1 : Bool) (a1 : Int) (a2 : Int) (r : Bool) (w : World) (h : Q76.f k a0_0 a0_1 a1 a2 = some r) :
    Calls Tryz.prog 49 #[.agg #[.int .i64 a0_0, .bool a0_1], .int .i64 a1, .int .i64 a2] w fun e w' => e = .returned (.bool r) ∧ Below w.heap.size w w' := by
 have hu25 := Tryz.underlying25; have HB := A_ (Below.refl w.heap.size w); have H : ((Q42.f k a0_0 a0_1 (([a1] : List Int))).bind fun t222 => (if t222 = true then ((Q23.f a2 0 a0_0).bind fun t223 => (if t223 = true then (if a0_1 = true then (some true) else (some (decide ((wrap64 (a1 + a2)) ≤ a0_0)))) else (some false))) else (some false))) = some r := h; clear h
 obtain ⟨y219, hy219⟩ : ∃ y_ : List Int, y_ = (([a1] : List Int)) := ⟨_, rfl⟩
 replace H : ((Q42.f k a0_0 a0_1 y219).bind fun t222 => (if t222 = true then ((Q23.f a2 0 a0_0).bind fun t223 => (if t223 = true then (if a0_1 = true then (some true) else (some (decide ((wrap64 (a1 + a2)) ≤ a0_0)))) else (some false))) else (some false))) = some r := by first | (rw [hy219]; with_reducible exact H) | (have H2_ := (Option.bind_some _ _).symm.trans H; rw [hy219]; with_reducible exact H2_) | (have H2_ := (Option.bind_some _ _).symm.trans H; with_reducible exact H2_) | with_reducible exact H | (rw [hy219]; exact H) | exact H
 have Ny219 := A_ hy219; clear hy219; replace H := bm H; obtain ⟨t222, A4, H⟩ := H; by_cases c5 : t222 = true
 ·
  subst c5
  have H1 : ((Q23.f a2 0 a0_0).bind fun t223 => (if t223 = true then (if a0_1 = true then (some true) else (some (decide ((wrap64 (a1 + a2)) ≤ a0_0)))) else (some false))) = some r := by rw [if_pos rfl] at H; exact H
  clear H; have H := H1; clear H1; replace H := bm H; obtain ⟨t223, A6, H⟩ := H; by_cases c7 : t223 = true
  ·
   subst c7
   have H1 : (if a0_1 = true then (some true) else (some (decide ((wrap64 (a1 + a2)) ≤ a0_0)))) = some r := by rw [if_pos rfl] at H; exact H
   clear H; have H := H1; clear H1; by_cases c8 : a0_1 = true
   ·
    subst c8
    have H1 : (some true) = some r := by rw [if_pos rfl] at H; exact H
    clear H; have H := H1; clear H1; obtain rfl := Option.some.inj H; go_enter Tryz.func49, Tryz.ntmps49
    go_wp2_with (first | ((with_reducible refine gate_dst (N := 3) rfl ?_); refine bx (N := 3) #[.int .i64 a0_0, .bool true] 25 ?_; intro gb218 hg w9 hbox hb; have BK218 := A_ (hbox); have GW218 := A_ (bs hg (hq HB) : w.heap.size ≤ gb218); have GE218 := A_ (bs hg (hq HB) : w.heap.size ≤ gb218); replace HB := A_ (below_step (hq HB) hb); clear hb hbox hg; have hcz10_0 : w9.cell? ⟨gb218, 0, none⟩ = some (.int .i64 a0_0) := bc BK218 0; have hcz10_1 : w9.cell? ⟨gb218, 1, none⟩ = some (.bool true) := bc BK218 1; have hfz10_0 := blk_frozen BK218.out 0; have hfz10_1 := blk_frozen BK218.out 1) | ((with_reducible refine gate_dst (N := 9) rfl ?_); refine Kd.R_lit (Kd.int .i64) _ 3 ?hg (N := 9) ?hd (xs := ([a1] : List Int)) (inner := [.int .i64 a1]) (ok := fun _ => True) (okp := fun _ => True) ?hr ?hp (fun _ hk => hk) trivial (Below.refl _ _) (Nat.le_refl _) (by simp) ?_; (case hd => rfl); (case hg => rfl); (case hr => first | (go_simp; done) | (go_simp; rfl)); (case hp => exact (Reps.one (show Kd.M (Kd.int .i64) _ _ _ a1 [.int .i64 a1] from rfl) (Reps.none _ _))); intro v220 w11 ho12 hb hg_ hnew_; clear hg_ hnew_; (first | rw [← Ny219.out] at ho12 | (simp only [Int.reduceToNat] at ho12; rw [← Ny219.out] at ho12)); have HO221 := A_ (Kd.R_lower ho12 (below_size (hq HB))); replace BK218 := A_ (blk_below (bq BK218) hb); replace HB := A_ (below_step (hq HB) hb); clear hb ho12; obtain ⟨Ao13, co13, eo13⟩ := Kd.R_slice HO221.out; subst eo13) | ((with_reducible refine gate_callee (f := 43) rfl ?_); refine gL (some 10) Tryz.func43 #[.agg #[.int .i64 a0_0, .bool true], .slice Ao13 y219.length co13] ?_; (with_reducible refine (Q42.calls k a0_0 true _ _ y219 true _ ?side1 ?side2 A4.out).mono ?_); (case side1 => exact cq (Kd.R_reads' HO221.out).2.2); (case side2 => exact (Kd.R_reads' HO221.out).2.1); rintro e w14 ⟨rfl, hb⟩; refine ⟨_, rfl, ?_⟩; replace HO221 := A_ (Kd.R_below (rq HO221) hb); replace BK218 := A_ (blk_below (bq BK218) hb); replace HB := A_ (below_step (hq HB) hb); clear hb; have hcz15_0 : w14.cell? ⟨gb218, 0, none⟩ = some (.int .i64 a0_0) := bc BK218 0; have hcz15_1 : w14.cell? ⟨gb218, 1, none⟩ = some (.bool true) := bc BK218 1; have hfz15_0 := blk_frozen BK218.out 0; have hfz15_1 := blk_frozen BK218.out 1) | (go_at_call 42; (with_reducible refine (Q23.calls a2 0 a0_0 true _ A6.out).mono ?_); rintro e w' ⟨rfl, ⟨nd, rfl⟩⟩))
    go_ret
    exact ⟨rt, hq HB⟩
   ·
    replace c8 := Bool.eq_false_iff.mpr c8; subst c8
    have H1 : (some (decide ((wrap64 (a1 + a2)) ≤ a0_0))) = some r := by rw [if_neg (show ¬ (false = true) by decide)] at H; exact H
    clear H; have H := H1; clear H1; obtain rfl := Option.some.inj H; go_enter Tryz.func49, Tryz.ntmps49
    go_wp2_with (first | ((with_reducible refine gate_dst (N := 3) rfl ?_); refine bx (N := 3) #[.int .i64 a0_0, .bool false] 25 ?_; intro gb218 hg w16 hbox hb; have BK218 := A_ (hbox); have GW218 := A_ (bs hg (hq HB) : w.heap.size ≤ gb218); have GE218 := A_ (bs hg (hq HB) : w.heap.size ≤ gb218); replace HB := A_ (below_step (hq HB) hb); clear hb hbox hg; have hcz17_0 : w16.cell? ⟨gb218, 0, none⟩ = some (.int .i64 a0_0) := bc BK218 0; have hcz17_1 : w16.cell? ⟨gb218, 1, none⟩ = some (.bool false) := bc BK218 1; have hfz17_0 := blk_frozen BK218.out 0; have hfz17_1 := blk_frozen BK218.out 1) | ((with_reducible refine gate_dst (N := 9) rfl ?_); refine Kd.R_lit (Kd.int .i64) _ 3 ?hg (N := 9) ?hd (xs := ([a1] : List Int)) (inner := [.int .i64 a1]) (ok := fun _ => True) (okp := fun _ => True) ?hr ?hp (fun _ hk => hk) trivial (Below.refl _ _) (Nat.le_refl _) (by simp) ?_; (case hd => rfl); (case hg => rfl); (case hr => first | (go_simp; done) | (go_simp; rfl)); (case hp => exact (Reps.one (show Kd.M (Kd.int .i64) _ _ _ a1 [.int .i64 a1] from rfl) (Reps.none _ _))); intro v220 w18 ho19 hb hg_ hnew_; clear hg_ hnew_; (first | rw [← Ny219.out] at ho19 | (simp only [Int.reduceToNat] at ho19; rw [← Ny219.out] at ho19)); have HO221 := A_ (Kd.R_lower ho19 (below_size (hq HB))); replace BK218 := A_ (blk_below (bq BK218) hb); replace HB := A_ (below_step (hq HB) hb); clear hb ho19; obtain ⟨Ao20, co20, eo20⟩ := Kd.R_slice HO221.out; subst eo20) | ((with_reducible refine gate_callee (f := 43) rfl ?_); refine gL (some 10) Tryz.func43 #[.agg #[.int .i64 a0_0, .bool false], .slice Ao20 y219.length co20] ?_; (with_reducible refine (Q42.calls k a0_0 false _ _ y219 true _ ?side1 ?side2 A4.out).mono ?_); (case side1 => exact cq (Kd.R_reads' HO221.out).2.2); (case side2 => exact (Kd.R_reads' HO221.out).2.1); rintro e w21 ⟨rfl, hb⟩; refine ⟨_, rfl, ?_⟩; replace HO221 := A_ (Kd.R_below (rq HO221) hb); replace BK218 := A_ (blk_below (bq BK218) hb); replace HB := A_ (below_step (hq HB) hb); clear hb; have hcz22_0 : w21.cell? ⟨gb218, 0, none⟩ = some (.int .i64 a0_0) := bc BK218 0; have hcz22_1 : w21.cell? ⟨gb218, 1, none⟩ = some (.bool false) := bc BK218 1; have hfz22_0 := blk_frozen BK218.out 0; have hfz22_1 := blk_frozen BK218.out 1) | (go_at_call 42; (with_reducible refine (Q23.calls a2 0 a0_0 true _ A6.out).mono ?_); rintro e w' ⟨rfl, ⟨nd, rfl⟩⟩))
    go_ret
    exact ⟨rt, hq HB⟩
  ·
   replace c7 := Bool.eq_false_iff.mpr c7; subst c7
   have H1 : (some false) = some r := by rw [if_neg (show ¬ (false = true) by decide)] at H; exact H
   clear H; have H := H1; clear H1; obtain rfl := Option.some.inj H; go_enter Tryz.func49, Tryz.ntmps49
   go_wp2_with (first | ((with_reducible refine gate_dst (N := 3) rfl ?_); refine bx (N := 3) #[.int .i64 a0_0, .bool a0_1] 25 ?_; intro gb218 hg w23 hbox hb; have BK218 := A_ (hbox); have GW218 := A_ (bs hg (hq HB) : w.heap.size ≤ gb218); have GE218 := A_ (bs hg (hq HB) : w.heap.size ≤ gb218); replace HB := A_ (below_step (hq HB) hb); clear hb hbox hg; have hcz24_0 : w23.cell? ⟨gb218, 0, none⟩ = some (.int .i64 a0_0) := bc BK218 0; have hcz24_1 : w23.cell? ⟨gb218, 1, none⟩ = some (.bool a0_1) := bc BK218 1; have hfz24_0 := blk_frozen BK218.out 0; have hfz24_1 := blk_frozen BK218.out 1) | ((with_reducible refine gate_dst (N := 9) rfl ?_); refine Kd.R_lit (Kd.int .i64) _ 3 ?hg (N := 9) ?hd (xs := ([a1] : List Int)) (inner := [.int .i64 a1]) (ok := fun _ => True) (okp := fun _ => True) ?hr ?hp (fun _ hk => hk) trivial (Below.refl _ _) (Nat.le_refl _) (by simp) ?_; (case hd => rfl); (case hg => rfl); (case hr => first | (go_simp; done) | (go_simp; rfl)); (case hp => exact (Reps.one (show Kd.M (Kd.int .i64) _ _ _ a1 [.int .i64 a1] from rfl) (Reps.none _ _))); intro v220 w25 ho26 hb hg_ hnew_; clear hg_ hnew_; (first | rw [← Ny219.out] at ho26 | (simp only [Int.reduceToNat] at ho26; rw [← Ny219.out] at ho26)); have HO221 := A_ (Kd.R_lower ho26 (below_size (hq HB))); replace BK218 := A_ (blk_below (bq BK218) hb); replace HB := A_ (below_step (hq HB) hb); clear hb ho26; obtain ⟨Ao27, co27, eo27⟩ := Kd.R_slice HO221.out; subst eo27) | ((with_reducible refine gate_callee (f := 43) rfl ?_); refine gL (some 10) Tryz.func43 #[.agg #[.int .i64 a0_0, .bool a0_1], .slice Ao27 y219.length co27] ?_; (with_reducible refine (Q42.calls k a0_0 a0_1 _ _ y219 true _ ?side1 ?side2 A4.out).mono ?_); (case side1 => exact cq (Kd.R_reads' HO221.out).2.2); (case side2 => exact (Kd.R_reads' HO221.out).2.1); rintro e w28 ⟨rfl, hb⟩; refine ⟨_, rfl, ?_⟩; replace HO221 := A_ (Kd.R_below (rq HO221) hb); replace BK218 := A_ (blk_below (bq BK218) hb); replace HB := A_ (below_step (hq HB) hb); clear hb; have hcz29_0 : w28.cell? ⟨gb218, 0, none⟩ = some (.int .i64 a0_0) := bc BK218 0; have hcz29_1 : w28.cell? ⟨gb218, 1, none⟩ = some (.bool a0_1) := bc BK218 1; have hfz29_0 := blk_frozen BK218.out 0; have hfz29_1 := blk_frozen BK218.out 1) | (go_at_call 42; (with_reducible refine (Q23.calls a2 0 a0_0 false _ A6.out).mono ?_); rintro e w' ⟨rfl, ⟨nd, rfl⟩⟩))
   go_ret
   exact ⟨rt, hq HB⟩
 ·
  replace c5 := Bool.eq_false_iff.mpr c5; subst c5
  have H1 : (some false) = some r := by rw [if_neg (show ¬ (false = true) by decide)] at H; exact H
  clear H; have H := H1; clear H1; obtain rfl := Option.some.inj H; go_enter Tryz.func49, Tryz.ntmps49
  go_wp2_with (first | ((with_reducible refine gate_dst (N := 3) rfl ?_); refine bx (N := 3) #[.int .i64 a0_0, .bool a0_1] 25 ?_; intro gb218 hg w30 hbox hb; have BK218 := A_ (hbox); have GW218 := A_ (bs hg (hq HB) : w.heap.size ≤ gb218); have GE218 := A_ (bs hg (hq HB) : w.heap.size ≤ gb218); replace HB := A_ (below_step (hq HB) hb); clear hb hbox hg; have hcz31_0 : w30.cell? ⟨gb218, 0, none⟩ = some (.int .i64 a0_0) := bc BK218 0; have hcz31_1 : w30.cell? ⟨gb218, 1, none⟩ = some (.bool a0_1) := bc BK218 1; have hfz31_0 := blk_frozen BK218.out 0; have hfz31_1 := blk_frozen BK218.out 1) | ((with_reducible refine gate_dst (N := 9) rfl ?_); refine Kd.R_lit (Kd.int .i64) _ 3 ?hg (N := 9) ?hd (xs := ([a1] : List Int)) (inner := [.int .i64 a1]) (ok := fun _ => True) (okp := fun _ => True) ?hr ?hp (fun _ hk => hk) trivial (Below.refl _ _) (Nat.le_refl _) (by simp) ?_; (case hd => rfl); (case hg => rfl); (case hr => first | (go_simp; done) | (go_simp; rfl)); (case hp => exact (Reps.one (show Kd.M (Kd.int .i64) _ _ _ a1 [.int .i64 a1] from rfl) (Reps.none _ _))); intro v220 w32 ho33 hb hg_ hnew_; clear hg_ hnew_; (first | rw [← Ny219.out] at ho33 | (simp only [Int.reduceToNat] at ho33; rw [← Ny219.out] at ho33)); have HO221 := A_ (Kd.R_lower ho33 (below_size (hq HB))); replace BK218 := A_ (blk_below (bq BK218) hb); replace HB := A_ (below_step (hq HB) hb); clear hb ho33; obtain ⟨Ao34, co34, eo34⟩ := Kd.R_slice HO221.out; subst eo34) | ((with_reducible refine gate_callee (f := 43) rfl ?_); refine gL (some 10) Tryz.func43 #[.agg #[.int .i64 a0_0, .bool a0_1], .slice Ao34 y219.length co34] ?_; (with_reducible refine (Q42.calls k a0_0 a0_1 _ _ y219 false _ ?side1 ?side2 A4.out).mono ?_); (case side1 => exact cq (Kd.R_reads' HO221.out).2.2); (case side2 => exact (Kd.R_reads' HO221.out).2.1); rintro e w35 ⟨rfl, hb⟩; refine ⟨_, rfl, ?_⟩; replace HO221 := A_ (Kd.R_below (rq HO221) hb); replace BK218 := A_ (blk_below (bq BK218) hb); replace HB := A_ (below_step (hq HB) hb); clear hb))
  go_ret
  exact ⟨rt, hq HB⟩

-- NOT PRINTED: function 71 (impl_mapped)

/-! ### slices.Sort at ints, by the contract that is laid from the shelf -/
def sortI (l : List Int) : List Int := l.mergeSort fun x y => decide (x ≤ y)
def Q41.f (k : Nat) (l0 : List Int) : Option (List Int) := if l0.length ≤ 1048576 then some (sortI l0) else none
theorem Q41.calls (k : Nat) (P0_ : Nat → Prop) (u9000_ : Value) (l0 : List Int) (r : List Int) (w0 w : World) (hB : Below w0.heap.size w0 w) (ho0 : Kd.R (Kd.int .i64) 3 w w0.heap.size P0_ u9000_ l0) (h : Q41.f k l0 = some r) :
    Calls Tryz.prog 73 #[u9000_] w fun e w' => e = .returned (.tuple #[]) ∧ Kd.R (Kd.int .i64) 3 w' w0.heap.size (fun k_ => (P0_ k_ ∨ w.heap.size ≤ k_)) u9000_ r ∧ Below w0.heap.size w0 w' ∧ Kept w w' (fun k_ => P0_ k_) := by
 unfold Q41.f at h; by_cases c : l0.length ≤ 1048576
 ·
  rw [if_pos c] at h; obtain rfl := Option.some.inj h; have hs : (sortI l0).length = l0.length := List.length_mergeSort _; have hsz : w0.heap.size ≤ w.heap.size := hB.size; by_cases h0 : l0.length = 0
  ·
   have hl : l0 = [] := List.eq_nil_of_length_eq_zero h0; subst hl; obtain ⟨A, c1, rfl⟩ := Kd.R_slice ho0; refine (Go.Proofs.YtjhppcpjobofbaaGreat.Shelf.slices_Sort_int_none A c1 w).mono ?_; rintro e w' ⟨rfl, rfl⟩; rw [show sortI [] = [] by unfold sortI; simp]; exact ⟨rfl, Kd.R_mono ho0 (fun _ hk => .inl hk), hB, Kept.refl _ _⟩
  ·
   have ho := Kd.own_of_R ho0
   rcases ho.2 with ⟨_, hz⟩ | ⟨g, cap, cur, rfl, hg, hh, hn, hm, hc, ht⟩
   ·
    exact absurd hz h0
   ·
    have hlt : g < w.heap.size := (Array.getElem?_eq_some_iff.1 hh).1; refine (Go.Proofs.YtjhppcpjobofbaaGreat.Shelf.slices_Sort_int g 0 cap l0 w (holds_of_blockI hh (by simpa [encs] using ht)) hlt (by omega)).mono ?_; rintro e w' ⟨rfl, n, os, rfl⟩; have hgr := grownBy_sortedI (w := w) (g := g) (n := n) (os := os) (sortI l0).toArray; have hown := ownsRow_sortedI (n := n) (os := os) (ts := sortI l0) hs hg hh hn hm hc; refine ⟨rfl, Kd.R_of_own ?_ (fun k_ hk => .inl (ho0.1 k_ hk)), hB.grown hgr hsz (fun k_ e_ => by injection e_ with e_; omega), Kept.of_grown hgr (Kept.refl _ _) (fun k_ e_ => .inl (ho0.1 k_ (by injection e_ with e_; subst e_; rfl)))⟩; rw [hs]; exact hown
 ·
  rw [if_neg c] at h; exact absurd h (by simp)

-- NOT PRINTED: function 85 (slices_IndexFunc_int_int)

-- NOT PRINTED: function 74 (slices_DeleteFunc_int_int)

/-! ### impl_Road_roundTrip_1: function 72 -/
def Q83.f (a0 : Int) (a1_0 : Int) (a1_1 : Bool) (a2_0 : Int) : Option (Int) := if a1_1 = true then (if a1_0 = 0 then (none) else (some (Int.tmod (wrap64 ((wrap64 (a0 - a2_0)) + a1_0)) a1_0))) else (some (wrap64 (a0 - a2_0)))
set_option maxHeartbeats 8000000 in
set_option maxRecDepth 100000 in
theorem Q83.calls (a0 : Int) (gc1 : Nat) (a1_0 : Int) (a1_1 : Bool) (gc2 : Nat) (a2_0 : Int) (r : Int) (w : World) (hb1 : w.heap[gc1]? = some (.cells #[.int .i64 a1_0, .bool a1_1] 25 (0, 0))) (hb2 : w.heap[gc2]? = some (.cells #[.int .i64 a2_0] 3 (0, 0))) (h : Q83.f a0 a1_0 a1_1 a2_0 = some r) :
    Calls Tryz.prog 72 #[.int .i64 a0, .pointer (some ⟨gc1, 0, none⟩), .pointer (some ⟨gc2, 0, none⟩)] w fun e w' => e = .returned (.int .i64 r) ∧ Drawn0 w w' := by
 have BK1 := A_ hb1; clear hb1; have BK2 := A_ hb2; clear hb2; have H : (if a1_1 = true then (if a1_0 = 0 then (none) else (some (Int.tmod (wrap64 ((wrap64 (a0 - a2_0)) + a1_0)) a1_0))) else (some (wrap64 (a0 - a2_0)))) = some r := h; clear h; by_cases c4 : a1_1 = true
 ·
  subst c4
  have H1 : (if a1_0 = 0 then (none) else (some (Int.tmod (wrap64 ((wrap64 (a0 - a2_0)) + a1_0)) a1_0))) = some r := by rw [if_pos rfl] at H; exact H
  clear H; have H := H1; clear H1; by_cases c5 : a1_0 = 0
  ·
   rw [if_pos c5] at H; exact absurd H (by simp)
  ·
   rw [if_neg c5] at H; have c5b0 : (a1_0 == 0) = false := beq_eq_false_iff_ne.mpr c5; have c5b1 : (a1_0 != 0) = true := bne_iff_ne.mpr c5; obtain rfl := Option.some.inj H; have hcz6_0 : w.cell? ⟨gc1, 0, none⟩ = some (.int .i64 a1_0) := bc BK1 0; have hcz6_1 : w.cell? ⟨gc1, 1, none⟩ = some (.bool true) := bc BK1 1; have hfz6_0 := blk_frozen BK1.out 0; have hfz6_1 := blk_frozen BK1.out 1; have hcz7_0 : w.cell? ⟨gc2, 0, none⟩ = some (.int .i64 a2_0) := bc BK2 0; have hfz7_0 := blk_frozen BK2.out 0; go_enter Tryz.func72, Tryz.ntmps72
   go_wp2
   go_ret
   exact ⟨rf, by repeat (first | exact Drawn0.refl _ | apply Drawn0.step)⟩
 ·
  replace c4 := Bool.eq_false_iff.mpr c4; subst c4
  have H1 : (some (wrap64 (a0 - a2_0))) = some r := by rw [if_neg (show ¬ (false = true) by decide)] at H; exact H
  clear H; have H := H1; clear H1; obtain rfl := Option.some.inj H; have hcz8_0 : w.cell? ⟨gc1, 0, none⟩ = some (.int .i64 a1_0) := bc BK1 0; have hcz8_1 : w.cell? ⟨gc1, 1, none⟩ = some (.bool false) := bc BK1 1; have hfz8_0 := blk_frozen BK1.out 0; have hfz8_1 := blk_frozen BK1.out 1; have hcz9_0 : w.cell? ⟨gc2, 0, none⟩ = some (.int .i64 a2_0) := bc BK2 0; have hfz9_0 := blk_frozen BK2.out 0; go_enter Tryz.func72, Tryz.ntmps72
  go_wp2
  go_ret
  exact ⟨rf, by repeat (first | exact Drawn0.refl _ | apply Drawn0.step)⟩

/-! ### impl_mapped__Road_roundTrip_1: function 71 -/
def Q36.l0 : Nat → List Int → List Int → Int → Int → Int → Bool → Int → Option (List Int)
  | 0, _, _, _, _, _, _, _ => none
  | k + 1, x5, x9, x10, x11, x2000, x2001, x3000 => if x11 < x10 then (if 0 ≤ x11 then (if x11 < (x9.length : Int) then ((Q83.f (rd x9 x11) x2000 x2001 x3000).bind fun t228 => (if x5.length < 17592186044416 then (Q36.l0 k (x5 ++ [t228]) x9 x10 (wrap64 (x11 + 1)) x2000 x2001 x3000) else (none))) else (none)) else (none)) else (some x5)
def Q36.f (k : Nat) (l0 : List Int) (a1_0 : Int) (a1_1 : Bool) (a2_0 : Int) : Option (List Int) := Q36.l0 k (([] : List Int)) l0 (l0.length : Int) 0 a1_0 a1_1 a2_0
set_option maxHeartbeats 8000000 in
set_option maxRecDepth 100000 in
theorem Q36.calls (k : Nat) (A0 : Option Addr) (c0 : Nat) (l0 : List Int) (gc1 : Nat) (a1_0 : Int) (a1_1 : Bool) (gc2 : Nat) (a2_0 : Int) (r : List Int) (w : World) (hb1 : w.heap[gc1]? = some (.cells #[.int .i64 a1_0, .bool a1_1] 25 (0, 0))) (hb2 : w.heap[gc2]? = some (.cells #[.int .i64 a2_0] 3 (0, 0))) (hr0 : Kd.C (Kd.int .i64) w A0 l0.length l0) (hc0 : l0.length ≤ c0) (h : Q36.f k l0 a1_0 a1_1 a2_0 = some r) :
    Calls Tryz.prog 71 #[.slice A0 l0.length c0, .func (.func 72) #[] #[.pointer (some ⟨gc1, 0, none⟩), .pointer (some ⟨gc2, 0, none⟩)]] w fun e w' => ∃ v0_ : Value, e = .returned (v0_) ∧ Kd.R (Kd.int .i64) 3 w' w.heap.size (fun _ => True) v0_ r ∧ Below w.heap.size w w' := by
 have HR0 := A_ hr0; have HC0 := A_ hc0; clear hr0 hc0; have BK1 := A_ hb1; clear hb1; have BK2 := A_ hb2; clear hb2; have HB := A_ (Below.refl w.heap.size w); have H : (Q36.l0 k (([] : List Int)) l0 (l0.length : Int) 0 a1_0 a1_1 a2_0) = some r := h; clear h
 obtain ⟨y224, hy224⟩ : ∃ y_ : List Int, y_ = (([] : List Int)) := ⟨_, rfl⟩
 replace H : (Q36.l0 k y224 l0 (l0.length : Int) 0 a1_0 a1_1 a2_0) = some r := by first | (rw [hy224]; with_reducible exact H) | (have H2_ := (Option.bind_some _ _).symm.trans H; rw [hy224]; with_reducible exact H2_) | (have H2_ := (Option.bind_some _ _).symm.trans H; with_reducible exact H2_) | with_reducible exact H | (rw [hy224]; exact H) | exact H
 have Ny224 := A_ hy224; clear hy224; have H' := A_ H; clear H; go_enter Tryz.func71, Tryz.ntmps71
 go_wp2_with (first | ((with_reducible refine gate_dst (N := 8) rfl ?_); refine Kd.R_lit (Kd.int .i64) _ 3 ?hg (N := 8) ?hd (xs := ([] : List Int)) (inner := []) (ok := fun _ => True) (okp := fun _ => True) ?hr ?hp (fun _ hk => hk) trivial (Below.refl _ _) (Nat.le_refl _) (by simp) ?_; (case hd => rfl); (case hg => rfl); (case hr => first | (go_simp; done) | (go_simp; rfl)); (case hp => exact (Reps.none _ _)); intro v225 w4 ho5 hb hg_ hnew_; clear hg_ hnew_; (first | rw [← Ny224.out] at ho5 | (simp only [Int.reduceToNat] at ho5; rw [← Ny224.out] at ho5)); have HO226 := A_ (Kd.R_lower (Kd.R_newB ho5 (g := gc2) (o := .cells #[.int .i64 a2_0] 3 (0, 0)) (bq BK2)) (below_size (hq HB))); replace BK1 := A_ (blk_below (bq BK1) hb); replace BK2 := A_ (blk_below (bq BK2) hb); replace HB := A_ (below_step (hq HB) hb); clear hb ho5))
 go_loopg [5, 11] k (fun kq v5 v11 w' => ∃ (x5_1 : List Int) (x11_1 : Int), v11 = .int .i64 x11_1 ∧ Aside0 (Q36.l0 kq x5_1 l0 (l0.length : Int) x11_1 a1_0 a1_1 a2_0 = some r) ∧ Aside0 (kq ≤ k) ∧ Aside0 (Kd.R (Kd.int .i64) 3 w' w.heap.size (fun k_ => k_ ≠ gc2) v5 x5_1) ∧ Aside0 (w'.heap[gc1]? = some (.cells #[.int .i64 a1_0, .bool a1_1] 25 (0, 0))) ∧ Aside0 (w'.heap[gc2]? = some (.cells #[.int .i64 a2_0] 3 (0, 0))) ∧ Aside0 (Below w.heap.size w w'))
 case atStart => exact ⟨(y224), (0), rf, H', ⟨Nat.le_refl _⟩, ⟨rm HO226⟩, ⟨bq BK1⟩, ⟨bq BK2⟩, ⟨hq HB⟩⟩
 case round =>
  clear H'; obtain ⟨x5_1, x11_1, rfl, HA, HK1, HO_5, BK1, BK2, HB⟩ := hrel
  cases gk with
  | zero => exact absurd HA.out (by simp [Q36.l0])
  | succ k1 =>
   have H := HA.out; clear HA; simp only [Q36.l0] at H
   by_cases c6 : x11_1 < (l0.length : Int)
   ·
    rw [if_pos c6] at H; have c6b0 := decide_eq_true c6; clear c6; by_cases c7 : 0 ≤ x11_1
    ·
     rw [if_pos c7] at H; have c7b0 := decide_eq_true c7; clear c7; by_cases c8 : x11_1 < (l0.length : Int)
     ·
      rw [if_pos c8] at H; have c8b0 := decide_eq_true c8; clear c8; replace H := bm H; obtain ⟨t228, A9, H⟩ := H; by_cases c10 : x5_1.length < 17592186044416
      ·
       rw [if_pos c10] at H; have LMc10 := A_ c10; clear c10
       obtain ⟨y229, hy229⟩ : ∃ y_ : List Int, y_ = (x5_1 ++ [t228]) := ⟨_, rfl⟩
       replace H : (Q36.l0 k1 y229 l0 (l0.length : Int) (wrap64 (x11_1 + 1)) a1_0 a1_1 a2_0) = some r := by first | (rw [hy229]; with_reducible exact H) | (have H2_ := (Option.bind_some _ _).symm.trans H; rw [hy229]; with_reducible exact H2_) | (have H2_ := (Option.bind_some _ _).symm.trans H; with_reducible exact H2_) | with_reducible exact H | (rw [hy229]; exact H) | exact H
       have Ny229 := A_ hy229; clear hy229; have H' := A_ H; clear H; have p227 : 0 ≤ (x11_1 : Int) := dq; have q227 : x11_1 < (l0.length : Int) := dq; obtain ⟨ad227, e227, hx227_0⟩ := Kd.at_int HR0.out x11_1 p227 q227
       cases e227
       replace hx227_0 := (HB.out.cell (World.block_lt_of_cell? w _ hx227_0)).trans hx227_0; replace p227 := eq_true p227; replace q227 := eq_true q227; go_wp2_with (first | (go_at_call 72; (with_reducible refine (Q83.calls (rd l0 x11_1) gc1 a1_0 a1_1 gc2 a2_0 t228 _ ?side1 ?side2 A9.out).mono ?_); (case side1 => (with_reducible repeat (first | refine blk_drewN ?_ _ | refine blk_drew ?_ | refine blk_alloc ?_ _)); exact BK1.out); (case side2 => (with_reducible repeat (first | refine blk_drewN ?_ _ | refine blk_drew ?_ | refine blk_alloc ?_ _)); exact BK2.out); rintro e w' ⟨rfl, ⟨nd, rfl⟩⟩) | ((with_reducible refine gate_builtin (b := .append) (xs := #[.tmp 15, .tmp 19]) rfl ?_); at_builtin; refine Kd.R_append (Kd.int .i64) (w0 := w) w.heap.size rfl (.tmp 15) (.tmp 19) 26 3 (.int .i64 0) 8 rfl Tryz.underlying26 info3 rfl (by decide) (by omega) u5 x5_1 t228 [.int .i64 t228] (fun k_ => k_ ≠ gc2) (fun _ => False) rfl rfl ?aP (fun _ hk => hk.elim) ?aF ?aO ?aB ?aS ?aL ?_; (case aP => exact rfl); (case aB => exact (hq HB)); (case aF => exact (fun k_ hk => Kd.freshB (g := gc2) (o := .cells #[.int .i64 a2_0] 3 (0, 0)) (bq BK2) k_ hk)); (case aO => exact (rq HO_5)); (case aS => exact (below_size (hq HB))); (case aL => have := LMc10.out; omega); intro v230 w11 ho hb hg hat; rw [← Ny229.out] at ho; have n0_ := A_ (blk_grown (g := gc1) (o := .cells #[.int .i64 a1_0, .bool a1_1] 25 (0, 0)) (bq BK1) hg (Kd.R_ne HO_5.out BK1.out (by decide))); have n1_ := A_ (blk_grown (g := gc2) (o := .cells #[.int .i64 a2_0] 3 (0, 0)) (bq BK2) hg (Kd.R_away HO_5.out (fun _ hk => hk))); have n2_ := A_ (hb); have n3_ := A_ (ho); clear BK1; clear BK2; clear HB; clear HO_5; have BK1 := n0_; have BK2 := n1_; have HB := n2_; have HO231 := n3_; clear n0_ n1_ n2_ n3_; clear ho hb hg hat))
       go_roundg k1
       case measure => have := HK1.out; omega
       case rel => exact ⟨(y229), (wrap64 (x11_1 + 1)), rf, H', ⟨by have := HK1.out; omega⟩, ⟨rq HO231⟩, ⟨bq BK1⟩, ⟨bq BK2⟩, ⟨hq HB⟩⟩
      ·
       rw [if_neg c10] at H; exact absurd H (by simp)
     ·
      rw [if_neg c8] at H; exact absurd H (by simp)
    ·
     rw [if_neg c7] at H; exact absurd H (by simp)
   ·
    rw [if_neg c6] at H; have c6b0 := decide_eq_false c6; clear c6; obtain rfl := Option.some.inj H; go_wp2
    go_ret
    exact ⟨_, rt, by (with_reducible repeat (first | apply Kd.R_alloc | apply Kd.R_drewN | apply Kd.R_drew)); exact Kd.R_mono HO_5.out (fun _ hk => trivial), hq HB⟩

/-! ### impl_Road_roundTrip_2: function 75 -/
def Q57.f (a0 : Int) : Option (Bool) := some (a0 == 0)
set_option maxHeartbeats 8000000 in
set_option maxRecDepth 100000 in
theorem Q57.calls (a0 : Int) (r : Bool) (w : World) (h : Q57.f a0 = some r) :
    Calls Tryz.prog 75 #[.int .i64 a0] w fun e w' => e = .returned (.bool r) ∧ Drawn0 w w' := by
 have H : (some (a0 == 0)) = some r := h; clear h; obtain rfl := Option.some.inj H; go_enter Tryz.func75, Tryz.ntmps75
 go_wp2
 go_ret
 exact ⟨rf, by repeat (first | exact Drawn0.refl _ | apply Drawn0.step)⟩

/-! ### slices_IndexFunc_int_int___Road_roundTrip_2: function 85 -/
def Q44.l0 : Nat → List Int → Int → Int → Option (Int)
  | 0, _, _, _ => none
  | k + 1, x0, x7, x8 => if x8 < x7 then (if 0 ≤ x8 then (if x8 < (x0.length : Int) then ((Q57.f (rd x0 x8)).bind fun t233 => (if t233 = true then (some x8) else (Q44.l0 k x0 x7 (wrap64 (x8 + 1))))) else (none)) else (none)) else (some (-1))
def Q44.f (k : Nat) (l0 : List Int) : Option (Int) := Q44.l0 k l0 (l0.length : Int) 0
set_option maxHeartbeats 8000000 in
set_option maxRecDepth 100000 in
theorem Q44.calls (k : Nat) (A0 : Option Addr) (c0 : Nat) (l0 : List Int) (r : Int) (w : World) (hr0 : Kd.C (Kd.int .i64) w A0 l0.length l0) (hc0 : l0.length ≤ c0) (h : Q44.f k l0 = some r) :
    Calls Tryz.prog 85 #[.slice A0 l0.length c0, .func (.func 75) #[] #[]] w fun e w' => e = .returned (.int .i64 r) ∧ Below w.heap.size w w' := by
 have HR0 := A_ hr0; have HC0 := A_ hc0; clear hr0 hc0; have HB := A_ (Below.refl w.heap.size w); have H : (Q44.l0 k l0 (l0.length : Int) 0) = some r := h; clear h; have H' := A_ H; clear H; go_enter Tryz.func85, Tryz.ntmps85
 go_wp2
 go_loopg [8] k (fun kq v8 w' => ∃ (x8_1 : Int), v8 = .int .i64 x8_1 ∧ Aside0 (Q44.l0 kq l0 (l0.length : Int) x8_1 = some r) ∧ Aside0 (kq ≤ k) ∧ Aside0 (Below w.heap.size w w'))
 case atStart => exact ⟨(0), rf, H', ⟨Nat.le_refl _⟩, ⟨hq HB⟩⟩
 case round =>
  clear H'; obtain ⟨x8_1, rfl, HA, HK1, HB⟩ := hrel
  cases gk with
  | zero => exact absurd HA.out (by simp [Q44.l0])
  | succ k1 =>
   have H := HA.out; clear HA; simp only [Q44.l0] at H
   by_cases c2 : x8_1 < (l0.length : Int)
   ·
    rw [if_pos c2] at H; have c2b0 := decide_eq_true c2; clear c2; by_cases c3 : 0 ≤ x8_1
    ·
     rw [if_pos c3] at H; have c3b0 := decide_eq_true c3; clear c3; by_cases c4 : x8_1 < (l0.length : Int)
     ·
      rw [if_pos c4] at H; have c4b0 := decide_eq_true c4; clear c4; replace H := bm H; obtain ⟨t233, A5, H⟩ := H; by_cases c6 : t233 = true
      ·
       subst c6
       have H1 : (some x8_1) = some r := by rw [if_pos rfl] at H; exact H
       clear H; have H := H1; clear H1; obtain rfl := Option.some.inj H; have p232 : 0 ≤ (x8_1 : Int) := dq; have q232 : x8_1 < (l0.length : Int) := dq; obtain ⟨ad232, e232, hx232_0⟩ := Kd.at_int HR0.out x8_1 p232 q232
       cases e232
       replace hx232_0 := (HB.out.cell (World.block_lt_of_cell? w _ hx232_0)).trans hx232_0; replace p232 := eq_true p232; replace q232 := eq_true q232; go_wp2_with (first | (go_at_call 75; (with_reducible refine (Q57.calls (rd l0 x8_1) true _ A5.out).mono ?_); rintro e w' ⟨rfl, ⟨nd, rfl⟩⟩))
       go_ret
       exact ⟨rt, hq HB⟩
      ·
       replace c6 := Bool.eq_false_iff.mpr c6; subst c6
       have H1 : (Q44.l0 k1 l0 (l0.length : Int) (wrap64 (x8_1 + 1))) = some r := by rw [if_neg (show ¬ (false = true) by decide)] at H; exact H
       clear H; have H := H1; clear H1; have H' := A_ H; clear H; have p232 : 0 ≤ (x8_1 : Int) := dq; have q232 : x8_1 < (l0.length : Int) := dq; obtain ⟨ad232, e232, hx232_0⟩ := Kd.at_int HR0.out x8_1 p232 q232
       cases e232
       replace hx232_0 := (HB.out.cell (World.block_lt_of_cell? w _ hx232_0)).trans hx232_0; replace p232 := eq_true p232; replace q232 := eq_true q232; go_wp2_with (first | (go_at_call 75; (with_reducible refine (Q57.calls (rd l0 x8_1) false _ A5.out).mono ?_); rintro e w' ⟨rfl, ⟨nd, rfl⟩⟩))
       go_roundg k1
       case measure => have := HK1.out; omega
       case rel => exact ⟨(wrap64 (x8_1 + 1)), rf, H', ⟨by have := HK1.out; omega⟩, ⟨hq HB⟩⟩
     ·
      rw [if_neg c4] at H; exact absurd H (by simp)
    ·
     rw [if_neg c3] at H; exact absurd H (by simp)
   ·
    rw [if_neg c2] at H; have c2b0 := decide_eq_false c2; clear c2; obtain rfl := Option.some.inj H; go_wp2
    go_ret
    exact ⟨rt, hq HB⟩

end Go.Proofs.YtjhppcpjobofbaaGreat.PFnExplorers
