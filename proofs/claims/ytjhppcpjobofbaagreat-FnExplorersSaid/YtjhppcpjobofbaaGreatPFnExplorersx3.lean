-- Told shorter still by shrink2.py.
-- Printed, and told shorter by this session's program shrink.py.
-- Printed by this session's program myprint.py.
import Derived.Test.YtjhppcpjobofbaaGreatPFnExplorersx0
import Derived.Test.YtjhppcpjobofbaaGreatPFnExplorersx2
namespace Go.Proofs.YtjhppcpjobofbaaGreat.PFnExplorers
open Go.RowKit Go.Proofs.YtjhppcpjobofbaaGreat.Own Go.Proofs.YtjhppcpjobofbaaGreatW.PrintWords Go.Proofs.YtjhppcpjobofbaaGreatW.PrintLast Go.Proofs.YtjhppcpjobofbaaGreatW.PrintMore
attribute [local go_sem] max2_int min2_int max_two min_two max_three min_three max_four min_four   -- for this text's walks alone
set_option linter.unusedVariables false
set_option linter.unusedSimpArgs false

/-! ### slices.DeleteFunc at ints, all that are 0 taken out, by the contract that is laid from the shelf -/
def Q53.f (k : Nat) (l0 : List Int) : Option (List Int) := some (l0.filter fun x => !(x == 0))
theorem idx_roundTrip_none : Q44.f 1 [] = some (-1) := rfl
set_option maxHeartbeats 8000000 in
set_option maxRecDepth 100000 in
theorem del_roundTrip_none (c : Nat) (w : World) : Calls Tryz.prog 74 #[.slice none 0 c, .func (.func 75) #[] #[]] w fun e w' => e = .returned (.slice none 0 c) ∧ Below w.heap.size w w' := by
  have HB := A_ (Below.refl w.heap.size w)
  go_enter Tryz.func74, Tryz.ntmps74
  go_wp2_with (go_at_call 85; (refine (Q44.calls 1 none c [] (-1) _ ?side1 ?side2 idx_roundTrip_none).mono ?_); (case side1 => exact Kd.C_nil _ _); (case side2 => exact Nat.zero_le _); rintro e w10 ⟨rfl, hb⟩; have HB2 := A_ (below_step HB.out hb); clear hb)
  go_ret
  exact ⟨rfl, HB2.out⟩
theorem pred_roundTrip (W : World) (x : Int) : FnGives Tryz.prog 75 #[] #[.int .i64 x] (.bool (x == 0)) W := by
  show Calls Tryz.prog 75 #[.int .i64 x] W _
  refine (Q57.calls x (x == 0) W rfl).mono ?_
  rintro e w' ⟨he, hd⟩
  exact ⟨he, hd.out⟩
theorem Q53.calls (k : Nat) (P0_ : Nat → Prop) (u9000_ : Value) (l0 : List Int) (r : List Int) (w0 w : World) (hB : Below w0.heap.size w0 w) (ho0 : Kd.R (Kd.int .i64) 3 w w0.heap.size P0_ u9000_ l0) (h : Q53.f k l0 = some r) :
    Calls Tryz.prog 74 #[u9000_, .func (.func 75) #[] #[]] w fun e w' => ∃ v0_ : Value, e = .returned (v0_) ∧ Kd.R (Kd.int .i64) 3 w' w0.heap.size (fun k_ => (P0_ k_ ∨ w.heap.size ≤ k_)) v0_ r ∧ Below w0.heap.size w0 w' ∧ Kept w w' (fun k_ => P0_ k_) := by
 obtain rfl := Option.some.inj h; have hsz : w0.heap.size ≤ w.heap.size := hB.size; have ho := Kd.own_of_R ho0
 rcases ho.2 with ⟨hv, hz⟩ | ⟨g, cap, cur, rfl, hg, hh, hn, hm, hc, ht⟩
 ·
  have hl : l0 = [] := List.eq_nil_of_length_eq_zero hz; subst hl; subst hv; refine (del_roundTrip_none 0 w).mono ?_; rintro e w' ⟨rfl, hb⟩; exact ⟨_, rfl, Kd.R_nil _ _ _ _ _, hB.trans (hb.mono hB.size), ⟨hb.size, fun i hi _ => hb.block i hi⟩⟩
 ·
  have hlt : g < w.heap.size := (Array.getElem?_eq_some_iff.1 hh).1; have hlen : (l0.filter fun x => !(x == 0)).length ≤ l0.length := List.length_filter_le _ _; have eg : ∀ args w, (callFunc 75 args).run Tryz.prog w = .ok (.enter 75 args) w := enters_of Tryz.func75 (by kernel_rfl) rfl; have hcon := Go.Proofs.YtjhppcpjobofbaaGreat.Shelf.slices_DeleteFunc (Value.int .i64) (fun _ => rfl) (fun x : Int => x == 0) 75 #[] eg 0 Tryz.zeroValue3 g 0 cap l0.toArray w (fun W x _ => pred_roundTrip W x) (fun n os dk x _ => pred_roundTrip _ x) (holds_of_blockI hh (by simpa [encs] using ht)) (by unfold maxLen at hm; simp; omega) (by simpa using hn); rw [List.size_toArray] at hcon; refine hcon.mono ?_; rintro e w' ⟨he, q, rfl⟩
  have hts : ((l0.filter fun x => !(x == 0)) ++ List.replicate (l0.length - (l0.filter fun x => !(x == 0)).length) 0).length = l0.length := by
   rw [List.length_append, List.length_replicate]; omega
  have hgr := grownBy_sortedI (w := w) (g := g) (n := q) (os := #[]) ((l0.filter fun x => !(x == 0)) ++ List.replicate (l0.length - (l0.filter fun x => !(x == 0)).length) 0).toArray; have hown := ownsRow_sortedI (n := q) (os := #[]) (ts := (l0.filter fun x => !(x == 0)) ++ List.replicate (l0.length - (l0.filter fun x => !(x == 0)).length) 0) hts hg hh hn hm hc; rw [Go.Sort.grow_empty] at hgr hown; refine ⟨_, he, Kd.R_of_own ?_ (fun k_ hk => .inl (ho0.1 k_ hk)), hB.grown hgr hsz (fun k_ e_ => by injection e_ with e_; omega), Kept.of_grown hgr (Kept.refl _ _) (fun k_ e_ => .inl (ho0.1 k_ (by injection e_ with e_; subst e_; rfl)))⟩
  rcases hown.2 with ⟨hv, _⟩ | ⟨g', cap', cur', hv, hg', hh', hn', hm', hc', ht'⟩
  ·
   exact absurd hv (by simp)
  ·
   injection hv with h1 h2 h3; injection h1 with h1; injection h1 with h1; subst h1; subst h3; refine ⟨by simp [encs], .inr ⟨g, cap, cur', rfl, hg', by first | exact hh' | simpa using hh', Nat.le_trans hlen hn', hm', hc', ?_⟩⟩; rw [Nat.mul_one] at ht'; have h5 := congrArg (List.take (l0.filter fun x => !(x == 0)).length) ht'; rw [List.take_take, Nat.min_eq_left hlen] at h5; simpa [encs] using h5

/-! ### impl_Road_roundTrip: function 59 -/
mutual
def Q3.j0 : Nat → List Int → Int → Bool → Option (Int)
  | 0, _, _, _ => none
  | k + 1, x7, x235000, x235001 => if x235001 = true then (Q3.l1 k x7 x235000 (wrap64 ((x7.length : Int) + 1)) 0 x235000 x235001) else (Q3.l0 k 0 0 x7 (x7.length : Int) 0)
def Q3.l1 : Nat → List Int → Int → Int → Int → Int → Bool → Option (Int)
  | 0, _, _, _, _, _, _ => none
  | k + 1, x7, x12, x50, x51, x235000, x235001 => if x51 < x50 then (if x51 > 0 then (if 0 ≤ (wrap64 (x51 - 1)) then (if (wrap64 (x51 - 1)) < (x7.length : Int) then (if x51 < (x7.length : Int) then (if 0 ≤ x51 then (Q3.l1 k x7 (mn x12 (wrap64 (2 * (wrap64 ((rd x7 (wrap64 (x51 - 1))) + (wrap64 (x235000 - (rd x7 x51)))))))) x50 (wrap64 (x51 + 1)) x235000 x235001) else (none)) else (Q3.l1 k x7 (mn x12 (wrap64 (2 * (wrap64 (rd x7 (wrap64 (x51 - 1))))))) x50 (wrap64 (x51 + 1)) x235000 x235001)) else (none)) else (none)) else (if x51 < (x7.length : Int) then (if 0 ≤ x51 then (Q3.l1 k x7 (mn x12 (wrap64 (2 * (wrap64 (wrap64 (x235000 - (rd x7 x51))))))) x50 (wrap64 (x51 + 1)) x235000 x235001) else (none)) else (Q3.l1 k x7 (mn x12 0) x50 (wrap64 (x51 + 1)) x235000 x235001))) else (some x12)
def Q3.l0 : Nat → Int → Int → List Int → Int → Int → Option (Int)
  | 0, _, _, _, _, _ => none
  | k + 1, x8, x9, x28, x29, x30 => if x30 < x29 then (if 0 ≤ x30 then (if x30 < (x28.length : Int) then (Q3.l0 k (mx x8 (rd x28 x30)) (mx x9 (wrap64 (-(rd x28 x30)))) x28 x29 (wrap64 (x30 + 1))) else (none)) else (none)) else (some (wrap64 (2 * (wrap64 (x8 + x9)))))
end
def Q3.f (k : Nat) (a0_0 : Int) (a0_1 : Bool) (a1 : Int) (l2 : List Int) : Option (Int) := (Q36.f k l2 a0_0 a0_1 a1).bind fun t236 => ((Q41.f k t236).bind fun t239 => (if a0_1 = true then ((Q53.f k t239).bind fun t240 => (Q3.j0 k t240 a0_0 a0_1)) else (Q3.j0 k t239 a0_0 a0_1)))
set_option maxHeartbeats 8000000 in
set_option maxRecDepth 100000 in
theorem Q3.calls (k : Nat) (a0_0 : Int) (a0_1 : Bool) (a1 : Int) (A2 : Option Addr) (c2 : Nat) (l2 : List Int) (r : Int) (w : World) (hr2 : Kd.C (Kd.int .i64) w A2 l2.length l2) (hc2 : l2.length ≤ c2) (h : Q3.f k a0_0 a0_1 a1 l2 = some r) :
    Calls Tryz.prog 59 #[.agg #[.int .i64 a0_0, .bool a0_1], .int .i64 a1, .slice A2 l2.length c2] w fun e w' => e = .returned (.int .i64 r) ∧ Below w.heap.size w w' := by
 have hu25 := Tryz.underlying25; have HR2 := A_ hr2; have HC2 := A_ hc2; clear hr2 hc2; have HB := A_ (Below.refl w.heap.size w); have H : ((Q36.f k l2 a0_0 a0_1 a1).bind fun t236 => ((Q41.f k t236).bind fun t239 => (if a0_1 = true then ((Q53.f k t239).bind fun t240 => (Q3.j0 k t240 a0_0 a0_1)) else (Q3.j0 k t239 a0_0 a0_1)))) = some r := h; clear h; replace H := bm H; obtain ⟨t236, A4, H⟩ := H; replace H := bm H; obtain ⟨t239, A5, H⟩ := H; have HC6 := A_ H; clear H; go_enter Tryz.func59, Tryz.ntmps59
 go_upto_if 22 with (first | ((with_reducible refine gate_dst (N := 3) rfl ?_); refine bx (N := 3) #[.int .i64 a0_0, .bool a0_1] 25 ?_; intro gb234 hg w7 hbox hb; have BK234 := A_ (hbox); have GW234 := A_ (bs hg (hq HB) : w.heap.size ≤ gb234); have GE234 := A_ (bs hg (hq HB) : w.heap.size ≤ gb234); replace HB := A_ (below_step (hq HB) hb); clear hb hbox hg) | ((with_reducible refine gate_dst (N := 4) rfl ?_); refine bx (N := 4) #[.int .i64 a1] 3 ?_; intro gb235 hg w8 hbox hb; have BK235 := A_ (hbox); have GW235 := A_ (bs hg (hq HB) : w.heap.size ≤ gb235); have GE235 := A_ (bs hg (hq HB) : w.heap.size ≤ gb235); replace HB := A_ (below_step (hq HB) hb); have NB234_235 := A_ ((by rw [hg]; exact Nat.ne_of_lt (blk_lt (bq BK234)) : gb234 ≠ gb235)); have NB235_234 := A_ ((by rw [hg]; exact Nat.ne_of_gt (blk_lt (bq BK234)) : gb235 ≠ gb234)); replace BK234 := A_ (blk_below (bq BK234) hb); clear hb hbox hg) | (go_at_call 71; (with_reducible refine (Q36.calls k _ _ l2 gb234 a0_0 a0_1 gb235 a1 t236 _ ?side1 ?side2 ?side3 ?side4 A4.out).mono ?_); (case side1 => (with_reducible repeat (first | refine blk_drewN ?_ _ | refine blk_drew ?_ | refine blk_alloc ?_ _)); exact BK234.out); (case side2 => (with_reducible repeat (first | refine blk_drewN ?_ _ | refine blk_drew ?_ | refine blk_alloc ?_ _)); exact BK235.out); (case side3 => exact cq (Kd.C_below HR2.out HB.out)); (case side4 => exact HC2.out); rintro e w9 ⟨v237, rfl, ho0, hb⟩; have HO238 := A_ (Kd.R_lower (Kd.R_newB ho0 (g := gb235) (o := .cells #[.int .i64 a1] 3 (0, 0)) (bq BK235)) (below_size (hq HB))); replace BK234 := A_ (blk_below (bq BK234) hb); replace BK235 := A_ (blk_below (bq BK235) hb); replace HB := A_ (below_step (hq HB) hb); clear hb ho0; obtain ⟨Ao10, co10, eo10⟩ := Kd.R_slice HO238.out; subst eo10) | (go_at_call 73; (with_reducible refine (Q41.calls k (fun k_ => some k_ = (.slice Ao10 t236.length co10 : Value).ownBlock) (.slice Ao10 t236.length co10) t236 t239 w _ ?side1 ?side2 A5.out).mono ?_); (case side1 => repeat (first | (with_reducible first | exact HB.out | apply below_alloc | apply pw_below_drewN | apply below_drew1 | refine below_set ?_ GE234.out | refine below_set ?_ GE235.out) | exact HB.out)); (case side2 => exact Kd.R_tight rfl HO238.out); rintro e w11 ⟨rfl, hy0, hb, hkp⟩; replace BK234 := A_ (blk_kept (bq BK234) hkp (fun hs_ => (fun e_ => (Kd.R_ne HO238.out BK234.out (by decide)) e_) hs_)); replace BK235 := A_ (blk_kept (bq BK235) hkp (fun hs_ => (fun e_ => (Kd.R_away HO238.out (fun _ hk => hk.2)) e_) hs_)); replace HO238 := A_ (Kd.R_reok rfl hy0 (fun k_ e_ => HO238.out.1 k_ e_)); replace HB := A_ (hb); clear hb hkp hy0; have hnb12 := NB234_235.out; have hnc12 := NB235_234.out; have hcz13_0 : w11.cell? ⟨gb234, 0, none⟩ = some (.int .i64 a0_0) := bc BK234 0; have hcz13_1 : w11.cell? ⟨gb234, 1, none⟩ = some (.bool a0_1) := bc BK234 1; have hfz13_0 := blk_frozen BK234.out 0; have hfz13_1 := blk_frozen BK234.out 1))
 repeat (go_quiet (first | ((with_reducible refine gate_dst (N := 3) rfl ?_); refine bx (N := 3) #[.int .i64 a0_0, .bool a0_1] 25 ?_; intro gb234 hg w7 hbox hb; have BK234 := A_ (hbox); have GW234 := A_ (bs hg (hq HB) : w.heap.size ≤ gb234); have GE234 := A_ (bs hg (hq HB) : w.heap.size ≤ gb234); replace HB := A_ (below_step (hq HB) hb); clear hb hbox hg) | ((with_reducible refine gate_dst (N := 4) rfl ?_); refine bx (N := 4) #[.int .i64 a1] 3 ?_; intro gb235 hg w8 hbox hb; have BK235 := A_ (hbox); have GW235 := A_ (bs hg (hq HB) : w.heap.size ≤ gb235); have GE235 := A_ (bs hg (hq HB) : w.heap.size ≤ gb235); replace HB := A_ (below_step (hq HB) hb); have NB234_235 := A_ ((by rw [hg]; exact Nat.ne_of_lt (blk_lt (bq BK234)) : gb234 ≠ gb235)); have NB235_234 := A_ ((by rw [hg]; exact Nat.ne_of_gt (blk_lt (bq BK234)) : gb235 ≠ gb234)); replace BK234 := A_ (blk_below (bq BK234) hb); clear hb hbox hg) | (go_at_call 71; (with_reducible refine (Q36.calls k _ _ l2 gb234 a0_0 a0_1 gb235 a1 t236 _ ?side1 ?side2 ?side3 ?side4 A4.out).mono ?_); (case side1 => (with_reducible repeat (first | refine blk_drewN ?_ _ | refine blk_drew ?_ | refine blk_alloc ?_ _)); exact BK234.out); (case side2 => (with_reducible repeat (first | refine blk_drewN ?_ _ | refine blk_drew ?_ | refine blk_alloc ?_ _)); exact BK235.out); (case side3 => exact cq (Kd.C_below HR2.out HB.out)); (case side4 => exact HC2.out); rintro e w9 ⟨v237, rfl, ho0, hb⟩; have HO238 := A_ (Kd.R_lower (Kd.R_newB ho0 (g := gb235) (o := .cells #[.int .i64 a1] 3 (0, 0)) (bq BK235)) (below_size (hq HB))); replace BK234 := A_ (blk_below (bq BK234) hb); replace BK235 := A_ (blk_below (bq BK235) hb); replace HB := A_ (below_step (hq HB) hb); clear hb ho0; obtain ⟨Ao10, co10, eo10⟩ := Kd.R_slice HO238.out; subst eo10) | (go_at_call 73; (with_reducible refine (Q41.calls k (fun k_ => some k_ = (.slice Ao10 t236.length co10 : Value).ownBlock) (.slice Ao10 t236.length co10) t236 t239 w _ ?side1 ?side2 A5.out).mono ?_); (case side1 => repeat (first | (with_reducible first | exact HB.out | apply below_alloc | apply pw_below_drewN | apply below_drew1 | refine below_set ?_ GE234.out | refine below_set ?_ GE235.out) | exact HB.out)); (case side2 => exact Kd.R_tight rfl HO238.out); rintro e w11 ⟨rfl, hy0, hb, hkp⟩; replace BK234 := A_ (blk_kept (bq BK234) hkp (fun hs_ => (fun e_ => (Kd.R_ne HO238.out BK234.out (by decide)) e_) hs_)); replace BK235 := A_ (blk_kept (bq BK235) hkp (fun hs_ => (fun e_ => (Kd.R_away HO238.out (fun _ hk => hk.2)) e_) hs_)); replace HO238 := A_ (Kd.R_reok rfl hy0 (fun k_ e_ => HO238.out.1 k_ e_)); replace HB := A_ (hb); clear hb hkp hy0; have hnb12 := NB234_235.out; have hnc12 := NB235_234.out; have hcz13_0 : w11.cell? ⟨gb234, 0, none⟩ = some (.int .i64 a0_0) := bc BK234 0; have hcz13_1 : w11.cell? ⟨gb234, 1, none⟩ = some (.bool a0_1) := bc BK234 1; have hfz13_0 := blk_frozen BK234.out 0; have hfz13_1 := blk_frozen BK234.out 1)); go_upto_if 22 with (first | ((with_reducible refine gate_dst (N := 3) rfl ?_); refine bx (N := 3) #[.int .i64 a0_0, .bool a0_1] 25 ?_; intro gb234 hg w7 hbox hb; have BK234 := A_ (hbox); have GW234 := A_ (bs hg (hq HB) : w.heap.size ≤ gb234); have GE234 := A_ (bs hg (hq HB) : w.heap.size ≤ gb234); replace HB := A_ (below_step (hq HB) hb); clear hb hbox hg) | ((with_reducible refine gate_dst (N := 4) rfl ?_); refine bx (N := 4) #[.int .i64 a1] 3 ?_; intro gb235 hg w8 hbox hb; have BK235 := A_ (hbox); have GW235 := A_ (bs hg (hq HB) : w.heap.size ≤ gb235); have GE235 := A_ (bs hg (hq HB) : w.heap.size ≤ gb235); replace HB := A_ (below_step (hq HB) hb); have NB234_235 := A_ ((by rw [hg]; exact Nat.ne_of_lt (blk_lt (bq BK234)) : gb234 ≠ gb235)); have NB235_234 := A_ ((by rw [hg]; exact Nat.ne_of_gt (blk_lt (bq BK234)) : gb235 ≠ gb234)); replace BK234 := A_ (blk_below (bq BK234) hb); clear hb hbox hg) | (go_at_call 71; (with_reducible refine (Q36.calls k _ _ l2 gb234 a0_0 a0_1 gb235 a1 t236 _ ?side1 ?side2 ?side3 ?side4 A4.out).mono ?_); (case side1 => (with_reducible repeat (first | refine blk_drewN ?_ _ | refine blk_drew ?_ | refine blk_alloc ?_ _)); exact BK234.out); (case side2 => (with_reducible repeat (first | refine blk_drewN ?_ _ | refine blk_drew ?_ | refine blk_alloc ?_ _)); exact BK235.out); (case side3 => exact cq (Kd.C_below HR2.out HB.out)); (case side4 => exact HC2.out); rintro e w9 ⟨v237, rfl, ho0, hb⟩; have HO238 := A_ (Kd.R_lower (Kd.R_newB ho0 (g := gb235) (o := .cells #[.int .i64 a1] 3 (0, 0)) (bq BK235)) (below_size (hq HB))); replace BK234 := A_ (blk_below (bq BK234) hb); replace BK235 := A_ (blk_below (bq BK235) hb); replace HB := A_ (below_step (hq HB) hb); clear hb ho0; obtain ⟨Ao10, co10, eo10⟩ := Kd.R_slice HO238.out; subst eo10) | (go_at_call 73; (with_reducible refine (Q41.calls k (fun k_ => some k_ = (.slice Ao10 t236.length co10 : Value).ownBlock) (.slice Ao10 t236.length co10) t236 t239 w _ ?side1 ?side2 A5.out).mono ?_); (case side1 => repeat (first | (with_reducible first | exact HB.out | apply below_alloc | apply pw_below_drewN | apply below_drew1 | refine below_set ?_ GE234.out | refine below_set ?_ GE235.out) | exact HB.out)); (case side2 => exact Kd.R_tight rfl HO238.out); rintro e w11 ⟨rfl, hy0, hb, hkp⟩; replace BK234 := A_ (blk_kept (bq BK234) hkp (fun hs_ => (fun e_ => (Kd.R_ne HO238.out BK234.out (by decide)) e_) hs_)); replace BK235 := A_ (blk_kept (bq BK235) hkp (fun hs_ => (fun e_ => (Kd.R_away HO238.out (fun _ hk => hk.2)) e_) hs_)); replace HO238 := A_ (Kd.R_reok rfl hy0 (fun k_ e_ => HO238.out.1 k_ e_)); replace HB := A_ (hb); clear hb hkp hy0; have hnb12 := NB234_235.out; have hnc12 := NB235_234.out; have hcz13_0 : w11.cell? ⟨gb234, 0, none⟩ = some (.int .i64 a0_0) := bc BK234 0; have hcz13_1 : w11.cell? ⟨gb234, 1, none⟩ = some (.bool a0_1) := bc BK234 1; have hfz13_0 := blk_frozen BK234.out 0; have hfz13_1 := blk_frozen BK234.out 1)))
 (try simp only [Act.put, List.setIfInBounds_toArray, List.set_cons_zero, List.set_cons_succ]); go_cut [7] (fun v7 wc => ∃ (kq : Nat) (x7_5 : List Int), Aside0 (Q3.j0 kq x7_5 a0_0 a0_1 = some r) ∧ Aside0 (kq ≤ k) ∧ Aside0 (Kd.R (Kd.int .i64) 3 wc w.heap.size (fun k_ => k_ ≠ gb235) v7 x7_5) ∧ Aside0 (wc.heap[gb234]? = some (.cells #[.int .i64 a0_0, .bool a0_1] 25 (0, 0))) ∧ Aside0 (wc.heap[gb235]? = some (.cells #[.int .i64 a1] 3 (0, 0))) ∧ Aside0 (Below w.heap.size w wc))
 case first =>
  have H := HC6.out; clear HC6; by_cases c14 : a0_1 = true
  ·
   subst c14
   have H1 : ((Q53.f k t239).bind fun t240 => (Q3.j0 k t240 a0_0 true)) = some r := by rw [if_pos rfl] at H; exact H
   clear H; have H := H1; clear H1; replace H := bm H; obtain ⟨t240, A15, H⟩ := H; have H' := A_ H; clear H; go_wp2_with (first | (go_at_call 74; (with_reducible refine (Q53.calls k (fun k_ => some k_ = (.slice Ao10 t236.length co10 : Value).ownBlock) (.slice Ao10 t236.length co10) t239 t240 w _ ?side1 ?side2 A15.out).mono ?_); (case side1 => repeat (first | (with_reducible first | exact HB.out | apply below_alloc | apply pw_below_drewN | apply below_drew1 | refine below_set ?_ GE234.out | refine below_set ?_ GE235.out) | exact HB.out)); (case side2 => exact Kd.R_tight rfl HO238.out); rintro e w16 ⟨v241, rfl, ho0, hb, hkp⟩; have n0_ := A_ (blk_kept (bq BK234) hkp (fun hs_ => (fun e_ => (Kd.R_ne HO238.out BK234.out (by decide)) e_) hs_)); have n1_ := A_ (blk_kept (bq BK235) hkp (fun hs_ => (fun e_ => (Kd.R_away HO238.out (fun _ hk => hk.2)) e_) hs_)); have n2_ := A_ (Kd.R_mono (ok' := fun k_ => k_ ≠ gb235) ho0 (fun k_ hk_ => Or.elim hk_ (fun hs_ => fun e_ => (Kd.R_away HO238.out (fun _ hk => hk.2)) (by rw [← e_]; exact hs_)) (fun hn_ => (Kd.freshB (g := gb235) (o := .cells #[.int .i64 a1] 3 (0, 0)) (bq BK235) k_ hn_)))); have n3_ := A_ (hb); clear BK234; clear BK235; clear HB; clear HO238; have BK234 := n0_; have BK235 := n1_; have HO242 := n2_; have HB := n3_; clear n0_ n1_ n2_ n3_; clear hb hkp ho0))
   repeat (go_quiet (first | (go_at_call 74; (with_reducible refine (Q53.calls k (fun k_ => some k_ = (.slice Ao10 t236.length co10 : Value).ownBlock) (.slice Ao10 t236.length co10) t239 t240 w _ ?side1 ?side2 A15.out).mono ?_); (case side1 => repeat (first | (with_reducible first | exact HB.out | apply below_alloc | apply pw_below_drewN | apply below_drew1 | refine below_set ?_ GE234.out | refine below_set ?_ GE235.out) | exact HB.out)); (case side2 => exact Kd.R_tight rfl HO238.out); rintro e w16 ⟨v241, rfl, ho0, hb, hkp⟩; have n0_ := A_ (blk_kept (bq BK234) hkp (fun hs_ => (fun e_ => (Kd.R_ne HO238.out BK234.out (by decide)) e_) hs_)); have n1_ := A_ (blk_kept (bq BK235) hkp (fun hs_ => (fun e_ => (Kd.R_away HO238.out (fun _ hk => hk.2)) e_) hs_)); have n2_ := A_ (Kd.R_mono (ok' := fun k_ => k_ ≠ gb235) ho0 (fun k_ hk_ => Or.elim hk_ (fun hs_ => fun e_ => (Kd.R_away HO238.out (fun _ hk => hk.2)) (by rw [← e_]; exact hs_)) (fun hn_ => (Kd.freshB (g := gb235) (o := .cells #[.int .i64 a1] 3 (0, 0)) (bq BK235) k_ hn_)))); have n3_ := A_ (hb); clear BK234; clear BK235; clear HB; clear HO238; have BK234 := n0_; have BK235 := n1_; have HO242 := n2_; have HB := n3_; clear n0_ n1_ n2_ n3_; clear hb hkp ho0)); try go_wp2_with (first | (go_at_call 74; (with_reducible refine (Q53.calls k (fun k_ => some k_ = (.slice Ao10 t236.length co10 : Value).ownBlock) (.slice Ao10 t236.length co10) t239 t240 w _ ?side1 ?side2 A15.out).mono ?_); (case side1 => repeat (first | (with_reducible first | exact HB.out | apply below_alloc | apply pw_below_drewN | apply below_drew1 | refine below_set ?_ GE234.out | refine below_set ?_ GE235.out) | exact HB.out)); (case side2 => exact Kd.R_tight rfl HO238.out); rintro e w16 ⟨v241, rfl, ho0, hb, hkp⟩; have n0_ := A_ (blk_kept (bq BK234) hkp (fun hs_ => (fun e_ => (Kd.R_ne HO238.out BK234.out (by decide)) e_) hs_)); have n1_ := A_ (blk_kept (bq BK235) hkp (fun hs_ => (fun e_ => (Kd.R_away HO238.out (fun _ hk => hk.2)) e_) hs_)); have n2_ := A_ (Kd.R_mono (ok' := fun k_ => k_ ≠ gb235) ho0 (fun k_ hk_ => Or.elim hk_ (fun hs_ => fun e_ => (Kd.R_away HO238.out (fun _ hk => hk.2)) (by rw [← e_]; exact hs_)) (fun hn_ => (Kd.freshB (g := gb235) (o := .cells #[.int .i64 a1] 3 (0, 0)) (bq BK235) k_ hn_)))); have n3_ := A_ (hb); clear BK234; clear BK235; clear HB; clear HO238; have BK234 := n0_; have BK235 := n1_; have HO242 := n2_; have HB := n3_; clear n0_ n1_ n2_ n3_; clear hb hkp ho0)))
   go_meet
   case rel => exact ⟨_, (t240), H', ⟨by first | omega | exact Nat.le_refl _⟩, ⟨rq HO242⟩, ⟨bq BK234⟩, ⟨bq BK235⟩, ⟨hq HB⟩⟩
  ·
   replace c14 := Bool.eq_false_iff.mpr c14; subst c14
   have H1 : (Q3.j0 k t239 a0_0 false) = some r := by rw [if_neg (show ¬ (false = true) by decide)] at H; exact H
   clear H; have H := H1; clear H1; have H' := A_ H; clear H; go_wp2
   repeat (go_quiet (fail); try go_wp2)
   go_meet
   case rel => exact ⟨_, (t239), H', ⟨by first | omega | exact Nat.le_refl _⟩, ⟨by (with_reducible repeat (first | apply Kd.R_alloc | apply Kd.R_drewN | apply Kd.R_drew)); exact Kd.R_mono HO238.out (fun _ hk => hk.2)⟩, ⟨bq BK234⟩, ⟨bq BK235⟩, ⟨hq HB⟩⟩
 case rest =>
  clear HC6; (try clear c14); (try clear hcz13_0); (try clear hcz13_1); (try clear hfz13_0); (try clear hfz13_1); obtain ⟨kq, x7_5, HA, HJ5, HO_7, BK234, BK235, HB⟩ := hcut
  cases kq with
  | zero => exact absurd HA.out (by simp [Q3.j0])
  | succ kj5 =>
   have H := HA.out; clear HA; simp only [Q3.j0] at H
   by_cases c17 : a0_1 = true
   ·
    subst c17
    have H1 : (Q3.l1 kj5 x7_5 a0_0 (wrap64 ((x7_5.length : Int) + 1)) 0 a0_0 true) = some r := by rw [if_pos rfl] at H; exact H
    clear H; have H := H1; clear H1; have H' := A_ H; clear H; have hnb18 := NB234_235.out; have hnc18 := NB235_234.out; have hcz19_0 : wc.cell? ⟨gb234, 0, none⟩ = some (.int .i64 a0_0) := bc BK234 0; have hcz19_1 : wc.cell? ⟨gb234, 1, none⟩ = some (.bool true) := bc BK234 1; have hfz19_0 := blk_frozen BK234.out 0; have hfz19_1 := blk_frozen BK234.out 1; obtain ⟨Ao20, co20, eo20⟩ := Kd.R_slice HO_7.out; subst eo20; go_wp2
    repeat (go_quiet (fail); try go_wp2)
    go_loopg [12, 51] kj5 (fun kq v12 v51 w' => ∃ (x12_2 : Int) (x51_2 : Int), v12 = .int .i64 x12_2 ∧ v51 = .int .i64 x51_2 ∧ Aside0 (Q3.l1 kq x7_5 x12_2 (wrap64 ((x7_5.length : Int) + 1)) x51_2 a0_0 true = some r) ∧ Aside0 (kq ≤ kj5) ∧ Aside0 (Kd.R (Kd.int .i64) 3 w' w.heap.size (fun k_ => k_ ≠ gb235) (.slice Ao20 x7_5.length co20) x7_5) ∧ Aside0 (w'.heap[gb234]? = some (.cells #[.int .i64 a0_0, .bool true] 25 (0, 0))) ∧ Aside0 (w'.heap[gb235]? = some (.cells #[.int .i64 a1] 3 (0, 0))) ∧ Aside0 (Below w.heap.size w w'))
    case atStart => exact ⟨(a0_0), (0), rf, rf, H', ⟨Nat.le_refl _⟩, ⟨rq HO_7⟩, ⟨bq BK234⟩, ⟨bq BK235⟩, ⟨hq HB⟩⟩
    case round =>
     clear H'; (try clear c14); (try clear c17); (try clear hcz13_0); (try clear hcz13_1); (try clear hcz19_0); (try clear hcz19_1); (try clear hfz13_0); (try clear hfz13_1); (try clear hfz19_0); (try clear hfz19_1); obtain ⟨x12_2, x51_2, rfl, rfl, HA, HK2, HO_7, BK234, BK235, HB⟩ := hrel
     cases gk with
     | zero => exact absurd HA.out (by simp [Q3.l1])
     | succ k2 =>
      have H := HA.out; clear HA; simp only [Q3.l1] at H
      by_cases c21 : x51_2 < (wrap64 ((x7_5.length : Int) + 1))
      ·
       rw [if_pos c21] at H; have c21b0 := decide_eq_true c21; clear c21; by_cases c22 : x51_2 > 0
       ·
        rw [if_pos c22] at H; have c22b0 : decide (0 < x51_2) = true := decide_eq_true c22; clear c22
        obtain ⟨ji23, hji23⟩ : ∃ j_ : Int, (wrap64 (x51_2 - 1)) = j_ := ⟨_, rfl⟩
        replace H : (if 0 ≤ (ji23) then (if (ji23) < (x7_5.length : Int) then (if x51_2 < (x7_5.length : Int) then (if 0 ≤ x51_2 then (Q3.l1 k2 x7_5 (mn x12_2 (wrap64 (2 * (wrap64 ((rd x7_5 (ji23)) + (wrap64 (a0_0 - (rd x7_5 x51_2)))))))) (wrap64 ((x7_5.length : Int) + 1)) (wrap64 (x51_2 + 1)) a0_0 true) else (none)) else (Q3.l1 k2 x7_5 (mn x12_2 (wrap64 (2 * (wrap64 (rd x7_5 (ji23)))))) (wrap64 ((x7_5.length : Int) + 1)) (wrap64 (x51_2 + 1)) a0_0 true)) else (none)) else (none)) = some r := by first | (rw [hji23] at H; exact H) | (simp only [hji23] at H ⊢; exact H)
        have hji23w : (IntKind.i64.wrap (x51_2 - 1)) = ji23 := (i64_w _).trans hji23; by_cases c24 : 0 ≤ (ji23)
        ·
         rw [if_pos c24] at H; have c24b0 := decide_eq_true c24; clear c24; by_cases c25 : (ji23) < (x7_5.length : Int)
         ·
          rw [if_pos c25] at H; have c25b0 := decide_eq_true c25; clear c25; by_cases c26 : x51_2 < (x7_5.length : Int)
          ·
           rw [if_pos c26] at H; have c26b0 := decide_eq_true c26; clear c26; by_cases c27 : 0 ≤ x51_2
           ·
            rw [if_pos c27] at H; have c27b0 := decide_eq_true c27; clear c27
            obtain ⟨ji28, hji28⟩ : ∃ j_ : Int, (mn x12_2 (wrap64 (2 * (wrap64 ((rd x7_5 (ji23)) + (wrap64 (a0_0 - (rd x7_5 x51_2)))))))) = j_ := ⟨_, rfl⟩
            replace H : (Q3.l1 k2 x7_5 ji28 (wrap64 ((x7_5.length : Int) + 1)) (wrap64 (x51_2 + 1)) a0_0 true) = some r := by first | (rw [hji28] at H; exact H) | (simp only [hji28] at H ⊢; exact H)
            have hji28_ : (if (wrap64 (2 * (wrap64 ((rd x7_5 (ji23)) + (wrap64 (a0_0 - (rd x7_5 x51_2))))))) < x12_2 then (wrap64 (2 * (wrap64 ((rd x7_5 (ji23)) + (wrap64 (a0_0 - (rd x7_5 x51_2))))))) else x12_2) = ji28 := hji28; have H' := A_ H; clear H; have p244 : 0 ≤ ((ji23) : Int) := dq; have q244 : (ji23) < (x7_5.length : Int) := dq; obtain ⟨ad244, e244, hx244_0⟩ := Kd.at_int (Kd.R_reads' HO_7.out).2.2 (ji23) p244 q244
            cases e244
            replace p244 := eq_true p244; replace q244 := eq_true q244; have hnb29 := NB234_235.out; have hnc29 := NB235_234.out; have hcz30_0 : wr.cell? ⟨gb234, 0, none⟩ = some (.int .i64 a0_0) := bc BK234 0; have hcz30_1 : wr.cell? ⟨gb234, 1, none⟩ = some (.bool true) := bc BK234 1; have hfz30_0 := blk_frozen BK234.out 0; have hfz30_1 := blk_frozen BK234.out 1; have p245 : 0 ≤ (x51_2 : Int) := dq; have q245 : x51_2 < (x7_5.length : Int) := dq; obtain ⟨ad245, e245, hx245_0⟩ := Kd.at_int (Kd.R_reads' HO_7.out).2.2 x51_2 p245 q245
            obtain rfl : ad244 = ad245 := (by injection e245)
            replace p245 := eq_true p245; replace q245 := eq_true q245; go_wp2
            repeat (go_quiet (fail); try go_wp2)
            go_roundg k2
            case measure => have := HJ5.out; have := HK2.out; omega
            case rel => exact ⟨(ji28), (wrap64 (x51_2 + 1)), (by first | rfl | (simp; done) | (simp only [← hji28] <;> (first | rfl | simp)) | (simp [*]; done)), rf, H', ⟨by have := HJ5.out; have := HK2.out; omega⟩, ⟨rq HO_7⟩, ⟨bq BK234⟩, ⟨bq BK235⟩, ⟨hq HB⟩⟩
           ·
            rw [if_neg c27] at H; exact absurd H (by simp)
          ·
           rw [if_neg c26] at H; have c26b0 := decide_eq_false c26; clear c26
           obtain ⟨ji31, hji31⟩ : ∃ j_ : Int, (mn x12_2 (wrap64 (2 * (wrap64 (rd x7_5 (ji23)))))) = j_ := ⟨_, rfl⟩
           replace H : (Q3.l1 k2 x7_5 ji31 (wrap64 ((x7_5.length : Int) + 1)) (wrap64 (x51_2 + 1)) a0_0 true) = some r := by first | (rw [hji31] at H; exact H) | (simp only [hji31] at H ⊢; exact H)
           have hji31_ : (if (wrap64 (2 * (wrap64 (rd x7_5 (ji23))))) < x12_2 then (wrap64 (2 * (wrap64 (rd x7_5 (ji23))))) else x12_2) = ji31 := hji31; have H' := A_ H; clear H; have p244 : 0 ≤ ((ji23) : Int) := dq; have q244 : (ji23) < (x7_5.length : Int) := dq; obtain ⟨ad244, e244, hx244_0⟩ := Kd.at_int (Kd.R_reads' HO_7.out).2.2 (ji23) p244 q244
           cases e244
           replace p244 := eq_true p244; replace q244 := eq_true q244; go_wp2
           repeat (go_quiet (fail); try go_wp2)
           go_roundg k2
           case measure => have := HJ5.out; have := HK2.out; omega
           case rel => exact ⟨(ji31), (wrap64 (x51_2 + 1)), (by first | rfl | (simp; done) | (simp only [← hji31] <;> (first | rfl | simp)) | (simp [*]; done)), rf, H', ⟨by have := HJ5.out; have := HK2.out; omega⟩, ⟨rq HO_7⟩, ⟨bq BK234⟩, ⟨bq BK235⟩, ⟨hq HB⟩⟩
         ·
          rw [if_neg c25] at H; exact absurd H (by simp)
        ·
         rw [if_neg c24] at H; exact absurd H (by simp)
       ·
        rw [if_neg c22] at H; have c22b0 : decide (0 < x51_2) = false := decide_eq_false c22; clear c22; by_cases c32 : x51_2 < (x7_5.length : Int)
        ·
         rw [if_pos c32] at H; have c32b0 := decide_eq_true c32; clear c32; by_cases c33 : 0 ≤ x51_2
         ·
          rw [if_pos c33] at H; have c33b0 := decide_eq_true c33; clear c33
          obtain ⟨ji34, hji34⟩ : ∃ j_ : Int, (mn x12_2 (wrap64 (2 * (wrap64 (wrap64 (a0_0 - (rd x7_5 x51_2))))))) = j_ := ⟨_, rfl⟩
          replace H : (Q3.l1 k2 x7_5 ji34 (wrap64 ((x7_5.length : Int) + 1)) (wrap64 (x51_2 + 1)) a0_0 true) = some r := by first | (rw [hji34] at H; exact H) | (simp only [hji34] at H ⊢; exact H)
          have hji34_ : (if (wrap64 (2 * (wrap64 (wrap64 (a0_0 - (rd x7_5 x51_2)))))) < x12_2 then (wrap64 (2 * (wrap64 (wrap64 (a0_0 - (rd x7_5 x51_2)))))) else x12_2) = ji34 := hji34; have H' := A_ H; clear H; have hnb35 := NB234_235.out; have hnc35 := NB235_234.out; have hcz36_0 : wr.cell? ⟨gb234, 0, none⟩ = some (.int .i64 a0_0) := bc BK234 0; have hcz36_1 : wr.cell? ⟨gb234, 1, none⟩ = some (.bool true) := bc BK234 1; have hfz36_0 := blk_frozen BK234.out 0; have hfz36_1 := blk_frozen BK234.out 1; have p246 : 0 ≤ (x51_2 : Int) := dq; have q246 : x51_2 < (x7_5.length : Int) := dq; obtain ⟨ad246, e246, hx246_0⟩ := Kd.at_int (Kd.R_reads' HO_7.out).2.2 x51_2 p246 q246
          cases e246
          replace p246 := eq_true p246; replace q246 := eq_true q246; go_wp2
          repeat (go_quiet (fail); try go_wp2)
          go_roundg k2
          case measure => have := HJ5.out; have := HK2.out; omega
          case rel => exact ⟨(ji34), (wrap64 (x51_2 + 1)), (by first | rfl | (simp; done) | (simp only [← hji34] <;> (first | rfl | simp)) | (simp [*]; done)), rf, H', ⟨by have := HJ5.out; have := HK2.out; omega⟩, ⟨rq HO_7⟩, ⟨bq BK234⟩, ⟨bq BK235⟩, ⟨hq HB⟩⟩
         ·
          rw [if_neg c33] at H; exact absurd H (by simp)
        ·
         rw [if_neg c32] at H; have c32b0 := decide_eq_false c32; clear c32
         obtain ⟨ji37, hji37⟩ : ∃ j_ : Int, (mn x12_2 0) = j_ := ⟨_, rfl⟩
         replace H : (Q3.l1 k2 x7_5 ji37 (wrap64 ((x7_5.length : Int) + 1)) (wrap64 (x51_2 + 1)) a0_0 true) = some r := by first | (rw [hji37] at H; exact H) | (simp only [hji37] at H ⊢; exact H)
         have hji37_ : (if 0 < x12_2 then 0 else x12_2) = ji37 := hji37; have H' := A_ H; clear H; go_wp2
         repeat (go_quiet (fail); try go_wp2)
         go_roundg k2
         case measure => have := HJ5.out; have := HK2.out; omega
         case rel => exact ⟨(ji37), (wrap64 (x51_2 + 1)), (by first | rfl | (simp; done) | (simp only [← hji37] <;> (first | rfl | simp)) | (simp [*]; done)), rf, H', ⟨by have := HJ5.out; have := HK2.out; omega⟩, ⟨rq HO_7⟩, ⟨bq BK234⟩, ⟨bq BK235⟩, ⟨hq HB⟩⟩
      ·
       rw [if_neg c21] at H; have c21b0 := decide_eq_false c21; clear c21; obtain rfl := Option.some.inj H; go_wp2
       repeat (go_quiet (fail); try go_wp2)
       go_ret
       exact ⟨rt, hq HB⟩
   ·
    replace c17 := Bool.eq_false_iff.mpr c17; subst c17
    have H1 : (Q3.l0 kj5 0 0 x7_5 (x7_5.length : Int) 0) = some r := by rw [if_neg (show ¬ (false = true) by decide)] at H; exact H
    clear H; have H := H1; clear H1; have H' := A_ H; clear H; have hnb38 := NB234_235.out; have hnc38 := NB235_234.out; have hcz39_0 : wc.cell? ⟨gb234, 0, none⟩ = some (.int .i64 a0_0) := bc BK234 0; have hcz39_1 : wc.cell? ⟨gb234, 1, none⟩ = some (.bool false) := bc BK234 1; have hfz39_0 := blk_frozen BK234.out 0; have hfz39_1 := blk_frozen BK234.out 1; obtain ⟨Ao40, co40, eo40⟩ := Kd.R_slice HO_7.out; subst eo40; go_wp2
    repeat (go_quiet (fail); try go_wp2)
    go_loopg [8, 9, 30] kj5 (fun kq v8 v9 v30 w' => ∃ (x8_2 : Int) (x9_2 : Int) (x30_2 : Int), v8 = .int .i64 x8_2 ∧ v9 = .int .i64 x9_2 ∧ v30 = .int .i64 x30_2 ∧ Aside0 (Q3.l0 kq x8_2 x9_2 x7_5 (x7_5.length : Int) x30_2 = some r) ∧ Aside0 (kq ≤ kj5) ∧ Aside0 (Kd.R (Kd.int .i64) 3 w' w.heap.size (fun k_ => k_ ≠ gb235) (.slice Ao40 x7_5.length co40) x7_5) ∧ Aside0 (w'.heap[gb234]? = some (.cells #[.int .i64 a0_0, .bool false] 25 (0, 0))) ∧ Aside0 (w'.heap[gb235]? = some (.cells #[.int .i64 a1] 3 (0, 0))) ∧ Aside0 (Below w.heap.size w w'))
    case atStart => exact ⟨(0), (0), (0), rf, rf, rf, H', ⟨Nat.le_refl _⟩, ⟨rq HO_7⟩, ⟨bq BK234⟩, ⟨bq BK235⟩, ⟨hq HB⟩⟩
    case round =>
     clear H'; (try clear c14); (try clear c17); (try clear c21); (try clear c21b0); (try clear c22); (try clear c22b0); (try clear c24); (try clear c24b0); (try clear c25); (try clear c25b0); (try clear c26); (try clear c26b0); (try clear c27); (try clear c27b0); (try clear c32); (try clear c32b0); (try clear c33); (try clear c33b0); (try clear hcz13_0); (try clear hcz13_1); (try clear hcz19_0); (try clear hcz19_1); (try clear hcz30_0); (try clear hcz30_1); (try clear hcz36_0); (try clear hcz36_1); (try clear hcz39_0); (try clear hcz39_1); (try clear hfz13_0); (try clear hfz13_1); (try clear hfz19_0); (try clear hfz19_1); (try clear hfz30_0); (try clear hfz30_1); (try clear hfz36_0); (try clear hfz36_1); (try clear hfz39_0); (try clear hfz39_1); (try clear hx244_0); (try clear hx245_0); (try clear hx246_0); (try clear p244); (try clear p245); (try clear p246); (try clear q244); (try clear q245); (try clear q246); obtain ⟨x8_2, x9_2, x30_2, rfl, rfl, rfl, HA, HK2, HO_28, BK234, BK235, HB⟩ := hrel
     cases gk with
     | zero => exact absurd HA.out (by simp [Q3.l0])
     | succ k2 =>
      have H := HA.out; clear HA; simp only [Q3.l0] at H
      by_cases c41 : x30_2 < (x7_5.length : Int)
      ·
       rw [if_pos c41] at H; have c41b0 := decide_eq_true c41; clear c41; by_cases c42 : 0 ≤ x30_2
       ·
        rw [if_pos c42] at H; have c42b0 := decide_eq_true c42; clear c42; by_cases c43 : x30_2 < (x7_5.length : Int)
        ·
         rw [if_pos c43] at H; have c43b0 := decide_eq_true c43; clear c43
         obtain ⟨ji44, hji44⟩ : ∃ j_ : Int, (mx x8_2 (rd x7_5 x30_2)) = j_ := ⟨_, rfl⟩
         replace H : (Q3.l0 k2 ji44 (mx x9_2 (wrap64 (-(rd x7_5 x30_2)))) x7_5 (x7_5.length : Int) (wrap64 (x30_2 + 1))) = some r := by first | (rw [hji44] at H; exact H) | (simp only [hji44] at H ⊢; exact H)
         have hji44_ : (if x8_2 < (rd x7_5 x30_2) then (rd x7_5 x30_2) else x8_2) = ji44 := hji44
         obtain ⟨ji45, hji45⟩ : ∃ j_ : Int, (mx x9_2 (wrap64 (-(rd x7_5 x30_2)))) = j_ := ⟨_, rfl⟩
         replace H : (Q3.l0 k2 ji44 ji45 x7_5 (x7_5.length : Int) (wrap64 (x30_2 + 1))) = some r := by first | (rw [hji45] at H; exact H) | (simp only [hji45] at H ⊢; exact H)
         have hji45_ : (if x9_2 < (wrap64 (-(rd x7_5 x30_2))) then (wrap64 (-(rd x7_5 x30_2))) else x9_2) = ji45 := hji45; have H' := A_ H; clear H; have p243 : 0 ≤ (x30_2 : Int) := dq; have q243 : x30_2 < (x7_5.length : Int) := dq; obtain ⟨ad243, e243, hx243_0⟩ := Kd.at_int (Kd.R_reads' HO_28.out).2.2 x30_2 p243 q243
         cases e243
         replace p243 := eq_true p243; replace q243 := eq_true q243; go_wp2
         repeat (go_quiet (fail); try go_wp2)
         go_roundg k2
         case measure => have := HJ5.out; have := HK2.out; omega
         case rel => exact ⟨(ji44), (ji45), (wrap64 (x30_2 + 1)), (by first | rfl | (simp; done) | (simp only [← hji44] <;> (first | rfl | simp)) | (simp [*]; done)), (by first | rfl | (simp; done) | (simp only [← hji45] <;> (first | rfl | simp)) | (simp [*]; done)), rf, H', ⟨by have := HJ5.out; have := HK2.out; omega⟩, ⟨rq HO_28⟩, ⟨bq BK234⟩, ⟨bq BK235⟩, ⟨hq HB⟩⟩
        ·
         rw [if_neg c43] at H; exact absurd H (by simp)
       ·
        rw [if_neg c42] at H; exact absurd H (by simp)
      ·
       rw [if_neg c41] at H; have c41b0 := decide_eq_false c41; clear c41; obtain rfl := Option.some.inj H; go_wp2
       repeat (go_quiet (fail); try go_wp2)
       go_ret
       exact ⟨rt, hq HB⟩

/-! ### impl_Road_run: function 60 -/
def Q29.l0 : Nat → Int → List Int → Int → Int → Int → Bool → Option (List Int)
  | 0, _, _, _, _, _, _ => none
  | k + 1, x1, x7, x10, x11, x248000, x248001 => if x11 < x10 then (if x248000 = 0 then (none) else (if x7.length < 17592186044416 then (Q29.l0 k x1 (x7 ++ [Int.tmod (wrap64 (x1 + x11)) x248000]) x10 (wrap64 (x11 + 1)) x248000 x248001) else (none))) else (some x7)
def Q29.f (k : Nat) (a0_0 : Int) (a0_1 : Bool) (a1 : Int) (a2 : Int) : Option (List Int) := Q29.l0 k a1 (([] : List Int)) a2 0 a0_0 a0_1
set_option maxHeartbeats 8000000 in
set_option maxRecDepth 100000 in
theorem Q29.calls (k : Nat) (a0_0 : Int) (a0_1 : Bool) (a1 : Int) (a2 : Int) (r : List Int) (w : World) (h : Q29.f k a0_0 a0_1 a1 a2 = some r) :
    Calls Tryz.prog 60 #[.agg #[.int .i64 a0_0, .bool a0_1], .int .i64 a1, .int .i64 a2] w fun e w' => ∃ v0_ : Value, e = .returned (v0_) ∧ Kd.R (Kd.int .i64) 3 w' w.heap.size (fun _ => True) v0_ r ∧ Below w.heap.size w w' := by
 have hu25 := Tryz.underlying25; have HB := A_ (Below.refl w.heap.size w); have H : (Q29.l0 k a1 (([] : List Int)) a2 0 a0_0 a0_1) = some r := h; clear h
 obtain ⟨y248, hy248⟩ : ∃ y_ : List Int, y_ = (([] : List Int)) := ⟨_, rfl⟩
 replace H : (Q29.l0 k a1 y248 a2 0 a0_0 a0_1) = some r := by first | (rw [hy248]; with_reducible exact H) | (have H2_ := (Option.bind_some _ _).symm.trans H; rw [hy248]; with_reducible exact H2_) | (have H2_ := (Option.bind_some _ _).symm.trans H; with_reducible exact H2_) | with_reducible exact H | (rw [hy248]; exact H) | exact H
 have Ny248 := A_ hy248; clear hy248; have H' := A_ H; clear H; go_enter Tryz.func60, Tryz.ntmps60
 go_wp2_with (first | ((with_reducible refine gate_dst (N := 3) rfl ?_); refine bx (N := 3) #[.int .i64 a0_0, .bool a0_1] 25 ?_; intro gb247 hg w4 hbox hb; have BK247 := A_ (hbox); have GW247 := A_ (bs hg (hq HB) : w.heap.size ≤ gb247); have GE247 := A_ (bs hg (hq HB) : w.heap.size ≤ gb247); replace HB := A_ (below_step (hq HB) hb); clear hb hbox hg) | ((with_reducible refine gate_dst (N := 9) rfl ?_); refine Kd.R_lit (Kd.int .i64) _ 3 ?hg (N := 9) ?hd (xs := ([] : List Int)) (inner := []) (ok := fun _ => True) (okp := fun _ => True) ?hr ?hp (fun _ hk => hk) trivial (Below.refl _ _) (Nat.le_refl _) (by simp) ?_; (case hd => rfl); (case hg => rfl); (case hr => first | (go_simp; done) | (go_simp; rfl)); (case hp => exact (Reps.none _ _)); intro v249 w5 ho6 hb hg_ hnew_; clear hg_ hnew_; (first | rw [← Ny248.out] at ho6 | (simp only [Int.reduceToNat] at ho6; rw [← Ny248.out] at ho6)); have HO250 := A_ (Kd.R_lower ho6 (below_size (hq HB))); replace BK247 := A_ (blk_below (bq BK247) hb); replace HB := A_ (below_step (hq HB) hb); clear hb ho6))
 go_loopg [7, 11] k (fun kq v7 v11 w' => ∃ (x7_1 : List Int) (x11_1 : Int), v11 = .int .i64 x11_1 ∧ Aside0 (Q29.l0 kq a1 x7_1 a2 x11_1 a0_0 a0_1 = some r) ∧ Aside0 (kq ≤ k) ∧ Aside0 (Kd.R (Kd.int .i64) 3 w' w.heap.size (fun _ => True) v7 x7_1) ∧ Aside0 (w'.heap[gb247]? = some (.cells #[.int .i64 a0_0, .bool a0_1] 25 (0, 0))) ∧ Aside0 (Below w.heap.size w w'))
 case atStart => exact ⟨(y248), (0), rf, H', ⟨Nat.le_refl _⟩, ⟨rq HO250⟩, ⟨bq BK247⟩, ⟨hq HB⟩⟩
 case round =>
  clear H'; obtain ⟨x7_1, x11_1, rfl, HA, HK1, HO_7, BK247, HB⟩ := hrel
  cases gk with
  | zero => exact absurd HA.out (by simp [Q29.l0])
  | succ k1 =>
   have H := HA.out; clear HA; simp only [Q29.l0] at H
   by_cases c7 : x11_1 < a2
   ·
    rw [if_pos c7] at H; have c7b0 := decide_eq_true c7; clear c7; by_cases c8 : a0_0 = 0
    ·
     rw [if_pos c8] at H; exact absurd H (by simp)
    ·
     rw [if_neg c8] at H; have c8b0 : (a0_0 == 0) = false := beq_eq_false_iff_ne.mpr c8; have c8b1 : (a0_0 != 0) = true := bne_iff_ne.mpr c8; by_cases c9 : x7_1.length < 17592186044416
     ·
      rw [if_pos c9] at H; have LMc9 := A_ c9; clear c9
      obtain ⟨y251, hy251⟩ : ∃ y_ : List Int, y_ = (x7_1 ++ [Int.tmod (wrap64 (a1 + x11_1)) a0_0]) := ⟨_, rfl⟩
      replace H : (Q29.l0 k1 a1 y251 a2 (wrap64 (x11_1 + 1)) a0_0 a0_1) = some r := by first | (rw [hy251]; with_reducible exact H) | (have H2_ := (Option.bind_some _ _).symm.trans H; rw [hy251]; with_reducible exact H2_) | (have H2_ := (Option.bind_some _ _).symm.trans H; with_reducible exact H2_) | with_reducible exact H | (rw [hy251]; exact H) | exact H
      have Ny251 := A_ hy251; clear hy251; have H' := A_ H; clear H; have hcz10_0 : wr.cell? ⟨gb247, 0, none⟩ = some (.int .i64 a0_0) := bc BK247 0; have hcz10_1 : wr.cell? ⟨gb247, 1, none⟩ = some (.bool a0_1) := bc BK247 1; have hfz10_0 := blk_frozen BK247.out 0; have hfz10_1 := blk_frozen BK247.out 1; go_wp2_with (first | ((with_reducible refine gate_builtin (b := .append) (xs := #[.tmp 14, .tmp 21]) rfl ?_); at_builtin; refine Kd.R_append (Kd.int .i64) (w0 := w) w.heap.size rfl (.tmp 14) (.tmp 21) 26 3 (.int .i64 0) 8 rfl Tryz.underlying26 info3 rfl (by decide) (by omega) u7 x7_1 (Int.tmod (wrap64 (a1 + x11_1)) a0_0) [.int .i64 (Int.tmod (wrap64 (a1 + x11_1)) a0_0)] (fun _ => True) (fun _ => False) rfl rfl ?aP (fun _ hk => hk.elim) ?aF ?aO ?aB ?aS ?aL ?_; (case aP => exact rfl); (case aB => exact (hq HB)); (case aF => exact (fun _ _ => trivial)); (case aO => exact (rq HO_7)); (case aS => exact (below_size (hq HB))); (case aL => have := LMc9.out; omega); intro v252 w11 ho hb hg hat; rw [← Ny251.out] at ho; have n0_ := A_ (blk_grown (g := gb247) (o := .cells #[.int .i64 a0_0, .bool a0_1] 25 (0, 0)) (bq BK247) hg (Kd.R_ne HO_7.out BK247.out (by decide))); have n1_ := A_ (hb); have n2_ := A_ (ho); clear BK247; clear HB; clear HO_7; have BK247 := n0_; have HB := n1_; have HO253 := n2_; clear n0_ n1_ n2_; clear ho hb hg hat))
      go_roundg k1
      case measure => have := HK1.out; omega
      case rel => exact ⟨(y251), (wrap64 (x11_1 + 1)), rf, H', ⟨by have := HK1.out; omega⟩, ⟨rq HO253⟩, ⟨bq BK247⟩, ⟨hq HB⟩⟩
     ·
      rw [if_neg c9] at H; exact absurd H (by simp)
   ·
    rw [if_neg c7] at H; have c7b0 := decide_eq_false c7; clear c7; obtain rfl := Option.some.inj H; go_wp2
    go_ret
    exact ⟨_, rt, rq HO_7, hq HB⟩

/-! ### impl_Road_tour_3: function 78 -/
def Q17.f (a0 : Int) (a1 : Int) : Option (Int) := some (wrap64 ((wrap64 (a0 + a1)) + (mn a0 a1)))
set_option maxHeartbeats 8000000 in
set_option maxRecDepth 100000 in
theorem Q17.calls (a0 : Int) (a1 : Int) (r : Int) (w : World) (h : Q17.f a0 a1 = some r) :
    Calls Tryz.prog 78 #[.int .i64 a0, .int .i64 a1] w fun e w' => e = .returned (.int .i64 r) ∧ Below w.heap.size w w' := by
 have HB := A_ (Below.refl w.heap.size w); have H : (some (wrap64 ((wrap64 (a0 + a1)) + (mn a0 a1)))) = some r := h; clear h
 obtain ⟨ji3, hji3⟩ : ∃ j_ : Int, (mn a0 a1) = j_ := ⟨_, rfl⟩
 replace H : (some (wrap64 ((wrap64 (a0 + a1)) + (ji3)))) = some r := by first | (rw [hji3] at H; exact H) | (simp only [hji3] at H ⊢; exact H)
 have hji3_ : (if a1 < a0 then a1 else a0) = ji3 := hji3; obtain rfl := Option.some.inj H; go_enter Tryz.func78, Tryz.ntmps78
 go_wp2
 go_ret
 exact ⟨by first | rfl | (simp [errW_none, errW_some] <;> rfl) | (simp only [← hji3]; first | rfl | (simp [errW_none, errW_some] <;> rfl)) | (simp [*, errW_none, errW_some] <;> rfl), hq HB⟩

/-! ### impl_Road_tour_1: function 76 -/
def Q79.f (a0 : Int) (a1_0 : Int) (a1_1 : Bool) (a2_0 : Int) : Option (Int) := if a1_1 = true then (if a1_0 = 0 then (none) else (some (Int.tmod (wrap64 ((wrap64 (a0 - a2_0)) + a1_0)) a1_0))) else (some (wrap64 (a0 - a2_0)))
set_option maxHeartbeats 8000000 in
set_option maxRecDepth 100000 in
theorem Q79.calls (a0 : Int) (gc1 : Nat) (a1_0 : Int) (a1_1 : Bool) (gc2 : Nat) (a2_0 : Int) (r : Int) (w : World) (hb1 : w.heap[gc1]? = some (.cells #[.int .i64 a1_0, .bool a1_1] 25 (0, 0))) (hb2 : w.heap[gc2]? = some (.cells #[.int .i64 a2_0] 3 (0, 0))) (h : Q79.f a0 a1_0 a1_1 a2_0 = some r) :
    Calls Tryz.prog 76 #[.int .i64 a0, .pointer (some ⟨gc1, 0, none⟩), .pointer (some ⟨gc2, 0, none⟩)] w fun e w' => e = .returned (.int .i64 r) ∧ Drawn0 w w' := by
 have BK1 := A_ hb1; clear hb1; have BK2 := A_ hb2; clear hb2; have H : (if a1_1 = true then (if a1_0 = 0 then (none) else (some (Int.tmod (wrap64 ((wrap64 (a0 - a2_0)) + a1_0)) a1_0))) else (some (wrap64 (a0 - a2_0)))) = some r := h; clear h; by_cases c4 : a1_1 = true
 ·
  subst c4
  have H1 : (if a1_0 = 0 then (none) else (some (Int.tmod (wrap64 ((wrap64 (a0 - a2_0)) + a1_0)) a1_0))) = some r := by rw [if_pos rfl] at H; exact H
  clear H; have H := H1; clear H1; by_cases c5 : a1_0 = 0
  ·
   rw [if_pos c5] at H; exact absurd H (by simp)
  ·
   rw [if_neg c5] at H; have c5b0 : (a1_0 == 0) = false := beq_eq_false_iff_ne.mpr c5; have c5b1 : (a1_0 != 0) = true := bne_iff_ne.mpr c5; obtain rfl := Option.some.inj H; have hcz6_0 : w.cell? ⟨gc1, 0, none⟩ = some (.int .i64 a1_0) := bc BK1 0; have hcz6_1 : w.cell? ⟨gc1, 1, none⟩ = some (.bool true) := bc BK1 1; have hfz6_0 := blk_frozen BK1.out 0; have hfz6_1 := blk_frozen BK1.out 1; have hcz7_0 : w.cell? ⟨gc2, 0, none⟩ = some (.int .i64 a2_0) := bc BK2 0; have hfz7_0 := blk_frozen BK2.out 0; go_enter Tryz.func76, Tryz.ntmps76
   go_wp2
   go_ret
   exact ⟨rf, by repeat (first | exact Drawn0.refl _ | apply Drawn0.step)⟩
 ·
  replace c4 := Bool.eq_false_iff.mpr c4; subst c4
  have H1 : (some (wrap64 (a0 - a2_0))) = some r := by rw [if_neg (show ¬ (false = true) by decide)] at H; exact H
  clear H; have H := H1; clear H1; obtain rfl := Option.some.inj H; have hcz8_0 : w.cell? ⟨gc1, 0, none⟩ = some (.int .i64 a1_0) := bc BK1 0; have hcz8_1 : w.cell? ⟨gc1, 1, none⟩ = some (.bool false) := bc BK1 1; have hfz8_0 := blk_frozen BK1.out 0; have hfz8_1 := blk_frozen BK1.out 1; have hcz9_0 : w.cell? ⟨gc2, 0, none⟩ = some (.int .i64 a2_0) := bc BK2 0; have hfz9_0 := blk_frozen BK2.out 0; go_enter Tryz.func76, Tryz.ntmps76
  go_wp2
  go_ret
  exact ⟨rf, by repeat (first | exact Drawn0.refl _ | apply Drawn0.step)⟩

/-! ### impl_mapped__Road_tour_1: function 71 -/
def Q34.l0 : Nat → List Int → List Int → Int → Int → Int → Bool → Int → Option (List Int)
  | 0, _, _, _, _, _, _, _ => none
  | k + 1, x5, x9, x10, x11, x2000, x2001, x3000 => if x11 < x10 then (if 0 ≤ x11 then (if x11 < (x9.length : Int) then ((Q79.f (rd x9 x11) x2000 x2001 x3000).bind fun t258 => (if x5.length < 17592186044416 then (Q34.l0 k (x5 ++ [t258]) x9 x10 (wrap64 (x11 + 1)) x2000 x2001 x3000) else (none))) else (none)) else (none)) else (some x5)
def Q34.f (k : Nat) (l0 : List Int) (a1_0 : Int) (a1_1 : Bool) (a2_0 : Int) : Option (List Int) := Q34.l0 k (([] : List Int)) l0 (l0.length : Int) 0 a1_0 a1_1 a2_0
set_option maxHeartbeats 8000000 in
set_option maxRecDepth 100000 in
theorem Q34.calls (k : Nat) (A0 : Option Addr) (c0 : Nat) (l0 : List Int) (gc1 : Nat) (a1_0 : Int) (a1_1 : Bool) (gc2 : Nat) (a2_0 : Int) (r : List Int) (w : World) (hb1 : w.heap[gc1]? = some (.cells #[.int .i64 a1_0, .bool a1_1] 25 (0, 0))) (hb2 : w.heap[gc2]? = some (.cells #[.int .i64 a2_0] 3 (0, 0))) (hr0 : Kd.C (Kd.int .i64) w A0 l0.length l0) (hc0 : l0.length ≤ c0) (h : Q34.f k l0 a1_0 a1_1 a2_0 = some r) :
    Calls Tryz.prog 71 #[.slice A0 l0.length c0, .func (.func 76) #[] #[.pointer (some ⟨gc1, 0, none⟩), .pointer (some ⟨gc2, 0, none⟩)]] w fun e w' => ∃ v0_ : Value, e = .returned (v0_) ∧ Kd.R (Kd.int .i64) 3 w' w.heap.size (fun _ => True) v0_ r ∧ Below w.heap.size w w' := by
 have HR0 := A_ hr0; have HC0 := A_ hc0; clear hr0 hc0; have BK1 := A_ hb1; clear hb1; have BK2 := A_ hb2; clear hb2; have HB := A_ (Below.refl w.heap.size w); have H : (Q34.l0 k (([] : List Int)) l0 (l0.length : Int) 0 a1_0 a1_1 a2_0) = some r := h; clear h
 obtain ⟨y254, hy254⟩ : ∃ y_ : List Int, y_ = (([] : List Int)) := ⟨_, rfl⟩
 replace H : (Q34.l0 k y254 l0 (l0.length : Int) 0 a1_0 a1_1 a2_0) = some r := by first | (rw [hy254]; with_reducible exact H) | (have H2_ := (Option.bind_some _ _).symm.trans H; rw [hy254]; with_reducible exact H2_) | (have H2_ := (Option.bind_some _ _).symm.trans H; with_reducible exact H2_) | with_reducible exact H | (rw [hy254]; exact H) | exact H
 have Ny254 := A_ hy254; clear hy254; have H' := A_ H; clear H; go_enter Tryz.func71, Tryz.ntmps71
 go_wp2_with (first | ((with_reducible refine gate_dst (N := 8) rfl ?_); refine Kd.R_lit (Kd.int .i64) _ 3 ?hg (N := 8) ?hd (xs := ([] : List Int)) (inner := []) (ok := fun _ => True) (okp := fun _ => True) ?hr ?hp (fun _ hk => hk) trivial (Below.refl _ _) (Nat.le_refl _) (by simp) ?_; (case hd => rfl); (case hg => rfl); (case hr => first | (go_simp; done) | (go_simp; rfl)); (case hp => exact (Reps.none _ _)); intro v255 w4 ho5 hb hg_ hnew_; clear hg_ hnew_; (first | rw [← Ny254.out] at ho5 | (simp only [Int.reduceToNat] at ho5; rw [← Ny254.out] at ho5)); have HO256 := A_ (Kd.R_lower (Kd.R_newB ho5 (g := gc2) (o := .cells #[.int .i64 a2_0] 3 (0, 0)) (bq BK2)) (below_size (hq HB))); replace BK1 := A_ (blk_below (bq BK1) hb); replace BK2 := A_ (blk_below (bq BK2) hb); replace HB := A_ (below_step (hq HB) hb); clear hb ho5))
 go_loopg [5, 11] k (fun kq v5 v11 w' => ∃ (x5_1 : List Int) (x11_1 : Int), v11 = .int .i64 x11_1 ∧ Aside0 (Q34.l0 kq x5_1 l0 (l0.length : Int) x11_1 a1_0 a1_1 a2_0 = some r) ∧ Aside0 (kq ≤ k) ∧ Aside0 (Kd.R (Kd.int .i64) 3 w' w.heap.size (fun k_ => k_ ≠ gc2) v5 x5_1) ∧ Aside0 (w'.heap[gc1]? = some (.cells #[.int .i64 a1_0, .bool a1_1] 25 (0, 0))) ∧ Aside0 (w'.heap[gc2]? = some (.cells #[.int .i64 a2_0] 3 (0, 0))) ∧ Aside0 (Below w.heap.size w w'))
 case atStart => exact ⟨(y254), (0), rf, H', ⟨Nat.le_refl _⟩, ⟨by (with_reducible repeat (first | apply Kd.R_alloc | apply Kd.R_drewN | apply Kd.R_drew)); exact Kd.R_mono HO256.out (fun _ hk => hk.2)⟩, ⟨bq BK1⟩, ⟨bq BK2⟩, ⟨hq HB⟩⟩
 case round =>
  clear H'; obtain ⟨x5_1, x11_1, rfl, HA, HK1, HO_5, BK1, BK2, HB⟩ := hrel
  cases gk with
  | zero => exact absurd HA.out (by simp [Q34.l0])
  | succ k1 =>
   have H := HA.out; clear HA; simp only [Q34.l0] at H
   by_cases c6 : x11_1 < (l0.length : Int)
   ·
    rw [if_pos c6] at H; have c6b0 := decide_eq_true c6; clear c6; by_cases c7 : 0 ≤ x11_1
    ·
     rw [if_pos c7] at H; have c7b0 := decide_eq_true c7; clear c7; by_cases c8 : x11_1 < (l0.length : Int)
     ·
      rw [if_pos c8] at H; have c8b0 := decide_eq_true c8; clear c8; replace H := bm H; obtain ⟨t258, A9, H⟩ := H; by_cases c10 : x5_1.length < 17592186044416
      ·
       rw [if_pos c10] at H; have LMc10 := A_ c10; clear c10
       obtain ⟨y259, hy259⟩ : ∃ y_ : List Int, y_ = (x5_1 ++ [t258]) := ⟨_, rfl⟩
       replace H : (Q34.l0 k1 y259 l0 (l0.length : Int) (wrap64 (x11_1 + 1)) a1_0 a1_1 a2_0) = some r := by first | (rw [hy259]; with_reducible exact H) | (have H2_ := (Option.bind_some _ _).symm.trans H; rw [hy259]; with_reducible exact H2_) | (have H2_ := (Option.bind_some _ _).symm.trans H; with_reducible exact H2_) | with_reducible exact H | (rw [hy259]; exact H) | exact H
       have Ny259 := A_ hy259; clear hy259; have H' := A_ H; clear H; have p257 : 0 ≤ (x11_1 : Int) := dq; have q257 : x11_1 < (l0.length : Int) := dq; obtain ⟨ad257, e257, hx257_0⟩ := Kd.at_int HR0.out x11_1 p257 q257
       cases e257
       replace hx257_0 := (HB.out.cell (World.block_lt_of_cell? w _ hx257_0)).trans hx257_0; replace p257 := eq_true p257; replace q257 := eq_true q257; go_wp2_with (first | (go_at_call 76; (with_reducible refine (Q79.calls (rd l0 x11_1) gc1 a1_0 a1_1 gc2 a2_0 t258 _ ?side1 ?side2 A9.out).mono ?_); (case side1 => (with_reducible repeat (first | refine blk_drewN ?_ _ | refine blk_drew ?_ | refine blk_alloc ?_ _)); exact BK1.out); (case side2 => (with_reducible repeat (first | refine blk_drewN ?_ _ | refine blk_drew ?_ | refine blk_alloc ?_ _)); exact BK2.out); rintro e w' ⟨rfl, ⟨nd, rfl⟩⟩) | ((with_reducible refine gate_builtin (b := .append) (xs := #[.tmp 15, .tmp 19]) rfl ?_); at_builtin; refine Kd.R_append (Kd.int .i64) (w0 := w) w.heap.size rfl (.tmp 15) (.tmp 19) 26 3 (.int .i64 0) 8 rfl Tryz.underlying26 info3 rfl (by decide) (by omega) u5 x5_1 t258 [.int .i64 t258] (fun k_ => k_ ≠ gc2) (fun _ => False) rfl rfl ?aP (fun _ hk => hk.elim) ?aF ?aO ?aB ?aS ?aL ?_; (case aP => exact rfl); (case aB => exact (hq HB)); (case aF => exact (fun k_ hk => Kd.freshB (g := gc2) (o := .cells #[.int .i64 a2_0] 3 (0, 0)) (bq BK2) k_ hk)); (case aO => exact (rq HO_5)); (case aS => exact (below_size (hq HB))); (case aL => have := LMc10.out; omega); intro v260 w11 ho hb hg hat; rw [← Ny259.out] at ho; have n0_ := A_ (blk_grown (g := gc1) (o := .cells #[.int .i64 a1_0, .bool a1_1] 25 (0, 0)) (bq BK1) hg (Kd.R_ne HO_5.out BK1.out (by decide))); have n1_ := A_ (blk_grown (g := gc2) (o := .cells #[.int .i64 a2_0] 3 (0, 0)) (bq BK2) hg (Kd.R_away HO_5.out (fun _ hk => hk))); have n2_ := A_ (hb); have n3_ := A_ (ho); clear BK1; clear BK2; clear HB; clear HO_5; have BK1 := n0_; have BK2 := n1_; have HB := n2_; have HO261 := n3_; clear n0_ n1_ n2_ n3_; clear ho hb hg hat))
       go_roundg k1
       case measure => have := HK1.out; omega
       case rel => exact ⟨(y259), (wrap64 (x11_1 + 1)), rf, H', ⟨by have := HK1.out; omega⟩, ⟨rq HO261⟩, ⟨bq BK1⟩, ⟨bq BK2⟩, ⟨hq HB⟩⟩
      ·
       rw [if_neg c10] at H; exact absurd H (by simp)
     ·
      rw [if_neg c8] at H; exact absurd H (by simp)
    ·
     rw [if_neg c7] at H; exact absurd H (by simp)
   ·
    rw [if_neg c6] at H; have c6b0 := decide_eq_false c6; clear c6; obtain rfl := Option.some.inj H; go_wp2
    go_ret
    exact ⟨_, rt, by (with_reducible repeat (first | apply Kd.R_alloc | apply Kd.R_drewN | apply Kd.R_drew)); exact Kd.R_mono HO_5.out (fun _ hk => trivial), hq HB⟩

/-! ### impl_Road_tour_2: function 77 -/
def Q62.f (a0 : Int) : Option (Bool) := some (a0 == 0)
set_option maxHeartbeats 8000000 in
set_option maxRecDepth 100000 in
theorem Q62.calls (a0 : Int) (r : Bool) (w : World) (h : Q62.f a0 = some r) :
    Calls Tryz.prog 77 #[.int .i64 a0] w fun e w' => e = .returned (.bool r) ∧ Drawn0 w w' := by
 have H : (some (a0 == 0)) = some r := h; clear h; obtain rfl := Option.some.inj H; go_enter Tryz.func77, Tryz.ntmps77
 go_wp2
 go_ret
 exact ⟨rf, by repeat (first | exact Drawn0.refl _ | apply Drawn0.step)⟩

end Go.Proofs.YtjhppcpjobofbaaGreat.PFnExplorers
