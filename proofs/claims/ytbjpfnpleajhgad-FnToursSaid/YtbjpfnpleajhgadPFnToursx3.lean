-- Told shorter still by shrink2.py.
-- Printed, and told shorter by this session's program shrink.py.
-- Printed by this session's program myprint.py.
import Derived.Test.YtbjpfnpleajhgadPFnToursx0
import Derived.Test.YtbjpfnpleajhgadPFnToursx1
import Derived.Test.YtbjpfnpleajhgadPFnToursx2
namespace Go.Proofs.Ytbjpfnpleajhgad.PFnTours
open Go.RowKit Go.Proofs.Ytbjpfnpleajhgad.Own Go.Proofs.YtbjpfnpleajhgadW.PrintWords Go.Proofs.YtbjpfnpleajhgadW.PrintLast Go.Proofs.YtbjpfnpleajhgadW.PrintMore
attribute [local go_sem] max2_int min2_int max_two min_two max_three min_three max_four min_four   -- for this text's walks alone
set_option linter.unusedVariables false
set_option linter.unusedSimpArgs false

/-! ### slices.DeleteFunc at ints, all that are 0 taken out, by the contract that is laid from the shelf -/
def Q52.f (k : Nat) (l0 : List Int) : Option (List Int) := some (l0.filter fun x => !(x == 0))
theorem idx_tour_none : Q38.f 1 [] = some (-1) := rfl
set_option maxHeartbeats 8000000 in
set_option maxRecDepth 100000 in
theorem del_tour_none (c : Nat) (w : World) : Calls Try.prog 57 #[.slice none 0 c, .func (.func 58) #[] #[]] w fun e w' => e = .returned (.slice none 0 c) ∧ Below w.heap.size w w' := by
  have HB := A_ (Below.refl w.heap.size w)
  go_enter Try.func57, Try.ntmps57
  go_wp2_with (go_at_call 73; (refine (Q38.calls 1 none c [] (-1) _ ?side1 ?side2 idx_tour_none).mono ?_); (case side1 => exact Kd.C_nil _ _); (case side2 => exact Nat.zero_le _); rintro e w10 ⟨rfl, hb⟩; have HB2 := A_ (below_step HB.out hb); clear hb)
  go_ret
  exact ⟨rfl, HB2.out⟩
theorem pred_tour (W : World) (x : Int) : FnGives Try.prog 58 #[] #[.int .i64 x] (.bool (x == 0)) W := by
  show Calls Try.prog 58 #[.int .i64 x] W _
  refine (Q55.calls x (x == 0) W rfl).mono ?_
  rintro e w' ⟨he, hd⟩
  exact ⟨he, hd.out⟩
theorem Q52.calls (k : Nat) (P0_ : Nat → Prop) (u9000_ : Value) (l0 : List Int) (r : List Int) (w0 w : World) (hB : Below w0.heap.size w0 w) (ho0 : Kd.R (Kd.int .i64) 3 w w0.heap.size P0_ u9000_ l0) (h : Q52.f k l0 = some r) :
    Calls Try.prog 57 #[u9000_, .func (.func 58) #[] #[]] w fun e w' => ∃ v0_ : Value, e = .returned (v0_) ∧ Kd.R (Kd.int .i64) 3 w' w0.heap.size (fun k_ => (P0_ k_ ∨ w.heap.size ≤ k_)) v0_ r ∧ Below w0.heap.size w0 w' ∧ Kept w w' (fun k_ => P0_ k_) := by
 obtain rfl := Option.some.inj h; have hsz : w0.heap.size ≤ w.heap.size := hB.size; have ho := Kd.own_of_R ho0
 rcases ho.2 with ⟨hv, hz⟩ | ⟨g, cap, cur, rfl, hg, hh, hn, hm, hc, ht⟩
 ·
  have hl : l0 = [] := List.eq_nil_of_length_eq_zero hz; subst hl; subst hv; refine (del_tour_none 0 w).mono ?_; rintro e w' ⟨rfl, hb⟩; exact ⟨_, rfl, Kd.R_nil _ _ _ _ _, hB.trans (hb.mono hB.size), ⟨hb.size, fun i hi _ => hb.block i hi⟩⟩
 ·
  have hlt : g < w.heap.size := (Array.getElem?_eq_some_iff.1 hh).1; have hlen : (l0.filter fun x => !(x == 0)).length ≤ l0.length := List.length_filter_le _ _; have eg : ∀ args w, (callFunc 58 args).run Try.prog w = .ok (.enter 58 args) w := enters_of Try.func58 (by kernel_rfl) rfl; have hcon := Go.Proofs.Ytbjpfnpleajhgad.Shelf.slices_DeleteFunc (Value.int .i64) (fun _ => rfl) (fun x : Int => x == 0) 58 #[] eg 0 Try.zeroValue3 g 0 cap l0.toArray w (fun W x _ => pred_tour W x) (fun n os dk x _ => pred_tour _ x) (holds_of_blockI hh (by simpa [encs] using ht)) (by unfold maxLen at hm; simp; omega) (by simpa using hn); rw [List.size_toArray] at hcon; refine hcon.mono ?_; rintro e w' ⟨he, q, rfl⟩
  have hts : ((l0.filter fun x => !(x == 0)) ++ List.replicate (l0.length - (l0.filter fun x => !(x == 0)).length) 0).length = l0.length := by
   rw [List.length_append, List.length_replicate]; omega
  have hgr := grownBy_sortedI (w := w) (g := g) (n := q) (os := #[]) ((l0.filter fun x => !(x == 0)) ++ List.replicate (l0.length - (l0.filter fun x => !(x == 0)).length) 0).toArray; have hown := ownsRow_sortedI (n := q) (os := #[]) (ts := (l0.filter fun x => !(x == 0)) ++ List.replicate (l0.length - (l0.filter fun x => !(x == 0)).length) 0) hts hg hh hn hm hc; rw [Go.Sort.grow_empty] at hgr hown; refine ⟨_, he, Kd.R_of_own ?_ (fun k_ hk => .inl (ho0.1 k_ hk)), hB.grown hgr hsz (fun k_ e_ => by injection e_ with e_; omega), Kept.of_grown hgr (Kept.refl _ _) (fun k_ e_ => .inl (ho0.1 k_ (by injection e_ with e_; subst e_; rfl)))⟩
  rcases hown.2 with ⟨hv, _⟩ | ⟨g', cap', cur', hv, hg', hh', hn', hm', hc', ht'⟩
  ·
   exact absurd hv (by simp)
  ·
   injection hv with h1 h2 h3; injection h1 with h1; injection h1 with h1; subst h1; subst h3; refine ⟨by simp [encs], .inr ⟨g, cap, cur', rfl, hg', by first | exact hh' | simpa using hh', Nat.le_trans hlen hn', hm', hc', ?_⟩⟩; rw [Nat.mul_one] at ht'; have h5 := congrArg (List.take (l0.filter fun x => !(x == 0)).length) ht'; rw [List.take_take, Nat.min_eq_left hlen] at h5; simpa [encs] using h5

/-! ### impl_Road_tour: function 26 -/
mutual
def Q7.j0 : Nat → List Int → Int → Bool → Option (Int)
  | 0, _, _, _ => none
  | k + 1, x7, x211000, x211001 => if x211001 = true then (Q7.l1 k x7 60 (wrap64 ((x7.length : Int) + 1)) 0 x211000 x211001) else (Q7.l0 k 0 0 x7 (x7.length : Int) 0)
def Q7.l1 : Nat → List Int → Int → Int → Int → Int → Bool → Option (Int)
  | 0, _, _, _, _, _, _ => none
  | k + 1, x7, x13, x49, x50, x211000, x211001 => if x50 < x49 then (if x50 > 0 then (if 0 ≤ (wrap64 (x50 - 1)) then (if (wrap64 (x50 - 1)) < (x7.length : Int) then (if x50 < (x7.length : Int) then (if 0 ≤ x50 then ((Q24.f (rd x7 (wrap64 (x50 - 1))) (wrap64 (x211000 - (rd x7 x50)))).bind fun t223 => (Q7.l1 k x7 (mn x13 t223) x49 (wrap64 (x50 + 1)) x211000 x211001)) else (none)) else ((Q24.f (rd x7 (wrap64 (x50 - 1))) 0).bind fun t224 => (Q7.l1 k x7 (mn x13 t224) x49 (wrap64 (x50 + 1)) x211000 x211001))) else (none)) else (none)) else (if x50 < (x7.length : Int) then (if 0 ≤ x50 then ((Q24.f 0 (wrap64 (x211000 - (rd x7 x50)))).bind fun t226 => (Q7.l1 k x7 (mn x13 t226) x49 (wrap64 (x50 + 1)) x211000 x211001)) else (none)) else ((Q24.f 0 0).bind fun t227 => (Q7.l1 k x7 (mn x13 t227) x49 (wrap64 (x50 + 1)) x211000 x211001)))) else (some x13)
def Q7.l0 : Nat → Int → Int → List Int → Int → Int → Option (Int)
  | 0, _, _, _, _, _ => none
  | k + 1, x9, x10, x29, x30, x31 => if x31 < x30 then (if 0 ≤ x31 then (if x31 < (x29.length : Int) then (Q7.l0 k (mx x9 (rd x29 x31)) (mx x10 (wrap64 (-(rd x29 x31)))) x29 x30 (wrap64 (x31 + 1))) else (none)) else (none)) else ((Q24.f x9 x10).bind fun t220 => (some t220))
end
def Q7.f (k : Nat) (a0_0 : Int) (a0_1 : Bool) (a1 : Int) (l2 : List Int) : Option (Int) := (Q34.f k l2 a0_0 a0_1 a1).bind fun t212 => ((Q51.f k t212).bind fun t215 => (if a0_1 = true then ((Q52.f k t215).bind fun t216 => (Q7.j0 k t216 a0_0 a0_1)) else (Q7.j0 k t215 a0_0 a0_1)))
set_option maxHeartbeats 8000000 in
set_option maxRecDepth 100000 in
theorem Q7.calls (k : Nat) (a0_0 : Int) (a0_1 : Bool) (a1 : Int) (A2 : Option Addr) (c2 : Nat) (l2 : List Int) (r : Int) (w : World) (hr2 : Kd.C (Kd.int .i64) w A2 l2.length l2) (hc2 : l2.length ≤ c2) (h : Q7.f k a0_0 a0_1 a1 l2 = some r) :
    Calls Try.prog 26 #[.agg #[.int .i64 a0_0, .bool a0_1], .int .i64 a1, .slice A2 l2.length c2] w fun e w' => e = .returned (.int .i64 r) ∧ Below w.heap.size w w' := by
 have hu25 := Try.underlying25; have HR2 := A_ hr2; have HC2 := A_ hc2; clear hr2 hc2; have HB := A_ (Below.refl w.heap.size w); have H : ((Q34.f k l2 a0_0 a0_1 a1).bind fun t212 => ((Q51.f k t212).bind fun t215 => (if a0_1 = true then ((Q52.f k t215).bind fun t216 => (Q7.j0 k t216 a0_0 a0_1)) else (Q7.j0 k t215 a0_0 a0_1)))) = some r := h; clear h; replace H := bm H; obtain ⟨t212, A4, H⟩ := H; replace H := bm H; obtain ⟨t215, A5, H⟩ := H; have HC6 := A_ H; clear H; go_enter Try.func26, Try.ntmps26
 go_upto_if 23 with (first | ((with_reducible refine gate_dst (N := 3) rfl ?_); refine bx (N := 3) #[.int .i64 a0_0, .bool a0_1] 25 ?_; intro gb210 hg w7 hbox hb; have BK210 := A_ (hbox); have GW210 := A_ (bs hg (hq HB) : w.heap.size ≤ gb210); have GE210 := A_ (bs hg (hq HB) : w.heap.size ≤ gb210); replace HB := A_ (below_step (hq HB) hb); clear hb hbox hg) | ((with_reducible refine gate_dst (N := 4) rfl ?_); refine bx (N := 4) #[.int .i64 a1] 3 ?_; intro gb211 hg w8 hbox hb; have BK211 := A_ (hbox); have GW211 := A_ (bs hg (hq HB) : w.heap.size ≤ gb211); have GE211 := A_ (bs hg (hq HB) : w.heap.size ≤ gb211); replace HB := A_ (below_step (hq HB) hb); have NB210_211 := A_ ((by rw [hg]; exact Nat.ne_of_lt (blk_lt (bq BK210)) : gb210 ≠ gb211)); have NB211_210 := A_ ((by rw [hg]; exact Nat.ne_of_gt (blk_lt (bq BK210)) : gb211 ≠ gb210)); replace BK210 := A_ (blk_below (bq BK210) hb); clear hb hbox hg) | (go_at_call 54; (with_reducible refine (Q34.calls k _ _ l2 gb210 a0_0 a0_1 gb211 a1 t212 _ ?side1 ?side2 ?side3 ?side4 A4.out).mono ?_); (case side1 => (with_reducible repeat (first | refine blk_drewN ?_ _ | refine blk_drew ?_ | refine blk_alloc ?_ _)); exact BK210.out); (case side2 => (with_reducible repeat (first | refine blk_drewN ?_ _ | refine blk_drew ?_ | refine blk_alloc ?_ _)); exact BK211.out); (case side3 => exact cq (Kd.C_below HR2.out HB.out)); (case side4 => exact HC2.out); rintro e w9 ⟨v213, rfl, ho0, hb⟩; have HO214 := A_ (Kd.R_lower (Kd.R_newB ho0 (g := gb211) (o := .cells #[.int .i64 a1] 3 (0, 0)) (bq BK211)) (below_size (hq HB))); replace BK210 := A_ (blk_below (bq BK210) hb); replace BK211 := A_ (blk_below (bq BK211) hb); replace HB := A_ (below_step (hq HB) hb); clear hb ho0; obtain ⟨Ao10, co10, eo10⟩ := Kd.R_slice HO214.out; subst eo10) | (go_at_call 56; (with_reducible refine (Q51.calls k (fun k_ => some k_ = (.slice Ao10 t212.length co10 : Value).ownBlock) (.slice Ao10 t212.length co10) t212 t215 w _ ?side1 ?side2 A5.out).mono ?_); (case side1 => repeat (first | (with_reducible first | exact HB.out | apply below_alloc | apply pw_below_drewN | apply below_drew1 | refine below_set ?_ GE210.out | refine below_set ?_ GE211.out) | exact HB.out)); (case side2 => exact Kd.R_tight rfl HO214.out); rintro e w11 ⟨rfl, hy0, hb, hkp⟩; replace BK210 := A_ (blk_kept (bq BK210) hkp (fun hs_ => (fun e_ => (Kd.R_ne HO214.out BK210.out (by decide)) e_) hs_)); replace BK211 := A_ (blk_kept (bq BK211) hkp (fun hs_ => (fun e_ => (Kd.R_away HO214.out (fun _ hk => hk.2)) e_) hs_)); replace HO214 := A_ (Kd.R_reok rfl hy0 (fun k_ e_ => HO214.out.1 k_ e_)); replace HB := A_ (hb); clear hb hkp hy0; have hnb12 := NB210_211.out; have hnc12 := NB211_210.out; have hcz13_0 : w11.cell? ⟨gb210, 0, none⟩ = some (.int .i64 a0_0) := bc BK210 0; have hcz13_1 : w11.cell? ⟨gb210, 1, none⟩ = some (.bool a0_1) := bc BK210 1; have hfz13_0 := blk_frozen BK210.out 0; have hfz13_1 := blk_frozen BK210.out 1))
 repeat (go_quiet (first | ((with_reducible refine gate_dst (N := 3) rfl ?_); refine bx (N := 3) #[.int .i64 a0_0, .bool a0_1] 25 ?_; intro gb210 hg w7 hbox hb; have BK210 := A_ (hbox); have GW210 := A_ (bs hg (hq HB) : w.heap.size ≤ gb210); have GE210 := A_ (bs hg (hq HB) : w.heap.size ≤ gb210); replace HB := A_ (below_step (hq HB) hb); clear hb hbox hg) | ((with_reducible refine gate_dst (N := 4) rfl ?_); refine bx (N := 4) #[.int .i64 a1] 3 ?_; intro gb211 hg w8 hbox hb; have BK211 := A_ (hbox); have GW211 := A_ (bs hg (hq HB) : w.heap.size ≤ gb211); have GE211 := A_ (bs hg (hq HB) : w.heap.size ≤ gb211); replace HB := A_ (below_step (hq HB) hb); have NB210_211 := A_ ((by rw [hg]; exact Nat.ne_of_lt (blk_lt (bq BK210)) : gb210 ≠ gb211)); have NB211_210 := A_ ((by rw [hg]; exact Nat.ne_of_gt (blk_lt (bq BK210)) : gb211 ≠ gb210)); replace BK210 := A_ (blk_below (bq BK210) hb); clear hb hbox hg) | (go_at_call 54; (with_reducible refine (Q34.calls k _ _ l2 gb210 a0_0 a0_1 gb211 a1 t212 _ ?side1 ?side2 ?side3 ?side4 A4.out).mono ?_); (case side1 => (with_reducible repeat (first | refine blk_drewN ?_ _ | refine blk_drew ?_ | refine blk_alloc ?_ _)); exact BK210.out); (case side2 => (with_reducible repeat (first | refine blk_drewN ?_ _ | refine blk_drew ?_ | refine blk_alloc ?_ _)); exact BK211.out); (case side3 => exact cq (Kd.C_below HR2.out HB.out)); (case side4 => exact HC2.out); rintro e w9 ⟨v213, rfl, ho0, hb⟩; have HO214 := A_ (Kd.R_lower (Kd.R_newB ho0 (g := gb211) (o := .cells #[.int .i64 a1] 3 (0, 0)) (bq BK211)) (below_size (hq HB))); replace BK210 := A_ (blk_below (bq BK210) hb); replace BK211 := A_ (blk_below (bq BK211) hb); replace HB := A_ (below_step (hq HB) hb); clear hb ho0; obtain ⟨Ao10, co10, eo10⟩ := Kd.R_slice HO214.out; subst eo10) | (go_at_call 56; (with_reducible refine (Q51.calls k (fun k_ => some k_ = (.slice Ao10 t212.length co10 : Value).ownBlock) (.slice Ao10 t212.length co10) t212 t215 w _ ?side1 ?side2 A5.out).mono ?_); (case side1 => repeat (first | (with_reducible first | exact HB.out | apply below_alloc | apply pw_below_drewN | apply below_drew1 | refine below_set ?_ GE210.out | refine below_set ?_ GE211.out) | exact HB.out)); (case side2 => exact Kd.R_tight rfl HO214.out); rintro e w11 ⟨rfl, hy0, hb, hkp⟩; replace BK210 := A_ (blk_kept (bq BK210) hkp (fun hs_ => (fun e_ => (Kd.R_ne HO214.out BK210.out (by decide)) e_) hs_)); replace BK211 := A_ (blk_kept (bq BK211) hkp (fun hs_ => (fun e_ => (Kd.R_away HO214.out (fun _ hk => hk.2)) e_) hs_)); replace HO214 := A_ (Kd.R_reok rfl hy0 (fun k_ e_ => HO214.out.1 k_ e_)); replace HB := A_ (hb); clear hb hkp hy0; have hnb12 := NB210_211.out; have hnc12 := NB211_210.out; have hcz13_0 : w11.cell? ⟨gb210, 0, none⟩ = some (.int .i64 a0_0) := bc BK210 0; have hcz13_1 : w11.cell? ⟨gb210, 1, none⟩ = some (.bool a0_1) := bc BK210 1; have hfz13_0 := blk_frozen BK210.out 0; have hfz13_1 := blk_frozen BK210.out 1)); go_upto_if 23 with (first | ((with_reducible refine gate_dst (N := 3) rfl ?_); refine bx (N := 3) #[.int .i64 a0_0, .bool a0_1] 25 ?_; intro gb210 hg w7 hbox hb; have BK210 := A_ (hbox); have GW210 := A_ (bs hg (hq HB) : w.heap.size ≤ gb210); have GE210 := A_ (bs hg (hq HB) : w.heap.size ≤ gb210); replace HB := A_ (below_step (hq HB) hb); clear hb hbox hg) | ((with_reducible refine gate_dst (N := 4) rfl ?_); refine bx (N := 4) #[.int .i64 a1] 3 ?_; intro gb211 hg w8 hbox hb; have BK211 := A_ (hbox); have GW211 := A_ (bs hg (hq HB) : w.heap.size ≤ gb211); have GE211 := A_ (bs hg (hq HB) : w.heap.size ≤ gb211); replace HB := A_ (below_step (hq HB) hb); have NB210_211 := A_ ((by rw [hg]; exact Nat.ne_of_lt (blk_lt (bq BK210)) : gb210 ≠ gb211)); have NB211_210 := A_ ((by rw [hg]; exact Nat.ne_of_gt (blk_lt (bq BK210)) : gb211 ≠ gb210)); replace BK210 := A_ (blk_below (bq BK210) hb); clear hb hbox hg) | (go_at_call 54; (with_reducible refine (Q34.calls k _ _ l2 gb210 a0_0 a0_1 gb211 a1 t212 _ ?side1 ?side2 ?side3 ?side4 A4.out).mono ?_); (case side1 => (with_reducible repeat (first | refine blk_drewN ?_ _ | refine blk_drew ?_ | refine blk_alloc ?_ _)); exact BK210.out); (case side2 => (with_reducible repeat (first | refine blk_drewN ?_ _ | refine blk_drew ?_ | refine blk_alloc ?_ _)); exact BK211.out); (case side3 => exact cq (Kd.C_below HR2.out HB.out)); (case side4 => exact HC2.out); rintro e w9 ⟨v213, rfl, ho0, hb⟩; have HO214 := A_ (Kd.R_lower (Kd.R_newB ho0 (g := gb211) (o := .cells #[.int .i64 a1] 3 (0, 0)) (bq BK211)) (below_size (hq HB))); replace BK210 := A_ (blk_below (bq BK210) hb); replace BK211 := A_ (blk_below (bq BK211) hb); replace HB := A_ (below_step (hq HB) hb); clear hb ho0; obtain ⟨Ao10, co10, eo10⟩ := Kd.R_slice HO214.out; subst eo10) | (go_at_call 56; (with_reducible refine (Q51.calls k (fun k_ => some k_ = (.slice Ao10 t212.length co10 : Value).ownBlock) (.slice Ao10 t212.length co10) t212 t215 w _ ?side1 ?side2 A5.out).mono ?_); (case side1 => repeat (first | (with_reducible first | exact HB.out | apply below_alloc | apply pw_below_drewN | apply below_drew1 | refine below_set ?_ GE210.out | refine below_set ?_ GE211.out) | exact HB.out)); (case side2 => exact Kd.R_tight rfl HO214.out); rintro e w11 ⟨rfl, hy0, hb, hkp⟩; replace BK210 := A_ (blk_kept (bq BK210) hkp (fun hs_ => (fun e_ => (Kd.R_ne HO214.out BK210.out (by decide)) e_) hs_)); replace BK211 := A_ (blk_kept (bq BK211) hkp (fun hs_ => (fun e_ => (Kd.R_away HO214.out (fun _ hk => hk.2)) e_) hs_)); replace HO214 := A_ (Kd.R_reok rfl hy0 (fun k_ e_ => HO214.out.1 k_ e_)); replace HB := A_ (hb); clear hb hkp hy0; have hnb12 := NB210_211.out; have hnc12 := NB211_210.out; have hcz13_0 : w11.cell? ⟨gb210, 0, none⟩ = some (.int .i64 a0_0) := bc BK210 0; have hcz13_1 : w11.cell? ⟨gb210, 1, none⟩ = some (.bool a0_1) := bc BK210 1; have hfz13_0 := blk_frozen BK210.out 0; have hfz13_1 := blk_frozen BK210.out 1)))
 (try simp only [Act.put, List.setIfInBounds_toArray, List.set_cons_zero, List.set_cons_succ]); go_cut [7] (fun v7 wc => ∃ (kq : Nat) (x7_5 : List Int), Aside0 (Q7.j0 kq x7_5 a0_0 a0_1 = some r) ∧ Aside0 (kq ≤ k) ∧ Aside0 (Kd.R (Kd.int .i64) 3 wc w.heap.size (fun k_ => k_ ≠ gb211) v7 x7_5) ∧ Aside0 (wc.heap[gb210]? = some (.cells #[.int .i64 a0_0, .bool a0_1] 25 (0, 0))) ∧ Aside0 (wc.heap[gb211]? = some (.cells #[.int .i64 a1] 3 (0, 0))) ∧ Aside0 (Below w.heap.size w wc))
 case first =>
  have H := HC6.out; clear HC6; by_cases c14 : a0_1 = true
  ·
   subst c14
   have H1 : ((Q52.f k t215).bind fun t216 => (Q7.j0 k t216 a0_0 true)) = some r := by rw [if_pos rfl] at H; exact H
   clear H; have H := H1; clear H1; replace H := bm H; obtain ⟨t216, A15, H⟩ := H; have H' := A_ H; clear H; go_wp2_with (first | (go_at_call 57; (with_reducible refine (Q52.calls k (fun k_ => some k_ = (.slice Ao10 t212.length co10 : Value).ownBlock) (.slice Ao10 t212.length co10) t215 t216 w _ ?side1 ?side2 A15.out).mono ?_); (case side1 => repeat (first | (with_reducible first | exact HB.out | apply below_alloc | apply pw_below_drewN | apply below_drew1 | refine below_set ?_ GE210.out | refine below_set ?_ GE211.out) | exact HB.out)); (case side2 => exact Kd.R_tight rfl HO214.out); rintro e w16 ⟨v217, rfl, ho0, hb, hkp⟩; have n0_ := A_ (blk_kept (bq BK210) hkp (fun hs_ => (fun e_ => (Kd.R_ne HO214.out BK210.out (by decide)) e_) hs_)); have n1_ := A_ (blk_kept (bq BK211) hkp (fun hs_ => (fun e_ => (Kd.R_away HO214.out (fun _ hk => hk.2)) e_) hs_)); have n2_ := A_ (Kd.R_mono (ok' := fun k_ => k_ ≠ gb211) ho0 (fun k_ hk_ => Or.elim hk_ (fun hs_ => fun e_ => (Kd.R_away HO214.out (fun _ hk => hk.2)) (by rw [← e_]; exact hs_)) (fun hn_ => (Kd.freshB (g := gb211) (o := .cells #[.int .i64 a1] 3 (0, 0)) (bq BK211) k_ hn_)))); have n3_ := A_ (hb); clear BK210; clear BK211; clear HB; clear HO214; have BK210 := n0_; have BK211 := n1_; have HO218 := n2_; have HB := n3_; clear n0_ n1_ n2_ n3_; clear hb hkp ho0))
   repeat (go_quiet (first | (go_at_call 57; (with_reducible refine (Q52.calls k (fun k_ => some k_ = (.slice Ao10 t212.length co10 : Value).ownBlock) (.slice Ao10 t212.length co10) t215 t216 w _ ?side1 ?side2 A15.out).mono ?_); (case side1 => repeat (first | (with_reducible first | exact HB.out | apply below_alloc | apply pw_below_drewN | apply below_drew1 | refine below_set ?_ GE210.out | refine below_set ?_ GE211.out) | exact HB.out)); (case side2 => exact Kd.R_tight rfl HO214.out); rintro e w16 ⟨v217, rfl, ho0, hb, hkp⟩; have n0_ := A_ (blk_kept (bq BK210) hkp (fun hs_ => (fun e_ => (Kd.R_ne HO214.out BK210.out (by decide)) e_) hs_)); have n1_ := A_ (blk_kept (bq BK211) hkp (fun hs_ => (fun e_ => (Kd.R_away HO214.out (fun _ hk => hk.2)) e_) hs_)); have n2_ := A_ (Kd.R_mono (ok' := fun k_ => k_ ≠ gb211) ho0 (fun k_ hk_ => Or.elim hk_ (fun hs_ => fun e_ => (Kd.R_away HO214.out (fun _ hk => hk.2)) (by rw [← e_]; exact hs_)) (fun hn_ => (Kd.freshB (g := gb211) (o := .cells #[.int .i64 a1] 3 (0, 0)) (bq BK211) k_ hn_)))); have n3_ := A_ (hb); clear BK210; clear BK211; clear HB; clear HO214; have BK210 := n0_; have BK211 := n1_; have HO218 := n2_; have HB := n3_; clear n0_ n1_ n2_ n3_; clear hb hkp ho0)); try go_wp2_with (first | (go_at_call 57; (with_reducible refine (Q52.calls k (fun k_ => some k_ = (.slice Ao10 t212.length co10 : Value).ownBlock) (.slice Ao10 t212.length co10) t215 t216 w _ ?side1 ?side2 A15.out).mono ?_); (case side1 => repeat (first | (with_reducible first | exact HB.out | apply below_alloc | apply pw_below_drewN | apply below_drew1 | refine below_set ?_ GE210.out | refine below_set ?_ GE211.out) | exact HB.out)); (case side2 => exact Kd.R_tight rfl HO214.out); rintro e w16 ⟨v217, rfl, ho0, hb, hkp⟩; have n0_ := A_ (blk_kept (bq BK210) hkp (fun hs_ => (fun e_ => (Kd.R_ne HO214.out BK210.out (by decide)) e_) hs_)); have n1_ := A_ (blk_kept (bq BK211) hkp (fun hs_ => (fun e_ => (Kd.R_away HO214.out (fun _ hk => hk.2)) e_) hs_)); have n2_ := A_ (Kd.R_mono (ok' := fun k_ => k_ ≠ gb211) ho0 (fun k_ hk_ => Or.elim hk_ (fun hs_ => fun e_ => (Kd.R_away HO214.out (fun _ hk => hk.2)) (by rw [← e_]; exact hs_)) (fun hn_ => (Kd.freshB (g := gb211) (o := .cells #[.int .i64 a1] 3 (0, 0)) (bq BK211) k_ hn_)))); have n3_ := A_ (hb); clear BK210; clear BK211; clear HB; clear HO214; have BK210 := n0_; have BK211 := n1_; have HO218 := n2_; have HB := n3_; clear n0_ n1_ n2_ n3_; clear hb hkp ho0)))
   go_meet
   case rel => exact ⟨_, (t216), H', ⟨by first | omega | exact Nat.le_refl _⟩, ⟨rq HO218⟩, ⟨bq BK210⟩, ⟨bq BK211⟩, ⟨hq HB⟩⟩
  ·
   replace c14 := Bool.eq_false_iff.mpr c14; subst c14
   have H1 : (Q7.j0 k t215 a0_0 false) = some r := by rw [if_neg (show ¬ (false = true) by decide)] at H; exact H
   clear H; have H := H1; clear H1; have H' := A_ H; clear H; go_wp2
   repeat (go_quiet (fail); try go_wp2)
   go_meet
   case rel => exact ⟨_, (t215), H', ⟨by first | omega | exact Nat.le_refl _⟩, ⟨by (with_reducible repeat (first | apply Kd.R_alloc | apply Kd.R_drewN | apply Kd.R_drew)); exact Kd.R_mono HO214.out (fun _ hk => hk.2)⟩, ⟨bq BK210⟩, ⟨bq BK211⟩, ⟨hq HB⟩⟩
 case rest =>
  clear HC6; (try clear c14); (try clear hcz13_0); (try clear hcz13_1); (try clear hfz13_0); (try clear hfz13_1); obtain ⟨kq, x7_5, HA, HJ5, HO_7, BK210, BK211, HB⟩ := hcut
  cases kq with
  | zero => exact absurd HA.out (by simp [Q7.j0])
  | succ kj5 =>
   have H := HA.out; clear HA; simp only [Q7.j0] at H
   by_cases c17 : a0_1 = true
   ·
    subst c17
    have H1 : (Q7.l1 kj5 x7_5 60 (wrap64 ((x7_5.length : Int) + 1)) 0 a0_0 true) = some r := by rw [if_pos rfl] at H; exact H
    clear H; have H := H1; clear H1; have H' := A_ H; clear H; have hnb18 := NB210_211.out; have hnc18 := NB211_210.out; have hcz19_0 : wc.cell? ⟨gb210, 0, none⟩ = some (.int .i64 a0_0) := bc BK210 0; have hcz19_1 : wc.cell? ⟨gb210, 1, none⟩ = some (.bool true) := bc BK210 1; have hfz19_0 := blk_frozen BK210.out 0; have hfz19_1 := blk_frozen BK210.out 1; obtain ⟨Ao20, co20, eo20⟩ := Kd.R_slice HO_7.out; subst eo20; go_wp2
    repeat (go_quiet (fail); try go_wp2)
    go_loopg [13, 50] kj5 (fun kq v13 v50 w' => ∃ (x13_2 : Int) (x50_2 : Int), v13 = .int .i64 x13_2 ∧ v50 = .int .i64 x50_2 ∧ Aside0 (Q7.l1 kq x7_5 x13_2 (wrap64 ((x7_5.length : Int) + 1)) x50_2 a0_0 true = some r) ∧ Aside0 (kq ≤ kj5) ∧ Aside0 (Kd.R (Kd.int .i64) 3 w' w.heap.size (fun k_ => k_ ≠ gb211) (.slice Ao20 x7_5.length co20) x7_5) ∧ Aside0 (w'.heap[gb210]? = some (.cells #[.int .i64 a0_0, .bool true] 25 (0, 0))) ∧ Aside0 (w'.heap[gb211]? = some (.cells #[.int .i64 a1] 3 (0, 0))) ∧ Aside0 (Below w.heap.size w w'))
    case atStart => exact ⟨(60), (0), rf, rf, H', ⟨Nat.le_refl _⟩, ⟨rq HO_7⟩, ⟨bq BK210⟩, ⟨bq BK211⟩, ⟨hq HB⟩⟩
    case round =>
     clear H'; (try clear c14); (try clear c17); (try clear hcz13_0); (try clear hcz13_1); (try clear hcz19_0); (try clear hcz19_1); (try clear hfz13_0); (try clear hfz13_1); (try clear hfz19_0); (try clear hfz19_1); obtain ⟨x13_2, x50_2, rfl, rfl, HA, HK2, HO_7, BK210, BK211, HB⟩ := hrel
     cases gk with
     | zero => exact absurd HA.out (by simp [Q7.l1])
     | succ k2 =>
      have H := HA.out; clear HA; simp only [Q7.l1] at H
      by_cases c21 : x50_2 < (wrap64 ((x7_5.length : Int) + 1))
      ·
       rw [if_pos c21] at H; have c21b0 := decide_eq_true c21; clear c21; by_cases c22 : x50_2 > 0
       ·
        rw [if_pos c22] at H; have c22b0 : decide (0 < x50_2) = true := decide_eq_true c22; clear c22
        obtain ⟨ji23, hji23⟩ : ∃ j_ : Int, (wrap64 (x50_2 - 1)) = j_ := ⟨_, rfl⟩
        replace H : (if 0 ≤ (ji23) then (if (ji23) < (x7_5.length : Int) then (if x50_2 < (x7_5.length : Int) then (if 0 ≤ x50_2 then ((Q24.f (rd x7_5 (ji23)) (wrap64 (a0_0 - (rd x7_5 x50_2)))).bind fun t223 => (Q7.l1 k2 x7_5 (mn x13_2 t223) (wrap64 ((x7_5.length : Int) + 1)) (wrap64 (x50_2 + 1)) a0_0 true)) else (none)) else ((Q24.f (rd x7_5 (ji23)) 0).bind fun t224 => (Q7.l1 k2 x7_5 (mn x13_2 t224) (wrap64 ((x7_5.length : Int) + 1)) (wrap64 (x50_2 + 1)) a0_0 true))) else (none)) else (none)) = some r := by first | (rw [hji23] at H; exact H) | (simp only [hji23] at H ⊢; exact H)
        have hji23w : (IntKind.i64.wrap (x50_2 - 1)) = ji23 := (i64_w _).trans hji23; by_cases c24 : 0 ≤ (ji23)
        ·
         rw [if_pos c24] at H; have c24b0 := decide_eq_true c24; clear c24; by_cases c25 : (ji23) < (x7_5.length : Int)
         ·
          rw [if_pos c25] at H; have c25b0 := decide_eq_true c25; clear c25; by_cases c26 : x50_2 < (x7_5.length : Int)
          ·
           rw [if_pos c26] at H; have c26b0 := decide_eq_true c26; clear c26; by_cases c27 : 0 ≤ x50_2
           ·
            rw [if_pos c27] at H; have c27b0 := decide_eq_true c27; clear c27; replace H := bm H; obtain ⟨t223, A28, H⟩ := H
            obtain ⟨ji29, hji29⟩ : ∃ j_ : Int, (mn x13_2 t223) = j_ := ⟨_, rfl⟩
            replace H : (Q7.l1 k2 x7_5 ji29 (wrap64 ((x7_5.length : Int) + 1)) (wrap64 (x50_2 + 1)) a0_0 true) = some r := by first | (rw [hji29] at H; exact H) | (simp only [hji29] at H ⊢; exact H)
            (try rw [hji29] at A28); have hji29_ : (if t223 < x13_2 then t223 else x13_2) = ji29 := hji29; have H' := A_ H; clear H; have p221 : 0 ≤ ((ji23) : Int) := dq; have q221 : (ji23) < (x7_5.length : Int) := dq; obtain ⟨ad221, e221, hx221_0⟩ := Kd.at_int (Kd.R_reads' HO_7.out).2.2 (ji23) p221 q221
            cases e221
            replace p221 := eq_true p221; replace q221 := eq_true q221; have hnb30 := NB210_211.out; have hnc30 := NB211_210.out; have hcz31_0 : wr.cell? ⟨gb210, 0, none⟩ = some (.int .i64 a0_0) := bc BK210 0; have hcz31_1 : wr.cell? ⟨gb210, 1, none⟩ = some (.bool true) := bc BK210 1; have hfz31_0 := blk_frozen BK210.out 0; have hfz31_1 := blk_frozen BK210.out 1; have p222 : 0 ≤ (x50_2 : Int) := dq; have q222 : x50_2 < (x7_5.length : Int) := dq; obtain ⟨ad222, e222, hx222_0⟩ := Kd.at_int (Kd.R_reads' HO_7.out).2.2 x50_2 p222 q222
            obtain rfl : ad221 = ad222 := (by injection e222)
            replace p222 := eq_true p222; replace q222 := eq_true q222; go_wp2_with (first | (go_at_call 59; (with_reducible refine (Q24.calls (rd x7_5 (ji23)) (wrap64 (a0_0 - (rd x7_5 x50_2))) t223 _ A28.out).mono ?_); rintro e w32 ⟨rfl, hb⟩; replace HO_7 := A_ (Kd.R_below (rq HO_7) hb); replace BK210 := A_ (blk_below (bq BK210) hb); replace BK211 := A_ (blk_below (bq BK211) hb); replace HB := A_ (below_step (hq HB) hb); clear hb))
            repeat (go_quiet (first | (go_at_call 59; (with_reducible refine (Q24.calls (rd x7_5 (ji23)) (wrap64 (a0_0 - (rd x7_5 x50_2))) t223 _ A28.out).mono ?_); rintro e w32 ⟨rfl, hb⟩; replace HO_7 := A_ (Kd.R_below (rq HO_7) hb); replace BK210 := A_ (blk_below (bq BK210) hb); replace BK211 := A_ (blk_below (bq BK211) hb); replace HB := A_ (below_step (hq HB) hb); clear hb)); try go_wp2_with (first | (go_at_call 59; (with_reducible refine (Q24.calls (rd x7_5 (ji23)) (wrap64 (a0_0 - (rd x7_5 x50_2))) t223 _ A28.out).mono ?_); rintro e w32 ⟨rfl, hb⟩; replace HO_7 := A_ (Kd.R_below (rq HO_7) hb); replace BK210 := A_ (blk_below (bq BK210) hb); replace BK211 := A_ (blk_below (bq BK211) hb); replace HB := A_ (below_step (hq HB) hb); clear hb)))
            go_roundg k2
            case measure => have := HJ5.out; have := HK2.out; omega
            case rel => exact ⟨(ji29), (wrap64 (x50_2 + 1)), (by first | rfl | (simp; done) | (simp only [← hji29] <;> (first | rfl | simp)) | (simp [*]; done)), rf, H', ⟨by have := HJ5.out; have := HK2.out; omega⟩, ⟨rq HO_7⟩, ⟨bq BK210⟩, ⟨bq BK211⟩, ⟨hq HB⟩⟩
           ·
            rw [if_neg c27] at H; exact absurd H (by simp)
          ·
           rw [if_neg c26] at H; have c26b0 := decide_eq_false c26; clear c26; replace H := bm H; obtain ⟨t224, A33, H⟩ := H
           obtain ⟨ji34, hji34⟩ : ∃ j_ : Int, (mn x13_2 t224) = j_ := ⟨_, rfl⟩
           replace H : (Q7.l1 k2 x7_5 ji34 (wrap64 ((x7_5.length : Int) + 1)) (wrap64 (x50_2 + 1)) a0_0 true) = some r := by first | (rw [hji34] at H; exact H) | (simp only [hji34] at H ⊢; exact H)
           (try rw [hji34] at A33); have hji34_ : (if t224 < x13_2 then t224 else x13_2) = ji34 := hji34; have H' := A_ H; clear H; have p221 : 0 ≤ ((ji23) : Int) := dq; have q221 : (ji23) < (x7_5.length : Int) := dq; obtain ⟨ad221, e221, hx221_0⟩ := Kd.at_int (Kd.R_reads' HO_7.out).2.2 (ji23) p221 q221
           cases e221
           replace p221 := eq_true p221; replace q221 := eq_true q221; go_wp2_with (first | (go_at_call 59; (with_reducible refine (Q24.calls (rd x7_5 (ji23)) 0 t224 _ A33.out).mono ?_); rintro e w35 ⟨rfl, hb⟩; replace HO_7 := A_ (Kd.R_below (rq HO_7) hb); replace BK210 := A_ (blk_below (bq BK210) hb); replace BK211 := A_ (blk_below (bq BK211) hb); replace HB := A_ (below_step (hq HB) hb); clear hb))
           repeat (go_quiet (first | (go_at_call 59; (with_reducible refine (Q24.calls (rd x7_5 (ji23)) 0 t224 _ A33.out).mono ?_); rintro e w35 ⟨rfl, hb⟩; replace HO_7 := A_ (Kd.R_below (rq HO_7) hb); replace BK210 := A_ (blk_below (bq BK210) hb); replace BK211 := A_ (blk_below (bq BK211) hb); replace HB := A_ (below_step (hq HB) hb); clear hb)); try go_wp2_with (first | (go_at_call 59; (with_reducible refine (Q24.calls (rd x7_5 (ji23)) 0 t224 _ A33.out).mono ?_); rintro e w35 ⟨rfl, hb⟩; replace HO_7 := A_ (Kd.R_below (rq HO_7) hb); replace BK210 := A_ (blk_below (bq BK210) hb); replace BK211 := A_ (blk_below (bq BK211) hb); replace HB := A_ (below_step (hq HB) hb); clear hb)))
           go_roundg k2
           case measure => have := HJ5.out; have := HK2.out; omega
           case rel => exact ⟨(ji34), (wrap64 (x50_2 + 1)), (by first | rfl | (simp; done) | (simp only [← hji34] <;> (first | rfl | simp)) | (simp [*]; done)), rf, H', ⟨by have := HJ5.out; have := HK2.out; omega⟩, ⟨rq HO_7⟩, ⟨bq BK210⟩, ⟨bq BK211⟩, ⟨hq HB⟩⟩
         ·
          rw [if_neg c25] at H; exact absurd H (by simp)
        ·
         rw [if_neg c24] at H; exact absurd H (by simp)
       ·
        rw [if_neg c22] at H; have c22b0 : decide (0 < x50_2) = false := decide_eq_false c22; clear c22; by_cases c36 : x50_2 < (x7_5.length : Int)
        ·
         rw [if_pos c36] at H; have c36b0 := decide_eq_true c36; clear c36; by_cases c37 : 0 ≤ x50_2
         ·
          rw [if_pos c37] at H; have c37b0 := decide_eq_true c37; clear c37; replace H := bm H; obtain ⟨t226, A38, H⟩ := H
          obtain ⟨ji39, hji39⟩ : ∃ j_ : Int, (mn x13_2 t226) = j_ := ⟨_, rfl⟩
          replace H : (Q7.l1 k2 x7_5 ji39 (wrap64 ((x7_5.length : Int) + 1)) (wrap64 (x50_2 + 1)) a0_0 true) = some r := by first | (rw [hji39] at H; exact H) | (simp only [hji39] at H ⊢; exact H)
          (try rw [hji39] at A38); have hji39_ : (if t226 < x13_2 then t226 else x13_2) = ji39 := hji39; have H' := A_ H; clear H; have hnb40 := NB210_211.out; have hnc40 := NB211_210.out; have hcz41_0 : wr.cell? ⟨gb210, 0, none⟩ = some (.int .i64 a0_0) := bc BK210 0; have hcz41_1 : wr.cell? ⟨gb210, 1, none⟩ = some (.bool true) := bc BK210 1; have hfz41_0 := blk_frozen BK210.out 0; have hfz41_1 := blk_frozen BK210.out 1; have p225 : 0 ≤ (x50_2 : Int) := dq; have q225 : x50_2 < (x7_5.length : Int) := dq; obtain ⟨ad225, e225, hx225_0⟩ := Kd.at_int (Kd.R_reads' HO_7.out).2.2 x50_2 p225 q225
          cases e225
          replace p225 := eq_true p225; replace q225 := eq_true q225; go_wp2_with (first | (go_at_call 59; (with_reducible refine (Q24.calls 0 (wrap64 (a0_0 - (rd x7_5 x50_2))) t226 _ A38.out).mono ?_); rintro e w42 ⟨rfl, hb⟩; replace HO_7 := A_ (Kd.R_below (rq HO_7) hb); replace BK210 := A_ (blk_below (bq BK210) hb); replace BK211 := A_ (blk_below (bq BK211) hb); replace HB := A_ (below_step (hq HB) hb); clear hb))
          repeat (go_quiet (first | (go_at_call 59; (with_reducible refine (Q24.calls 0 (wrap64 (a0_0 - (rd x7_5 x50_2))) t226 _ A38.out).mono ?_); rintro e w42 ⟨rfl, hb⟩; replace HO_7 := A_ (Kd.R_below (rq HO_7) hb); replace BK210 := A_ (blk_below (bq BK210) hb); replace BK211 := A_ (blk_below (bq BK211) hb); replace HB := A_ (below_step (hq HB) hb); clear hb)); try go_wp2_with (first | (go_at_call 59; (with_reducible refine (Q24.calls 0 (wrap64 (a0_0 - (rd x7_5 x50_2))) t226 _ A38.out).mono ?_); rintro e w42 ⟨rfl, hb⟩; replace HO_7 := A_ (Kd.R_below (rq HO_7) hb); replace BK210 := A_ (blk_below (bq BK210) hb); replace BK211 := A_ (blk_below (bq BK211) hb); replace HB := A_ (below_step (hq HB) hb); clear hb)))
          go_roundg k2
          case measure => have := HJ5.out; have := HK2.out; omega
          case rel => exact ⟨(ji39), (wrap64 (x50_2 + 1)), (by first | rfl | (simp; done) | (simp only [← hji39] <;> (first | rfl | simp)) | (simp [*]; done)), rf, H', ⟨by have := HJ5.out; have := HK2.out; omega⟩, ⟨rq HO_7⟩, ⟨bq BK210⟩, ⟨bq BK211⟩, ⟨hq HB⟩⟩
         ·
          rw [if_neg c37] at H; exact absurd H (by simp)
        ·
         rw [if_neg c36] at H; have c36b0 := decide_eq_false c36; clear c36; replace H := bm H; obtain ⟨t227, A43, H⟩ := H
         obtain ⟨ji44, hji44⟩ : ∃ j_ : Int, (mn x13_2 t227) = j_ := ⟨_, rfl⟩
         replace H : (Q7.l1 k2 x7_5 ji44 (wrap64 ((x7_5.length : Int) + 1)) (wrap64 (x50_2 + 1)) a0_0 true) = some r := by first | (rw [hji44] at H; exact H) | (simp only [hji44] at H ⊢; exact H)
         (try rw [hji44] at A43); have hji44_ : (if t227 < x13_2 then t227 else x13_2) = ji44 := hji44; have H' := A_ H; clear H; go_wp2_with (first | (go_at_call 59; (with_reducible refine (Q24.calls 0 0 t227 _ A43.out).mono ?_); rintro e w45 ⟨rfl, hb⟩; replace HO_7 := A_ (Kd.R_below (rq HO_7) hb); replace BK210 := A_ (blk_below (bq BK210) hb); replace BK211 := A_ (blk_below (bq BK211) hb); replace HB := A_ (below_step (hq HB) hb); clear hb))
         repeat (go_quiet (first | (go_at_call 59; (with_reducible refine (Q24.calls 0 0 t227 _ A43.out).mono ?_); rintro e w45 ⟨rfl, hb⟩; replace HO_7 := A_ (Kd.R_below (rq HO_7) hb); replace BK210 := A_ (blk_below (bq BK210) hb); replace BK211 := A_ (blk_below (bq BK211) hb); replace HB := A_ (below_step (hq HB) hb); clear hb)); try go_wp2_with (first | (go_at_call 59; (with_reducible refine (Q24.calls 0 0 t227 _ A43.out).mono ?_); rintro e w45 ⟨rfl, hb⟩; replace HO_7 := A_ (Kd.R_below (rq HO_7) hb); replace BK210 := A_ (blk_below (bq BK210) hb); replace BK211 := A_ (blk_below (bq BK211) hb); replace HB := A_ (below_step (hq HB) hb); clear hb)))
         go_roundg k2
         case measure => have := HJ5.out; have := HK2.out; omega
         case rel => exact ⟨(ji44), (wrap64 (x50_2 + 1)), (by first | rfl | (simp; done) | (simp only [← hji44] <;> (first | rfl | simp)) | (simp [*]; done)), rf, H', ⟨by have := HJ5.out; have := HK2.out; omega⟩, ⟨rq HO_7⟩, ⟨bq BK210⟩, ⟨bq BK211⟩, ⟨hq HB⟩⟩
      ·
       rw [if_neg c21] at H; have c21b0 := decide_eq_false c21; clear c21; obtain rfl := Option.some.inj H; go_wp2
       repeat (go_quiet (fail); try go_wp2)
       go_ret
       exact ⟨rt, hq HB⟩
   ·
    replace c17 := Bool.eq_false_iff.mpr c17; subst c17
    have H1 : (Q7.l0 kj5 0 0 x7_5 (x7_5.length : Int) 0) = some r := by rw [if_neg (show ¬ (false = true) by decide)] at H; exact H
    clear H; have H := H1; clear H1; have H' := A_ H; clear H; have hnb46 := NB210_211.out; have hnc46 := NB211_210.out; have hcz47_0 : wc.cell? ⟨gb210, 0, none⟩ = some (.int .i64 a0_0) := bc BK210 0; have hcz47_1 : wc.cell? ⟨gb210, 1, none⟩ = some (.bool false) := bc BK210 1; have hfz47_0 := blk_frozen BK210.out 0; have hfz47_1 := blk_frozen BK210.out 1; obtain ⟨Ao48, co48, eo48⟩ := Kd.R_slice HO_7.out; subst eo48; go_wp2
    repeat (go_quiet (fail); try go_wp2)
    go_loopg [9, 10, 31] kj5 (fun kq v9 v10 v31 w' => ∃ (x9_2 : Int) (x10_2 : Int) (x31_2 : Int), v9 = .int .i64 x9_2 ∧ v10 = .int .i64 x10_2 ∧ v31 = .int .i64 x31_2 ∧ Aside0 (Q7.l0 kq x9_2 x10_2 x7_5 (x7_5.length : Int) x31_2 = some r) ∧ Aside0 (kq ≤ kj5) ∧ Aside0 (Kd.R (Kd.int .i64) 3 w' w.heap.size (fun k_ => k_ ≠ gb211) (.slice Ao48 x7_5.length co48) x7_5) ∧ Aside0 (w'.heap[gb210]? = some (.cells #[.int .i64 a0_0, .bool false] 25 (0, 0))) ∧ Aside0 (w'.heap[gb211]? = some (.cells #[.int .i64 a1] 3 (0, 0))) ∧ Aside0 (Below w.heap.size w w'))
    case atStart => exact ⟨(0), (0), (0), rf, rf, rf, H', ⟨Nat.le_refl _⟩, ⟨rq HO_7⟩, ⟨bq BK210⟩, ⟨bq BK211⟩, ⟨hq HB⟩⟩
    case round =>
     clear H'; (try clear c14); (try clear c17); (try clear c21); (try clear c21b0); (try clear c22); (try clear c22b0); (try clear c24); (try clear c24b0); (try clear c25); (try clear c25b0); (try clear c26); (try clear c26b0); (try clear c27); (try clear c27b0); (try clear c36); (try clear c36b0); (try clear c37); (try clear c37b0); (try clear hcz13_0); (try clear hcz13_1); (try clear hcz19_0); (try clear hcz19_1); (try clear hcz31_0); (try clear hcz31_1); (try clear hcz41_0); (try clear hcz41_1); (try clear hcz47_0); (try clear hcz47_1); (try clear hfz13_0); (try clear hfz13_1); (try clear hfz19_0); (try clear hfz19_1); (try clear hfz31_0); (try clear hfz31_1); (try clear hfz41_0); (try clear hfz41_1); (try clear hfz47_0); (try clear hfz47_1); (try clear hx221_0); (try clear hx222_0); (try clear hx225_0); (try clear p221); (try clear p222); (try clear p225); (try clear q221); (try clear q222); (try clear q225); obtain ⟨x9_2, x10_2, x31_2, rfl, rfl, rfl, HA, HK2, HO_29, BK210, BK211, HB⟩ := hrel
     cases gk with
     | zero => exact absurd HA.out (by simp [Q7.l0])
     | succ k2 =>
      have H := HA.out; clear HA; simp only [Q7.l0] at H
      by_cases c49 : x31_2 < (x7_5.length : Int)
      ·
       rw [if_pos c49] at H; have c49b0 := decide_eq_true c49; clear c49; by_cases c50 : 0 ≤ x31_2
       ·
        rw [if_pos c50] at H; have c50b0 := decide_eq_true c50; clear c50; by_cases c51 : x31_2 < (x7_5.length : Int)
        ·
         rw [if_pos c51] at H; have c51b0 := decide_eq_true c51; clear c51
         obtain ⟨ji52, hji52⟩ : ∃ j_ : Int, (mx x9_2 (rd x7_5 x31_2)) = j_ := ⟨_, rfl⟩
         replace H : (Q7.l0 k2 ji52 (mx x10_2 (wrap64 (-(rd x7_5 x31_2)))) x7_5 (x7_5.length : Int) (wrap64 (x31_2 + 1))) = some r := by first | (rw [hji52] at H; exact H) | (simp only [hji52] at H ⊢; exact H)
         have hji52_ : (if x9_2 < (rd x7_5 x31_2) then (rd x7_5 x31_2) else x9_2) = ji52 := hji52
         obtain ⟨ji53, hji53⟩ : ∃ j_ : Int, (mx x10_2 (wrap64 (-(rd x7_5 x31_2)))) = j_ := ⟨_, rfl⟩
         replace H : (Q7.l0 k2 ji52 ji53 x7_5 (x7_5.length : Int) (wrap64 (x31_2 + 1))) = some r := by first | (rw [hji53] at H; exact H) | (simp only [hji53] at H ⊢; exact H)
         have hji53_ : (if x10_2 < (wrap64 (-(rd x7_5 x31_2))) then (wrap64 (-(rd x7_5 x31_2))) else x10_2) = ji53 := hji53; have H' := A_ H; clear H; have p219 : 0 ≤ (x31_2 : Int) := dq; have q219 : x31_2 < (x7_5.length : Int) := dq; obtain ⟨ad219, e219, hx219_0⟩ := Kd.at_int (Kd.R_reads' HO_29.out).2.2 x31_2 p219 q219
         cases e219
         replace p219 := eq_true p219; replace q219 := eq_true q219; go_wp2
         repeat (go_quiet (fail); try go_wp2)
         go_roundg k2
         case measure => have := HJ5.out; have := HK2.out; omega
         case rel => exact ⟨(ji52), (ji53), (wrap64 (x31_2 + 1)), (by first | rfl | (simp; done) | (simp only [← hji52] <;> (first | rfl | simp)) | (simp [*]; done)), (by first | rfl | (simp; done) | (simp only [← hji53] <;> (first | rfl | simp)) | (simp [*]; done)), rf, H', ⟨by have := HJ5.out; have := HK2.out; omega⟩, ⟨rq HO_29⟩, ⟨bq BK210⟩, ⟨bq BK211⟩, ⟨hq HB⟩⟩
        ·
         rw [if_neg c51] at H; exact absurd H (by simp)
       ·
        rw [if_neg c50] at H; exact absurd H (by simp)
      ·
       rw [if_neg c49] at H; have c49b0 := decide_eq_false c49; clear c49; replace H := bm H; obtain ⟨t220, A54, H⟩ := H; obtain rfl := Option.some.inj H; go_wp2_with (first | (go_at_call 59; (with_reducible refine (Q24.calls x9_2 x10_2 t220 _ A54.out).mono ?_); rintro e w55 ⟨rfl, hb⟩; replace HO_29 := A_ (Kd.R_below (rq HO_29) hb); replace BK210 := A_ (blk_below (bq BK210) hb); replace BK211 := A_ (blk_below (bq BK211) hb); replace HB := A_ (below_step (hq HB) hb); clear hb))
       repeat (go_quiet (first | (go_at_call 59; (with_reducible refine (Q24.calls x9_2 x10_2 t220 _ A54.out).mono ?_); rintro e w55 ⟨rfl, hb⟩; replace HO_29 := A_ (Kd.R_below (rq HO_29) hb); replace BK210 := A_ (blk_below (bq BK210) hb); replace BK211 := A_ (blk_below (bq BK211) hb); replace HB := A_ (below_step (hq HB) hb); clear hb)); try go_wp2_with (first | (go_at_call 59; (with_reducible refine (Q24.calls x9_2 x10_2 t220 _ A54.out).mono ?_); rintro e w55 ⟨rfl, hb⟩; replace HO_29 := A_ (Kd.R_below (rq HO_29) hb); replace BK210 := A_ (blk_below (bq BK210) hb); replace BK211 := A_ (blk_below (bq BK211) hb); replace HB := A_ (below_step (hq HB) hb); clear hb)))
       go_ret
       exact ⟨rt, hq HB⟩

/-! ### impl_TourTime: function 6 -/
def Q42.f (k : Nat) (a0_0 : Int) (a0_1 : Bool) (a1 : Int) (l2 : List Int) : Option (Int × Bool) := (Q28.f a0_0 a0_1).bind fun t229 => (if t229 = true then ((Q10.f k a0_0 a0_1 (([a1] : List Int))).bind fun t233 => (if t233 = true then ((Q10.f k a0_0 a0_1 l2).bind fun t234 => (if t234 = true then ((Q7.f k a0_0 a0_1 a1 l2).bind fun t235 => (some (t235, true))) else (some (0, false)))) else (some (0, false)))) else (some (0, false)))
set_option maxHeartbeats 8000000 in
set_option maxRecDepth 100000 in
theorem Q42.calls (k : Nat) (a0_0 : Int) (a0_1 : Bool) (a1 : Int) (A2 : Option Addr) (c2 : Nat) (l2 : List Int) (r1 : Int) (r2 : Bool) (w : World) (hr2 : Kd.C (Kd.int .i64) w A2 l2.length l2) (hc2 : l2.length ≤ c2) (h : Q42.f k a0_0 a0_1 a1 l2 = some (r1, r2)) :
    Calls Try.prog 6 #[.agg #[.int .i64 a0_0, .bool a0_1], .int .i64 a1, .slice A2 l2.length c2] w fun e w' => e = .returned (.tuple #[.int .i64 r1, .bool r2]) ∧ Below w.heap.size w w' := by
 have hu25 := Try.underlying25; have HR2 := A_ hr2; have HC2 := A_ hc2; clear hr2 hc2; have HB := A_ (Below.refl w.heap.size w); have H : ((Q28.f a0_0 a0_1).bind fun t229 => (if t229 = true then ((Q10.f k a0_0 a0_1 (([a1] : List Int))).bind fun t233 => (if t233 = true then ((Q10.f k a0_0 a0_1 l2).bind fun t234 => (if t234 = true then ((Q7.f k a0_0 a0_1 a1 l2).bind fun t235 => (some (t235, true))) else (some (0, false)))) else (some (0, false)))) else (some (0, false)))) = some (r1, r2) := h; clear h; replace H := bm H; obtain ⟨t229, A4, H⟩ := H; by_cases c5 : t229 = true
 ·
  subst c5
  have H1 : ((Q10.f k a0_0 a0_1 (([a1] : List Int))).bind fun t233 => (if t233 = true then ((Q10.f k a0_0 a0_1 l2).bind fun t234 => (if t234 = true then ((Q7.f k a0_0 a0_1 a1 l2).bind fun t235 => (some (t235, true))) else (some (0, false)))) else (some (0, false)))) = some (r1, r2) := by rw [if_pos rfl] at H; exact H
  clear H; have H := H1; clear H1
  obtain ⟨y230, hy230⟩ : ∃ y_ : List Int, y_ = (([a1] : List Int)) := ⟨_, rfl⟩
  replace H : ((Q10.f k a0_0 a0_1 y230).bind fun t233 => (if t233 = true then ((Q10.f k a0_0 a0_1 l2).bind fun t234 => (if t234 = true then ((Q7.f k a0_0 a0_1 a1 l2).bind fun t235 => (some (t235, true))) else (some (0, false)))) else (some (0, false)))) = some (r1, r2) := by first | (rw [hy230]; with_reducible exact H) | (have H2_ := (Option.bind_some _ _).symm.trans H; rw [hy230]; with_reducible exact H2_) | (have H2_ := (Option.bind_some _ _).symm.trans H; with_reducible exact H2_) | with_reducible exact H | (rw [hy230]; exact H) | exact H
  have Ny230 := A_ hy230; clear hy230; replace H := bm H; obtain ⟨t233, A6, H⟩ := H; by_cases c7 : t233 = true
  ·
   subst c7
   have H1 : ((Q10.f k a0_0 a0_1 l2).bind fun t234 => (if t234 = true then ((Q7.f k a0_0 a0_1 a1 l2).bind fun t235 => (some (t235, true))) else (some (0, false)))) = some (r1, r2) := by rw [if_pos rfl] at H; exact H
   clear H; have H := H1; clear H1; replace H := bm H; obtain ⟨t234, A8, H⟩ := H; by_cases c9 : t234 = true
   ·
    subst c9
    have H1 : ((Q7.f k a0_0 a0_1 a1 l2).bind fun t235 => (some (t235, true))) = some (r1, r2) := by rw [if_pos rfl] at H; exact H
    clear H; have H := H1; clear H1; replace H := bm H; obtain ⟨t235, A10, H⟩ := H; simp only [Option.some.injEq, Prod.mk.injEq] at H
    obtain ⟨rfl, rfl⟩ := H; go_enter Try.func6, Try.ntmps6
    go_wp2_with (first | ((with_reducible refine gate_dst (N := 3) rfl ?_); (try (refine gate_guard (by rfl) ?_; dsimp only)); refine bx (N := 3) #[.int .i64 a0_0, .bool a0_1] 25 ?_; intro gb228 hg w11 hbox hb; have BK228 := A_ (hbox); have GW228 := A_ (bs hg (hq HB) : w.heap.size ≤ gb228); have GE228 := A_ (bs hg (hq HB) : w.heap.size ≤ gb228); replace HB := A_ (below_step (hq HB) hb); clear hb hbox hg; have hcz12_0 : w11.cell? ⟨gb228, 0, none⟩ = some (.int .i64 a0_0) := bc BK228 0; have hcz12_1 : w11.cell? ⟨gb228, 1, none⟩ = some (.bool a0_1) := bc BK228 1; have hfz12_0 := blk_frozen BK228.out 0; have hfz12_1 := blk_frozen BK228.out 1) | ((with_reducible refine gate_callee (f := 24) rfl ?_); refine gL (some 9) Try.func24 #[.agg #[.int .i64 a0_0, .bool a0_1]] ?_; (with_reducible refine (Q28.calls a0_0 a0_1 true _ A4.out).mono ?_); rintro e w13 ⟨rfl, hb⟩; refine ⟨_, rfl, ?_⟩; replace BK228 := A_ (blk_below (bq BK228) hb); replace HB := A_ (below_step (hq HB) hb); clear hb; have hcz14_0 : w13.cell? ⟨gb228, 0, none⟩ = some (.int .i64 a0_0) := bc BK228 0; have hcz14_1 : w13.cell? ⟨gb228, 1, none⟩ = some (.bool a0_1) := bc BK228 1; have hfz14_0 := blk_frozen BK228.out 0; have hfz14_1 := blk_frozen BK228.out 1) | ((with_reducible refine gate_dst (N := 14) rfl ?_); (try (refine gate_guard (by rfl) ?_; dsimp only)); refine Kd.R_lit (Kd.int .i64) _ 3 ?hg (N := 14) ?hd (xs := ([a1] : List Int)) (inner := [.int .i64 a1]) (ok := fun _ => True) (okp := fun _ => True) ?hr ?hp (fun _ hk => hk) trivial (Below.refl _ _) (Nat.le_refl _) (by simp) ?_; (case hd => rfl); (case hg => rfl); (case hr => first | (go_simp; done) | (go_simp; rfl)); (case hp => exact (Reps.one (show Kd.M (Kd.int .i64) _ _ _ a1 [.int .i64 a1] from rfl) (Reps.none _ _))); intro v231 w15 ho16 hb hg_ hnew_; clear hg_ hnew_; (first | rw [← Ny230.out] at ho16 | (simp only [Int.reduceToNat] at ho16; rw [← Ny230.out] at ho16)); have HO232 := A_ (Kd.R_lower ho16 (below_size (hq HB))); replace BK228 := A_ (blk_below (bq BK228) hb); replace HB := A_ (below_step (hq HB) hb); clear hb ho16; obtain ⟨Ao17, co17, eo17⟩ := Kd.R_slice HO232.out; subst eo17) | (go_at_call 25; (with_reducible refine (Q10.calls k a0_0 a0_1 _ _ y230 true _ ?side1 ?side2 A6.out).mono ?_); (case side1 => exact cq (Kd.R_reads' HO232.out).2.2); (case side2 => exact (Kd.R_reads' HO232.out).2.1); rintro e w18 ⟨rfl, hb⟩; replace HO232 := A_ (Kd.R_below (rq HO232) hb); replace BK228 := A_ (blk_below (bq BK228) hb); replace HB := A_ (below_step (hq HB) hb); clear hb; have hcz19_0 : w18.cell? ⟨gb228, 0, none⟩ = some (.int .i64 a0_0) := bc BK228 0; have hcz19_1 : w18.cell? ⟨gb228, 1, none⟩ = some (.bool a0_1) := bc BK228 1; have hfz19_0 := blk_frozen BK228.out 0; have hfz19_1 := blk_frozen BK228.out 1) | (go_at_call 25; (with_reducible refine (Q10.calls k a0_0 a0_1 _ _ l2 true _ ?side1 ?side2 A8.out).mono ?_); (case side1 => exact cq (Kd.C_below HR2.out HB.out)); (case side2 => exact HC2.out); rintro e w20 ⟨rfl, hb⟩; replace HO232 := A_ (Kd.R_below (rq HO232) hb); replace BK228 := A_ (blk_below (bq BK228) hb); replace HB := A_ (below_step (hq HB) hb); clear hb; have hcz21_0 : w20.cell? ⟨gb228, 0, none⟩ = some (.int .i64 a0_0) := bc BK228 0; have hcz21_1 : w20.cell? ⟨gb228, 1, none⟩ = some (.bool a0_1) := bc BK228 1; have hfz21_0 := blk_frozen BK228.out 0; have hfz21_1 := blk_frozen BK228.out 1) | ((with_reducible refine gate_callee (f := 26) rfl ?_); refine gL (some 27) Try.func26 #[.agg #[.int .i64 a0_0, .bool a0_1], .int .i64 a1, .slice A2 l2.length c2] ?_; (with_reducible refine (Q7.calls k a0_0 a0_1 a1 _ _ l2 t235 _ ?side1 ?side2 A10.out).mono ?_); (case side1 => exact cq (Kd.C_below HR2.out HB.out)); (case side2 => exact HC2.out); rintro e w22 ⟨rfl, hb⟩; refine ⟨_, rfl, ?_⟩; replace HO232 := A_ (Kd.R_below (rq HO232) hb); replace BK228 := A_ (blk_below (bq BK228) hb); replace HB := A_ (below_step (hq HB) hb); clear hb))
    go_ret2
    exact ⟨rt, hq HB⟩
   ·
    replace c9 := Bool.eq_false_iff.mpr c9; subst c9
    have H1 : (some (0, false)) = some (r1, r2) := by rw [if_neg (show ¬ (false = true) by decide)] at H; exact H
    clear H; have H := H1; clear H1; simp only [Option.some.injEq, Prod.mk.injEq] at H
    obtain ⟨rfl, rfl⟩ := H; go_enter Try.func6, Try.ntmps6
    go_wp2_with (first | ((with_reducible refine gate_dst (N := 3) rfl ?_); (try (refine gate_guard (by rfl) ?_; dsimp only)); refine bx (N := 3) #[.int .i64 a0_0, .bool a0_1] 25 ?_; intro gb228 hg w23 hbox hb; have BK228 := A_ (hbox); have GW228 := A_ (bs hg (hq HB) : w.heap.size ≤ gb228); have GE228 := A_ (bs hg (hq HB) : w.heap.size ≤ gb228); replace HB := A_ (below_step (hq HB) hb); clear hb hbox hg; have hcz24_0 : w23.cell? ⟨gb228, 0, none⟩ = some (.int .i64 a0_0) := bc BK228 0; have hcz24_1 : w23.cell? ⟨gb228, 1, none⟩ = some (.bool a0_1) := bc BK228 1; have hfz24_0 := blk_frozen BK228.out 0; have hfz24_1 := blk_frozen BK228.out 1) | ((with_reducible refine gate_callee (f := 24) rfl ?_); refine gL (some 9) Try.func24 #[.agg #[.int .i64 a0_0, .bool a0_1]] ?_; (with_reducible refine (Q28.calls a0_0 a0_1 true _ A4.out).mono ?_); rintro e w25 ⟨rfl, hb⟩; refine ⟨_, rfl, ?_⟩; replace BK228 := A_ (blk_below (bq BK228) hb); replace HB := A_ (below_step (hq HB) hb); clear hb; have hcz26_0 : w25.cell? ⟨gb228, 0, none⟩ = some (.int .i64 a0_0) := bc BK228 0; have hcz26_1 : w25.cell? ⟨gb228, 1, none⟩ = some (.bool a0_1) := bc BK228 1; have hfz26_0 := blk_frozen BK228.out 0; have hfz26_1 := blk_frozen BK228.out 1) | ((with_reducible refine gate_dst (N := 14) rfl ?_); (try (refine gate_guard (by rfl) ?_; dsimp only)); refine Kd.R_lit (Kd.int .i64) _ 3 ?hg (N := 14) ?hd (xs := ([a1] : List Int)) (inner := [.int .i64 a1]) (ok := fun _ => True) (okp := fun _ => True) ?hr ?hp (fun _ hk => hk) trivial (Below.refl _ _) (Nat.le_refl _) (by simp) ?_; (case hd => rfl); (case hg => rfl); (case hr => first | (go_simp; done) | (go_simp; rfl)); (case hp => exact (Reps.one (show Kd.M (Kd.int .i64) _ _ _ a1 [.int .i64 a1] from rfl) (Reps.none _ _))); intro v231 w27 ho28 hb hg_ hnew_; clear hg_ hnew_; (first | rw [← Ny230.out] at ho28 | (simp only [Int.reduceToNat] at ho28; rw [← Ny230.out] at ho28)); have HO232 := A_ (Kd.R_lower ho28 (below_size (hq HB))); replace BK228 := A_ (blk_below (bq BK228) hb); replace HB := A_ (below_step (hq HB) hb); clear hb ho28; obtain ⟨Ao29, co29, eo29⟩ := Kd.R_slice HO232.out; subst eo29) | (go_at_call 25; (with_reducible refine (Q10.calls k a0_0 a0_1 _ _ y230 true _ ?side1 ?side2 A6.out).mono ?_); (case side1 => exact cq (Kd.R_reads' HO232.out).2.2); (case side2 => exact (Kd.R_reads' HO232.out).2.1); rintro e w30 ⟨rfl, hb⟩; replace HO232 := A_ (Kd.R_below (rq HO232) hb); replace BK228 := A_ (blk_below (bq BK228) hb); replace HB := A_ (below_step (hq HB) hb); clear hb; have hcz31_0 : w30.cell? ⟨gb228, 0, none⟩ = some (.int .i64 a0_0) := bc BK228 0; have hcz31_1 : w30.cell? ⟨gb228, 1, none⟩ = some (.bool a0_1) := bc BK228 1; have hfz31_0 := blk_frozen BK228.out 0; have hfz31_1 := blk_frozen BK228.out 1) | (go_at_call 25; (with_reducible refine (Q10.calls k a0_0 a0_1 _ _ l2 false _ ?side1 ?side2 A8.out).mono ?_); (case side1 => exact cq (Kd.C_below HR2.out HB.out)); (case side2 => exact HC2.out); rintro e w32 ⟨rfl, hb⟩; replace HO232 := A_ (Kd.R_below (rq HO232) hb); replace BK228 := A_ (blk_below (bq BK228) hb); replace HB := A_ (below_step (hq HB) hb); clear hb))
    go_ret2
    exact ⟨rt, hq HB⟩
  ·
   replace c7 := Bool.eq_false_iff.mpr c7; subst c7
   have H1 : (some (0, false)) = some (r1, r2) := by rw [if_neg (show ¬ (false = true) by decide)] at H; exact H
   clear H; have H := H1; clear H1; simp only [Option.some.injEq, Prod.mk.injEq] at H
   obtain ⟨rfl, rfl⟩ := H; go_enter Try.func6, Try.ntmps6
   go_wp2_with (first | ((with_reducible refine gate_dst (N := 3) rfl ?_); (try (refine gate_guard (by rfl) ?_; dsimp only)); refine bx (N := 3) #[.int .i64 a0_0, .bool a0_1] 25 ?_; intro gb228 hg w33 hbox hb; have BK228 := A_ (hbox); have GW228 := A_ (bs hg (hq HB) : w.heap.size ≤ gb228); have GE228 := A_ (bs hg (hq HB) : w.heap.size ≤ gb228); replace HB := A_ (below_step (hq HB) hb); clear hb hbox hg; have hcz34_0 : w33.cell? ⟨gb228, 0, none⟩ = some (.int .i64 a0_0) := bc BK228 0; have hcz34_1 : w33.cell? ⟨gb228, 1, none⟩ = some (.bool a0_1) := bc BK228 1; have hfz34_0 := blk_frozen BK228.out 0; have hfz34_1 := blk_frozen BK228.out 1) | ((with_reducible refine gate_callee (f := 24) rfl ?_); refine gL (some 9) Try.func24 #[.agg #[.int .i64 a0_0, .bool a0_1]] ?_; (with_reducible refine (Q28.calls a0_0 a0_1 true _ A4.out).mono ?_); rintro e w35 ⟨rfl, hb⟩; refine ⟨_, rfl, ?_⟩; replace BK228 := A_ (blk_below (bq BK228) hb); replace HB := A_ (below_step (hq HB) hb); clear hb; have hcz36_0 : w35.cell? ⟨gb228, 0, none⟩ = some (.int .i64 a0_0) := bc BK228 0; have hcz36_1 : w35.cell? ⟨gb228, 1, none⟩ = some (.bool a0_1) := bc BK228 1; have hfz36_0 := blk_frozen BK228.out 0; have hfz36_1 := blk_frozen BK228.out 1) | ((with_reducible refine gate_dst (N := 14) rfl ?_); (try (refine gate_guard (by rfl) ?_; dsimp only)); refine Kd.R_lit (Kd.int .i64) _ 3 ?hg (N := 14) ?hd (xs := ([a1] : List Int)) (inner := [.int .i64 a1]) (ok := fun _ => True) (okp := fun _ => True) ?hr ?hp (fun _ hk => hk) trivial (Below.refl _ _) (Nat.le_refl _) (by simp) ?_; (case hd => rfl); (case hg => rfl); (case hr => first | (go_simp; done) | (go_simp; rfl)); (case hp => exact (Reps.one (show Kd.M (Kd.int .i64) _ _ _ a1 [.int .i64 a1] from rfl) (Reps.none _ _))); intro v231 w37 ho38 hb hg_ hnew_; clear hg_ hnew_; (first | rw [← Ny230.out] at ho38 | (simp only [Int.reduceToNat] at ho38; rw [← Ny230.out] at ho38)); have HO232 := A_ (Kd.R_lower ho38 (below_size (hq HB))); replace BK228 := A_ (blk_below (bq BK228) hb); replace HB := A_ (below_step (hq HB) hb); clear hb ho38; obtain ⟨Ao39, co39, eo39⟩ := Kd.R_slice HO232.out; subst eo39) | (go_at_call 25; (with_reducible refine (Q10.calls k a0_0 a0_1 _ _ y230 false _ ?side1 ?side2 A6.out).mono ?_); (case side1 => exact cq (Kd.R_reads' HO232.out).2.2); (case side2 => exact (Kd.R_reads' HO232.out).2.1); rintro e w40 ⟨rfl, hb⟩; replace HO232 := A_ (Kd.R_below (rq HO232) hb); replace BK228 := A_ (blk_below (bq BK228) hb); replace HB := A_ (below_step (hq HB) hb); clear hb))
   go_ret2
   exact ⟨rt, hq HB⟩
 ·
  replace c5 := Bool.eq_false_iff.mpr c5; subst c5
  have H1 : (some (0, false)) = some (r1, r2) := by rw [if_neg (show ¬ (false = true) by decide)] at H; exact H
  clear H; have H := H1; clear H1; simp only [Option.some.injEq, Prod.mk.injEq] at H
  obtain ⟨rfl, rfl⟩ := H; go_enter Try.func6, Try.ntmps6
  go_wp2_with (first | ((with_reducible refine gate_dst (N := 3) rfl ?_); (try (refine gate_guard (by rfl) ?_; dsimp only)); refine bx (N := 3) #[.int .i64 a0_0, .bool a0_1] 25 ?_; intro gb228 hg w41 hbox hb; have BK228 := A_ (hbox); have GW228 := A_ (bs hg (hq HB) : w.heap.size ≤ gb228); have GE228 := A_ (bs hg (hq HB) : w.heap.size ≤ gb228); replace HB := A_ (below_step (hq HB) hb); clear hb hbox hg; have hcz42_0 : w41.cell? ⟨gb228, 0, none⟩ = some (.int .i64 a0_0) := bc BK228 0; have hcz42_1 : w41.cell? ⟨gb228, 1, none⟩ = some (.bool a0_1) := bc BK228 1; have hfz42_0 := blk_frozen BK228.out 0; have hfz42_1 := blk_frozen BK228.out 1) | ((with_reducible refine gate_callee (f := 24) rfl ?_); refine gL (some 9) Try.func24 #[.agg #[.int .i64 a0_0, .bool a0_1]] ?_; (with_reducible refine (Q28.calls a0_0 a0_1 false _ A4.out).mono ?_); rintro e w43 ⟨rfl, hb⟩; refine ⟨_, rfl, ?_⟩; replace BK228 := A_ (blk_below (bq BK228) hb); replace HB := A_ (below_step (hq HB) hb); clear hb))
  go_ret2
  exact ⟨rt, hq HB⟩

/-! ### spec_l1In: function 46 -/
def Q22.f (a0 : Int) (a1 : Int) (a2 : Int) : Option (Bool) := if a0 ≥ a1 then (some (decide (a0 ≤ a2))) else (some false)
set_option maxHeartbeats 8000000 in
set_option maxRecDepth 100000 in
theorem Q22.calls (a0 : Int) (a1 : Int) (a2 : Int) (r : Bool) (w : World) (h : Q22.f a0 a1 a2 = some r) :
    Calls Try.prog 46 #[.int .i64 a0, .int .i64 a1, .int .i64 a2] w fun e w' => e = .returned (.bool r) ∧ Drawn0 w w' := by
 have H : (if a0 ≥ a1 then (some (decide (a0 ≤ a2))) else (some false)) = some r := h; clear h; by_cases c4 : a0 ≥ a1
 ·
  rw [if_pos c4] at H; have c4b0 : decide (a1 ≤ a0) = true := decide_eq_true c4; clear c4; obtain rfl := Option.some.inj H; go_enter Try.func46, Try.ntmps46
  go_wp2
  go_ret
  exact ⟨rf, by repeat (first | exact Drawn0.refl _ | apply Drawn0.step)⟩
 ·
  rw [if_neg c4] at H; have c4b0 : decide (a1 ≤ a0) = false := decide_eq_false c4; clear c4; obtain rfl := Option.some.inj H; go_enter Try.func46, Try.ntmps46
  go_wp2
  go_ret
  exact ⟨rf, by repeat (first | exact Drawn0.refl _ | apply Drawn0.step)⟩

/-! ### spec_l2Road: function 60 -/
def Q44.f (a0_0 : Int) (a0_1 : Bool) : Option (Bool) := (Q22.f a0_0 2 24).bind fun t237 => (if t237 = true then (if a0_1 = true then (some (decide (a0_0 > 2))) else (some true)) else (some false))
set_option maxHeartbeats 8000000 in
set_option maxRecDepth 100000 in
theorem Q44.calls (a0_0 : Int) (a0_1 : Bool) (r : Bool) (w : World) (h : Q44.f a0_0 a0_1 = some r) :
    Calls Try.prog 60 #[.agg #[.int .i64 a0_0, .bool a0_1]] w fun e w' => e = .returned (.bool r) ∧ Below w.heap.size w w' := by
 have hu25 := Try.underlying25; have HB := A_ (Below.refl w.heap.size w); have H : ((Q22.f a0_0 2 24).bind fun t237 => (if t237 = true then (if a0_1 = true then (some (decide (a0_0 > 2))) else (some true)) else (some false))) = some r := h; clear h; replace H := bm H; obtain ⟨t237, A2, H⟩ := H; by_cases c3 : t237 = true
 ·
  subst c3
  have H1 : (if a0_1 = true then (some (decide (a0_0 > 2))) else (some true)) = some r := by rw [if_pos rfl] at H; exact H
  clear H; have H := H1; clear H1; by_cases c4 : a0_1 = true
  ·
   subst c4
   have H1 : (some (decide (a0_0 > 2))) = some r := by rw [if_pos rfl] at H; exact H
   clear H; have H := H1; clear H1; obtain rfl := Option.some.inj H; go_enter Try.func60, Try.ntmps60
   go_wp2_with (first | ((with_reducible refine gate_dst (N := 1) rfl ?_); refine bx (N := 1) #[.int .i64 a0_0, .bool true] 25 ?_; intro gb236 hg w5 hbox hb; have BK236 := A_ (hbox); have GW236 := A_ (bs hg (hq HB) : w.heap.size ≤ gb236); have GE236 := A_ (bs hg (hq HB) : w.heap.size ≤ gb236); replace HB := A_ (below_step (hq HB) hb); clear hb hbox hg; have hcz6_0 : w5.cell? ⟨gb236, 0, none⟩ = some (.int .i64 a0_0) := bc BK236 0; have hcz6_1 : w5.cell? ⟨gb236, 1, none⟩ = some (.bool true) := bc BK236 1; have hfz6_0 := blk_frozen BK236.out 0; have hfz6_1 := blk_frozen BK236.out 1) | ((with_reducible refine gate_callee (f := 46) rfl ?_); refine gL (some 5) Try.func46 #[.int .i64 a0_0, .int .i64 2, .int .i64 24] ?_; (with_reducible refine (Q22.calls a0_0 2 24 true _ A2.out).mono ?_); rintro e w' ⟨rfl, ⟨nd, rfl⟩⟩; refine ⟨_, rfl, ?_⟩))
   go_ret
   exact ⟨rt, hq HB⟩
  ·
   replace c4 := Bool.eq_false_iff.mpr c4; subst c4
   have H1 : (some true) = some r := by rw [if_neg (show ¬ (false = true) by decide)] at H; exact H
   clear H; have H := H1; clear H1; obtain rfl := Option.some.inj H; go_enter Try.func60, Try.ntmps60
   go_wp2_with (first | ((with_reducible refine gate_dst (N := 1) rfl ?_); refine bx (N := 1) #[.int .i64 a0_0, .bool false] 25 ?_; intro gb236 hg w7 hbox hb; have BK236 := A_ (hbox); have GW236 := A_ (bs hg (hq HB) : w.heap.size ≤ gb236); have GE236 := A_ (bs hg (hq HB) : w.heap.size ≤ gb236); replace HB := A_ (below_step (hq HB) hb); clear hb hbox hg; have hcz8_0 : w7.cell? ⟨gb236, 0, none⟩ = some (.int .i64 a0_0) := bc BK236 0; have hcz8_1 : w7.cell? ⟨gb236, 1, none⟩ = some (.bool false) := bc BK236 1; have hfz8_0 := blk_frozen BK236.out 0; have hfz8_1 := blk_frozen BK236.out 1) | ((with_reducible refine gate_callee (f := 46) rfl ?_); refine gL (some 5) Try.func46 #[.int .i64 a0_0, .int .i64 2, .int .i64 24] ?_; (with_reducible refine (Q22.calls a0_0 2 24 true _ A2.out).mono ?_); rintro e w' ⟨rfl, ⟨nd, rfl⟩⟩; refine ⟨_, rfl, ?_⟩))
   go_ret
   exact ⟨rt, hq HB⟩
 ·
  replace c3 := Bool.eq_false_iff.mpr c3; subst c3
  have H1 : (some false) = some r := by rw [if_neg (show ¬ (false = true) by decide)] at H; exact H
  clear H; have H := H1; clear H1; obtain rfl := Option.some.inj H; go_enter Try.func60, Try.ntmps60
  go_wp2_with (first | ((with_reducible refine gate_dst (N := 1) rfl ?_); refine bx (N := 1) #[.int .i64 a0_0, .bool a0_1] 25 ?_; intro gb236 hg w9 hbox hb; have BK236 := A_ (hbox); have GW236 := A_ (bs hg (hq HB) : w.heap.size ≤ gb236); have GE236 := A_ (bs hg (hq HB) : w.heap.size ≤ gb236); replace HB := A_ (below_step (hq HB) hb); clear hb hbox hg; have hcz10_0 : w9.cell? ⟨gb236, 0, none⟩ = some (.int .i64 a0_0) := bc BK236 0; have hcz10_1 : w9.cell? ⟨gb236, 1, none⟩ = some (.bool a0_1) := bc BK236 1; have hfz10_0 := blk_frozen BK236.out 0; have hfz10_1 := blk_frozen BK236.out 1) | ((with_reducible refine gate_callee (f := 46) rfl ?_); refine gL (some 5) Try.func46 #[.int .i64 a0_0, .int .i64 2, .int .i64 24] ?_; (with_reducible refine (Q22.calls a0_0 2 24 false _ A2.out).mono ?_); rintro e w' ⟨rfl, ⟨nd, rfl⟩⟩; refine ⟨_, rfl, ?_⟩))
  go_ret
  exact ⟨rt, hq HB⟩

/-! ### spec_l2Place: function 27 -/
def Q18.f (a0_0 : Int) (a0_1 : Bool) (a1 : Int) : Option (Bool) := (Q44.f a0_0 a0_1).bind fun t239 => (if t239 = true then ((Q22.f a1 0 (wrap64 (a0_0 - 1))).bind fun t240 => (some t240)) else (some false))
set_option maxHeartbeats 8000000 in
set_option maxRecDepth 100000 in
theorem Q18.calls (a0_0 : Int) (a0_1 : Bool) (a1 : Int) (r : Bool) (w : World) (h : Q18.f a0_0 a0_1 a1 = some r) :
    Calls Try.prog 27 #[.agg #[.int .i64 a0_0, .bool a0_1], .int .i64 a1] w fun e w' => e = .returned (.bool r) ∧ Below w.heap.size w w' := by
 have hu25 := Try.underlying25; have HB := A_ (Below.refl w.heap.size w); have H : ((Q44.f a0_0 a0_1).bind fun t239 => (if t239 = true then ((Q22.f a1 0 (wrap64 (a0_0 - 1))).bind fun t240 => (some t240)) else (some false))) = some r := h; clear h; replace H := bm H; obtain ⟨t239, A3, H⟩ := H; by_cases c4 : t239 = true
 ·
  subst c4
  have H1 : ((Q22.f a1 0 (wrap64 (a0_0 - 1))).bind fun t240 => (some t240)) = some r := by rw [if_pos rfl] at H; exact H
  clear H; have H := H1; clear H1; replace H := bm H; obtain ⟨t240, A5, H⟩ := H; obtain rfl := Option.some.inj H; go_enter Try.func27, Try.ntmps27
  go_wp2_with (first | ((with_reducible refine gate_dst (N := 2) rfl ?_); refine bx (N := 2) #[.int .i64 a0_0, .bool a0_1] 25 ?_; intro gb238 hg w6 hbox hb; have BK238 := A_ (hbox); have GW238 := A_ (bs hg (hq HB) : w.heap.size ≤ gb238); have GE238 := A_ (bs hg (hq HB) : w.heap.size ≤ gb238); replace HB := A_ (below_step (hq HB) hb); clear hb hbox hg; have hcz7_0 : w6.cell? ⟨gb238, 0, none⟩ = some (.int .i64 a0_0) := bc BK238 0; have hcz7_1 : w6.cell? ⟨gb238, 1, none⟩ = some (.bool a0_1) := bc BK238 1; have hfz7_0 := blk_frozen BK238.out 0; have hfz7_1 := blk_frozen BK238.out 1) | ((with_reducible refine gate_callee (f := 60) rfl ?_); refine gL (some 6) Try.func60 #[.agg #[.int .i64 a0_0, .bool a0_1]] ?_; (with_reducible refine (Q44.calls a0_0 a0_1 true _ A3.out).mono ?_); rintro e w8 ⟨rfl, hb⟩; refine ⟨_, rfl, ?_⟩; replace BK238 := A_ (blk_below (bq BK238) hb); replace HB := A_ (below_step (hq HB) hb); clear hb; have hcz9_0 : w8.cell? ⟨gb238, 0, none⟩ = some (.int .i64 a0_0) := bc BK238 0; have hcz9_1 : w8.cell? ⟨gb238, 1, none⟩ = some (.bool a0_1) := bc BK238 1; have hfz9_0 := blk_frozen BK238.out 0; have hfz9_1 := blk_frozen BK238.out 1) | (go_at_call 46; (with_reducible refine (Q22.calls a1 0 (wrap64 (a0_0 - 1)) t240 _ A5.out).mono ?_); rintro e w' ⟨rfl, ⟨nd, rfl⟩⟩))
  go_ret
  exact ⟨rt, hq HB⟩
 ·
  replace c4 := Bool.eq_false_iff.mpr c4; subst c4
  have H1 : (some false) = some r := by rw [if_neg (show ¬ (false = true) by decide)] at H; exact H
  clear H; have H := H1; clear H1; obtain rfl := Option.some.inj H; go_enter Try.func27, Try.ntmps27
  go_wp2_with (first | ((with_reducible refine gate_dst (N := 2) rfl ?_); refine bx (N := 2) #[.int .i64 a0_0, .bool a0_1] 25 ?_; intro gb238 hg w10 hbox hb; have BK238 := A_ (hbox); have GW238 := A_ (bs hg (hq HB) : w.heap.size ≤ gb238); have GE238 := A_ (bs hg (hq HB) : w.heap.size ≤ gb238); replace HB := A_ (below_step (hq HB) hb); clear hb hbox hg; have hcz11_0 : w10.cell? ⟨gb238, 0, none⟩ = some (.int .i64 a0_0) := bc BK238 0; have hcz11_1 : w10.cell? ⟨gb238, 1, none⟩ = some (.bool a0_1) := bc BK238 1; have hfz11_0 := blk_frozen BK238.out 0; have hfz11_1 := blk_frozen BK238.out 1) | ((with_reducible refine gate_callee (f := 60) rfl ?_); refine gL (some 6) Try.func60 #[.agg #[.int .i64 a0_0, .bool a0_1]] ?_; (with_reducible refine (Q44.calls a0_0 a0_1 false _ A3.out).mono ?_); rintro e w12 ⟨rfl, hb⟩; refine ⟨_, rfl, ?_⟩; replace BK238 := A_ (blk_below (bq BK238) hb); replace HB := A_ (below_step (hq HB) hb); clear hb))
  go_ret
  exact ⟨rt, hq HB⟩

/-! ### spec_l2Tour: function 29 -/
def Q56.f (a0 : Int) (a1 : Int) : Option (Int) := (Q31.f a0 a1).bind fun t241 => (some (wrap64 ((wrap64 (a0 + a1)) + t241)))
set_option maxHeartbeats 8000000 in
set_option maxRecDepth 100000 in
theorem Q56.calls (a0 : Int) (a1 : Int) (r : Int) (w : World) (h : Q56.f a0 a1 = some r) :
    Calls Try.prog 29 #[.int .i64 a0, .int .i64 a1] w fun e w' => e = .returned (.int .i64 r) ∧ Drawn0 w w' := by
 have H : ((Q31.f a0 a1).bind fun t241 => (some (wrap64 ((wrap64 (a0 + a1)) + t241)))) = some r := h; clear h; replace H := bm H; obtain ⟨t241, A3, H⟩ := H; obtain rfl := Option.some.inj H; go_enter Try.func29, Try.ntmps29
 go_wp2_with (first | ((with_reducible refine gate_callee (f := 31) rfl ?_); refine gL (some 10) Try.func31 #[.int .i64 a0, .int .i64 a1] ?_; (with_reducible refine (Q31.calls a0 a1 t241 _ A3.out).mono ?_); rintro e w' ⟨rfl, ⟨nd, rfl⟩⟩; refine ⟨_, rfl, ?_⟩))
 go_ret
 exact ⟨rf, by repeat (first | exact Drawn0.refl _ | apply Drawn0.step)⟩

/-! ### spec_l2Far: function 30 -/
def Q61.f (a0_0 : Int) (a0_1 : Bool) (a1 : Int) (a2 : Int) : Option (Int) := if a0_0 = 0 then (none) else (some (Int.tmod (wrap64 ((wrap64 (a2 - a1)) + a0_0)) a0_0))
set_option maxHeartbeats 8000000 in
set_option maxRecDepth 100000 in
theorem Q61.calls (a0_0 : Int) (a0_1 : Bool) (a1 : Int) (a2 : Int) (r : Int) (w : World) (h : Q61.f a0_0 a0_1 a1 a2 = some r) :
    Calls Try.prog 30 #[.agg #[.int .i64 a0_0, .bool a0_1], .int .i64 a1, .int .i64 a2] w fun e w' => e = .returned (.int .i64 r) ∧ Below w.heap.size w w' := by
 have hu25 := Try.underlying25; have HB := A_ (Below.refl w.heap.size w); have H : (if a0_0 = 0 then (none) else (some (Int.tmod (wrap64 ((wrap64 (a2 - a1)) + a0_0)) a0_0))) = some r := h; clear h; by_cases c4 : a0_0 = 0
 ·
  rw [if_pos c4] at H; exact absurd H (by simp)
 ·
  rw [if_neg c4] at H; have c4b0 : (a0_0 == 0) = false := beq_eq_false_iff_ne.mpr c4; have c4b1 : (a0_0 != 0) = true := bne_iff_ne.mpr c4; obtain rfl := Option.some.inj H; go_enter Try.func30, Try.ntmps30
  go_wp2_with (first | ((with_reducible refine gate_dst (N := 3) rfl ?_); refine bx (N := 3) #[.int .i64 a0_0, .bool a0_1] 25 ?_; intro gb242 hg w5 hbox hb; have BK242 := A_ (hbox); have GW242 := A_ (bs hg (hq HB) : w.heap.size ≤ gb242); have GE242 := A_ (bs hg (hq HB) : w.heap.size ≤ gb242); replace HB := A_ (below_step (hq HB) hb); clear hb hbox hg; have hcz6_0 : w5.cell? ⟨gb242, 0, none⟩ = some (.int .i64 a0_0) := bc BK242 0; have hcz6_1 : w5.cell? ⟨gb242, 1, none⟩ = some (.bool a0_1) := bc BK242 1; have hfz6_0 := blk_frozen BK242.out 0; have hfz6_1 := blk_frozen BK242.out 1))
  go_ret
  exact ⟨rt, hq HB⟩

end Go.Proofs.Ytbjpfnpleajhgad.PFnTours
