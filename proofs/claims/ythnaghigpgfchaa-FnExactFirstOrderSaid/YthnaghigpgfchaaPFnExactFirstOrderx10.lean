-- Printed, and told shorter by this session's program shrink.py.
-- Printed by this session's program myprint.py.
import Derived.Test.YthnaghigpgfchaaPFnExactFirstOrderx0
import Derived.Test.YthnaghigpgfchaaPFnExactFirstOrderx9
namespace Go.Proofs.Ythnaghigpgfchaa.PFnExactFirstOrder
open Go.RowKit Go.Proofs.Ythnaghigpgfchaa.Own Go.Proofs.YthnaghigpgfchaaW.PrintWords Go.Proofs.YthnaghigpgfchaaW.PrintLast Go.Proofs.YthnaghigpgfchaaW.PrintMore
attribute [local go_sem] max2_int min2_int max_two min_two max_three min_three max_four min_four   -- for this text's walks alone
set_option linter.unusedVariables false
set_option linter.unusedSimpArgs false

/-! ### slices_IndexFunc_int_int___Road_roundTrip_2: function 100 -/
def slices_IndexFunc_int_int___Road_roundTrip_2.l0 : Nat → List Int → Int → Int → Option (Int)
  | 0, _, _, _ => none
  | k + 1, x0, x7, x8 => if x8 < x7 then (if 0 ≤ x8 then (if x8 < (x0.length : Int) then ((impl_Road_roundTrip_2.f (rd x0 x8)).bind fun t261 => (if t261 = true then (some x8) else (slices_IndexFunc_int_int___Road_roundTrip_2.l0 k x0 x7 (wrap64 (x8 + 1))))) else (none)) else (none)) else (some (-1))
def slices_IndexFunc_int_int___Road_roundTrip_2.f (k : Nat) (l0 : List Int) : Option (Int) := slices_IndexFunc_int_int___Road_roundTrip_2.l0 k l0 (l0.length : Int) 0
theorem slices_IndexFunc_int_int___Road_roundTrip_2.mono_l : ∀ k, (∀ y0 y1 y2, LeO (slices_IndexFunc_int_int___Road_roundTrip_2.l0 k y0 y1 y2) (slices_IndexFunc_int_int___Road_roundTrip_2.l0 (k + 1) y0 y1 y2))
  | 0 => fun _ _ _ r h => by simp [slices_IndexFunc_int_int___Road_roundTrip_2.l0] at h
  | k + 1 => by
    have ih0 := slices_IndexFunc_int_int___Road_roundTrip_2.mono_l k
    · intro y0 y1 y2
      unfold slices_IndexFunc_int_int___Road_roundTrip_2.l0
      repeat' first
      | (with_reducible exact ih0 _ _ _)
      | (with_reducible exact LeO.refl _)
      | (with_reducible exact LeO.none _)
      | (with_reducible refine LeO.ite ?_ ?_)
      | (with_reducible refine LeO.bind ?_ (fun _ => ?_))
      | exact ih0 _ _ _
      | exact LeO.none _
      | refine LeO.ite ?_ ?_
      | refine LeO.bind ?_ (fun _ => ?_)
theorem slices_IndexFunc_int_int___Road_roundTrip_2.mono : ∀ a0 k, LeO (slices_IndexFunc_int_int___Road_roundTrip_2.f k a0) (slices_IndexFunc_int_int___Road_roundTrip_2.f (k + 1) a0) := by
  intro a0 k
  have ih0 := slices_IndexFunc_int_int___Road_roundTrip_2.mono_l k
  unfold slices_IndexFunc_int_int___Road_roundTrip_2.f
  repeat' first
      | (with_reducible exact ih0 _ _ _)
      | (with_reducible exact LeO.refl _)
      | (with_reducible exact LeO.none _)
      | (with_reducible refine LeO.ite ?_ ?_)
      | (with_reducible refine LeO.bind ?_ (fun _ => ?_))
      | exact ih0 _ _ _
      | exact LeO.none _
      | refine LeO.ite ?_ ?_
      | refine LeO.bind ?_ (fun _ => ?_)
set_option maxHeartbeats 8000000 in
set_option maxRecDepth 100000 in
theorem slices_IndexFunc_int_int___Road_roundTrip_2.calls (k : Nat) (A0 : Option Addr) (c0 : Nat) (l0 : List Int) (r : Int) (w : World) (hr0 : Kd.C (Kd.int .i64) w A0 l0.length l0) (hc0 : l0.length ≤ c0) (h : slices_IndexFunc_int_int___Road_roundTrip_2.f k l0 = some r) :
    Calls Try.prog 100 #[.slice A0 l0.length c0, .func (.func 88) #[] #[]] w fun e w' => e = .returned (.int .i64 r) ∧ Below w.heap.size w w' := by
 have HR0 := A_ hr0
 have HC0 := A_ hc0
 clear hr0 hc0
 have HB := A_ (Below.refl w.heap.size w)
 have H : (slices_IndexFunc_int_int___Road_roundTrip_2.l0 k l0 (l0.length : Int) 0) = some r := h
 clear h
 have H' := A_ H
 clear H
 go_enter Try.func100, Try.ntmps100
 go_wp2
 go_loopg [8] k (fun kq v8 w' => ∃ (x8_1 : Int), v8 = .int .i64 x8_1 ∧ Aside0 (slices_IndexFunc_int_int___Road_roundTrip_2.l0 kq l0 (l0.length : Int) x8_1 = some r) ∧ Aside0 (kq ≤ k) ∧ Aside0 (Below w.heap.size w w'))
 case atStart => exact ⟨(0), (by first | rfl | (simp; done) | (simp [*]; done)), H', ⟨Nat.le_refl _⟩, ⟨hq HB⟩⟩
 case round =>
  clear H'
  try clear c1
  obtain ⟨x8_1, rfl, HA, HK1, HB⟩ := hrel
  cases gk with
  | zero => exact absurd HA.out (by simp [slices_IndexFunc_int_int___Road_roundTrip_2.l0])
  | succ k1 =>
   have H := HA.out
   clear HA
   simp only [slices_IndexFunc_int_int___Road_roundTrip_2.l0] at H
   by_cases c2 : x8_1 < (l0.length : Int)
   ·
    rw [if_pos c2] at H
    have c2b0 : decide (x8_1 < (l0.length : Int)) = true := decide_eq_true c2
    clear c2
    by_cases c3 : 0 ≤ x8_1
    ·
     rw [if_pos c3] at H
     have c3b0 : decide (0 ≤ x8_1) = true := decide_eq_true c3
     clear c3
     by_cases c4 : x8_1 < (l0.length : Int)
     ·
      rw [if_pos c4] at H
      have c4b0 : decide (x8_1 < (l0.length : Int)) = true := decide_eq_true c4
      clear c4
      replace H := Option.bind_eq_some_iff.mp H
      obtain ⟨t261, A50, H⟩ := H
      replace H : (if t261 = true then (some x8_1) else (slices_IndexFunc_int_int___Road_roundTrip_2.l0 k1 l0 (l0.length : Int) (wrap64 (x8_1 + 1)))) = some r := H
      have A5 := A_ A50
      clear A50
      by_cases c6 : t261 = true
      ·
       subst c6
       have H1 : (some x8_1) = some r := by rw [if_pos rfl] at H; exact H
       clear H
       have H := H1
       clear H1
       obtain rfl := Option.some.inj H
       have p260 : 0 ≤ (x8_1 : Int) := of_decide_eq_true (by first | (with_reducible assumption) | assumption)
       have q260 : x8_1 < (l0.length : Int) := of_decide_eq_true (by first | (with_reducible assumption) | assumption)
       obtain ⟨ad260, e260, hx260_0⟩ := Kd.at_int HR0.out x8_1 p260 q260
       cases e260
       replace hx260_0 := (HB.out.cell (World.block_lt_of_cell? w _ hx260_0)).trans hx260_0
       replace p260 := eq_true p260
       replace q260 := eq_true q260
       go_wp2_with (first | (go_at_call 88; (with_reducible refine (impl_Road_roundTrip_2.calls (rd l0 x8_1) true _ A5.out).mono ?_); rintro e w' ⟨rfl, ⟨nd, rfl⟩⟩))
       go_ret
       exact ⟨rt, hq HB⟩
      ·
       replace c6 := Bool.eq_false_iff.mpr c6
       subst c6
       have H1 : (slices_IndexFunc_int_int___Road_roundTrip_2.l0 k1 l0 (l0.length : Int) (wrap64 (x8_1 + 1))) = some r := by rw [if_neg (show ¬ (false = true) by decide)] at H; exact H
       clear H
       have H := H1
       clear H1
       have H' := A_ H
       clear H
       have p260 : 0 ≤ (x8_1 : Int) := of_decide_eq_true (by first | (with_reducible assumption) | assumption)
       have q260 : x8_1 < (l0.length : Int) := of_decide_eq_true (by first | (with_reducible assumption) | assumption)
       obtain ⟨ad260, e260, hx260_0⟩ := Kd.at_int HR0.out x8_1 p260 q260
       cases e260
       replace hx260_0 := (HB.out.cell (World.block_lt_of_cell? w _ hx260_0)).trans hx260_0
       replace p260 := eq_true p260
       replace q260 := eq_true q260
       go_wp2_with (first | (go_at_call 88; (with_reducible refine (impl_Road_roundTrip_2.calls (rd l0 x8_1) false _ A5.out).mono ?_); rintro e w' ⟨rfl, ⟨nd, rfl⟩⟩))
       go_roundg k1
       case measure => have := HK1.out; omega
       case rel => exact ⟨(wrap64 (x8_1 + 1)), (by first | rfl | (simp; done) | (simp [*]; done)), H', ⟨by have := HK1.out; omega⟩, ⟨hq HB⟩⟩
     ·
      rw [if_neg c4] at H
      exact absurd H (by simp)
    ·
     rw [if_neg c3] at H
     exact absurd H (by simp)
   ·
    rw [if_neg c2] at H
    have c2b0 : decide (x8_1 < (l0.length : Int)) = false := decide_eq_false c2
    clear c2
    obtain rfl := Option.some.inj H
    go_wp2
    go_ret
    exact ⟨rt, hq HB⟩

/-! ### slices.DeleteFunc at ints, all that are 0 taken out, by the contract that is laid from the shelf -/
def slices_DeleteFunc_int_int___Road_roundTrip_2.f (k : Nat) (l0 : List Int) : Option (List Int) := some (l0.filter fun x => !(x == 0))
theorem slices_DeleteFunc_int_int___Road_roundTrip_2.mono : ∀ a0 k, LeO (slices_DeleteFunc_int_int___Road_roundTrip_2.f k a0) (slices_DeleteFunc_int_int___Road_roundTrip_2.f (k + 1) a0) := by
  intro a0 k
  exact LeO.refl _
theorem idx_roundTrip_none : slices_IndexFunc_int_int___Road_roundTrip_2.f 1 [] = some (-1) := rfl
set_option maxHeartbeats 8000000 in
set_option maxRecDepth 100000 in
theorem del_roundTrip_none (c : Nat) (w : World) : Calls Try.prog 87 #[.slice none 0 c, .func (.func 88) #[] #[]] w fun e w' => e = .returned (.slice none 0 c) ∧ Below w.heap.size w w' := by
  have HB := A_ (Below.refl w.heap.size w)
  go_enter Try.func87, Try.ntmps87
  go_wp2_with (go_at_call 100; (refine (slices_IndexFunc_int_int___Road_roundTrip_2.calls 1 none c [] (-1) _ ?side1 ?side2 idx_roundTrip_none).mono ?_); (case side1 => exact Kd.C_nil _ _); (case side2 => exact Nat.zero_le _); rintro e w10 ⟨rfl, hb⟩; have HB2 := A_ (below_step HB.out hb); clear hb)
  go_ret
  exact ⟨rfl, HB2.out⟩
theorem pred_roundTrip (W : World) (x : Int) : FnGives Try.prog 88 #[] #[.int .i64 x] (.bool (x == 0)) W := by
  show Calls Try.prog 88 #[.int .i64 x] W _
  refine (impl_Road_roundTrip_2.calls x (x == 0) W rfl).mono ?_
  rintro e w' ⟨he, hd⟩
  exact ⟨he, hd.out⟩
theorem slices_DeleteFunc_int_int___Road_roundTrip_2.calls (k : Nat) (P0_ : Nat → Prop) (u9000_ : Value) (l0 : List Int) (r : List Int) (w0 w : World) (hB : Below w0.heap.size w0 w) (ho0 : Kd.R (Kd.int .i64) 3 w w0.heap.size P0_ u9000_ l0) (h : slices_DeleteFunc_int_int___Road_roundTrip_2.f k l0 = some r) :
    Calls Try.prog 87 #[u9000_, .func (.func 88) #[] #[]] w fun e w' => ∃ v0_ : Value, e = .returned (v0_) ∧ Kd.R (Kd.int .i64) 3 w' w0.heap.size (fun k_ => (P0_ k_ ∨ w.heap.size ≤ k_)) v0_ r ∧ Below w0.heap.size w0 w' ∧ Kept w w' (fun k_ => P0_ k_) := by
 obtain rfl := Option.some.inj h
 have hsz : w0.heap.size ≤ w.heap.size := hB.size
 have ho := Kd.own_of_R ho0
 rcases ho.2 with ⟨hv, hz⟩ | ⟨g, cap, cur, rfl, hg, hh, hn, hm, hc, ht⟩
 ·
  have hl : l0 = [] := List.eq_nil_of_length_eq_zero hz
  subst hl
  subst hv
  refine (del_roundTrip_none 0 w).mono ?_
  rintro e w' ⟨rfl, hb⟩
  exact ⟨_, rfl, Kd.R_nil _ _ _ _ _, hB.trans (hb.mono hB.size), ⟨hb.size, fun i hi _ => hb.block i hi⟩⟩
 ·
  have hlt : g < w.heap.size := (Array.getElem?_eq_some_iff.1 hh).1
  have hlen : (l0.filter fun x => !(x == 0)).length ≤ l0.length := List.length_filter_le _ _
  have eg : ∀ args w, (callFunc 88 args).run Try.prog w = .ok (.enter 88 args) w := enters_of Try.func88 (by kernel_rfl) rfl
  have hcon := Go.Proofs.Ythnaghigpgfchaa.Shelf.slices_DeleteFunc (Value.int .i64) (fun _ => rfl) (fun x : Int => x == 0) 88 #[] eg 0 Try.zeroValue3 g 0 cap l0.toArray w (fun W x _ => pred_roundTrip W x) (fun n os dk x _ => pred_roundTrip _ x) (holds_of_blockI hh (by simpa [encs] using ht)) (by unfold maxLen at hm; simp; omega) (by simpa using hn)
  rw [List.size_toArray] at hcon
  refine hcon.mono ?_
  rintro e w' ⟨he, q, rfl⟩
  have hts : ((l0.filter fun x => !(x == 0)) ++ List.replicate (l0.length - (l0.filter fun x => !(x == 0)).length) 0).length = l0.length := by
   rw [List.length_append, List.length_replicate]
   omega
  have hgr := grownBy_sortedI (w := w) (g := g) (n := q) (os := #[]) ((l0.filter fun x => !(x == 0)) ++ List.replicate (l0.length - (l0.filter fun x => !(x == 0)).length) 0).toArray
  have hown := ownsRow_sortedI (n := q) (os := #[]) (ts := (l0.filter fun x => !(x == 0)) ++ List.replicate (l0.length - (l0.filter fun x => !(x == 0)).length) 0) hts hg hh hn hm hc
  rw [Go.Sort.grow_empty] at hgr hown
  refine ⟨_, he, Kd.R_of_own ?_ (fun k_ hk => .inl (ho0.1 k_ hk)), hB.grown hgr hsz (fun k_ e_ => by injection e_ with e_; omega), Kept.of_grown hgr (Kept.refl _ _) (fun k_ e_ => .inl (ho0.1 k_ (by injection e_ with e_; subst e_; rfl)))⟩
  rcases hown.2 with ⟨hv, _⟩ | ⟨g', cap', cur', hv, hg', hh', hn', hm', hc', ht'⟩
  ·
   exact absurd hv (by simp)
  ·
   injection hv with h1 h2 h3
   injection h1 with h1
   injection h1 with h1
   subst h1
   subst h3
   refine ⟨by simp [encs], .inr ⟨g, cap, cur', rfl, hg', by first | exact hh' | simpa using hh', Nat.le_trans hlen hn', hm', hc', ?_⟩⟩
   rw [Nat.mul_one] at ht'
   have h5 := congrArg (List.take (l0.filter fun x => !(x == 0)).length) ht'
   rw [List.take_take, Nat.min_eq_left hlen] at h5
   simpa [encs] using h5

/-! ### impl_Road_roundTrip: function 64 -/
mutual
def impl_Road_roundTrip.j0 : Nat → List Int → Int → Bool → Option (Int)
  | 0, _, _, _ => none
  | k + 1, x7, x263000, x263001 => if x263001 = true then (impl_Road_roundTrip.l1 k x7 x263000 (wrap64 ((x7.length : Int) + 1)) 0 x263000 x263001) else (impl_Road_roundTrip.l0 k 0 0 x7 (x7.length : Int) 0)
def impl_Road_roundTrip.l1 : Nat → List Int → Int → Int → Int → Int → Bool → Option (Int)
  | 0, _, _, _, _, _, _ => none
  | k + 1, x7, x12, x50, x51, x263000, x263001 => if x51 < x50 then (if x51 > 0 then (if 0 ≤ (wrap64 (x51 - 1)) then (if (wrap64 (x51 - 1)) < (x7.length : Int) then (if x51 < (x7.length : Int) then (if 0 ≤ x51 then (impl_Road_roundTrip.l1 k x7 (mn x12 (wrap64 (2 * (wrap64 ((rd x7 (wrap64 (x51 - 1))) + (wrap64 (x263000 - (rd x7 x51)))))))) x50 (wrap64 (x51 + 1)) x263000 x263001) else (none)) else (impl_Road_roundTrip.l1 k x7 (mn x12 (wrap64 (2 * (wrap64 (rd x7 (wrap64 (x51 - 1))))))) x50 (wrap64 (x51 + 1)) x263000 x263001)) else (none)) else (none)) else (if x51 < (x7.length : Int) then (if 0 ≤ x51 then (impl_Road_roundTrip.l1 k x7 (mn x12 (wrap64 (2 * (wrap64 (wrap64 (x263000 - (rd x7 x51))))))) x50 (wrap64 (x51 + 1)) x263000 x263001) else (none)) else (impl_Road_roundTrip.l1 k x7 (mn x12 0) x50 (wrap64 (x51 + 1)) x263000 x263001))) else (some x12)
def impl_Road_roundTrip.l0 : Nat → Int → Int → List Int → Int → Int → Option (Int)
  | 0, _, _, _, _, _ => none
  | k + 1, x8, x9, x28, x29, x30 => if x30 < x29 then (if 0 ≤ x30 then (if x30 < (x28.length : Int) then (impl_Road_roundTrip.l0 k (mx x8 (rd x28 x30)) (mx x9 (wrap64 (-(rd x28 x30)))) x28 x29 (wrap64 (x30 + 1))) else (none)) else (none)) else (some (wrap64 (2 * (wrap64 (x8 + x9)))))
end
def impl_Road_roundTrip.f (k : Nat) (a0_0 : Int) (a0_1 : Bool) (a1 : Int) (l2 : List Int) : Option (Int) := (impl_mapped__Road_roundTrip_1.f k l2 a0_0 a0_1 a1).bind fun t264 => ((slices_Sort_int_int.f k t264).bind fun t267 => (if a0_1 = true then ((slices_DeleteFunc_int_int___Road_roundTrip_2.f k t267).bind fun t268 => (impl_Road_roundTrip.j0 k t268 a0_0 a0_1)) else (impl_Road_roundTrip.j0 k t267 a0_0 a0_1)))
theorem impl_Road_roundTrip.mono_l : ∀ k, (∀ y0 y1 y2, LeO (impl_Road_roundTrip.j0 k y0 y1 y2) (impl_Road_roundTrip.j0 (k + 1) y0 y1 y2)) ∧ (∀ y0 y1 y2 y3 y4 y5, LeO (impl_Road_roundTrip.l1 k y0 y1 y2 y3 y4 y5) (impl_Road_roundTrip.l1 (k + 1) y0 y1 y2 y3 y4 y5)) ∧ (∀ y0 y1 y2 y3 y4, LeO (impl_Road_roundTrip.l0 k y0 y1 y2 y3 y4) (impl_Road_roundTrip.l0 (k + 1) y0 y1 y2 y3 y4))
  | 0 => ⟨fun _ _ _ r h => by simp [impl_Road_roundTrip.j0] at h, fun _ _ _ _ _ _ r h => by simp [impl_Road_roundTrip.l1] at h, fun _ _ _ _ _ r h => by simp [impl_Road_roundTrip.l0] at h⟩
  | k + 1 => by
    obtain ⟨ih0, ih1, ih2⟩ := impl_Road_roundTrip.mono_l k
    refine ⟨?_, ?_, ?_⟩
    · intro y0 y1 y2
      unfold impl_Road_roundTrip.j0
      repeat' first
      | (with_reducible exact ih0 _ _ _)
      | (with_reducible exact ih1 _ _ _ _ _ _)
      | (with_reducible exact ih2 _ _ _ _ _)
      | (with_reducible exact impl_mapped__Road_roundTrip_1.mono _ _ _ _ _)
      | (with_reducible exact slices_DeleteFunc_int_int___Road_roundTrip_2.mono _ _)
      | (with_reducible exact slices_Sort_int_int.mono _ _)
      | (with_reducible exact LeO.refl _)
      | (with_reducible exact LeO.none _)
      | (with_reducible refine LeO.ite ?_ ?_)
      | (with_reducible refine LeO.bind ?_ (fun _ => ?_))
      | exact ih0 _ _ _
      | exact ih1 _ _ _ _ _ _
      | exact ih2 _ _ _ _ _
      | exact impl_mapped__Road_roundTrip_1.mono _ _ _ _ _
      | exact slices_DeleteFunc_int_int___Road_roundTrip_2.mono _ _
      | exact slices_Sort_int_int.mono _ _
      | exact LeO.none _
      | refine LeO.ite ?_ ?_
      | refine LeO.bind ?_ (fun _ => ?_)
    · intro y0 y1 y2 y3 y4 y5
      unfold impl_Road_roundTrip.l1
      repeat' first
      | (with_reducible exact ih0 _ _ _)
      | (with_reducible exact ih1 _ _ _ _ _ _)
      | (with_reducible exact ih2 _ _ _ _ _)
      | (with_reducible exact impl_mapped__Road_roundTrip_1.mono _ _ _ _ _)
      | (with_reducible exact slices_DeleteFunc_int_int___Road_roundTrip_2.mono _ _)
      | (with_reducible exact slices_Sort_int_int.mono _ _)
      | (with_reducible exact LeO.refl _)
      | (with_reducible exact LeO.none _)
      | (with_reducible refine LeO.ite ?_ ?_)
      | (with_reducible refine LeO.bind ?_ (fun _ => ?_))
      | exact ih0 _ _ _
      | exact ih1 _ _ _ _ _ _
      | exact ih2 _ _ _ _ _
      | exact impl_mapped__Road_roundTrip_1.mono _ _ _ _ _
      | exact slices_DeleteFunc_int_int___Road_roundTrip_2.mono _ _
      | exact slices_Sort_int_int.mono _ _
      | exact LeO.none _
      | refine LeO.ite ?_ ?_
      | refine LeO.bind ?_ (fun _ => ?_)
    · intro y0 y1 y2 y3 y4
      unfold impl_Road_roundTrip.l0
      repeat' first
      | (with_reducible exact ih0 _ _ _)
      | (with_reducible exact ih1 _ _ _ _ _ _)
      | (with_reducible exact ih2 _ _ _ _ _)
      | (with_reducible exact impl_mapped__Road_roundTrip_1.mono _ _ _ _ _)
      | (with_reducible exact slices_DeleteFunc_int_int___Road_roundTrip_2.mono _ _)
      | (with_reducible exact slices_Sort_int_int.mono _ _)
      | (with_reducible exact LeO.refl _)
      | (with_reducible exact LeO.none _)
      | (with_reducible refine LeO.ite ?_ ?_)
      | (with_reducible refine LeO.bind ?_ (fun _ => ?_))
      | exact ih0 _ _ _
      | exact ih1 _ _ _ _ _ _
      | exact ih2 _ _ _ _ _
      | exact impl_mapped__Road_roundTrip_1.mono _ _ _ _ _
      | exact slices_DeleteFunc_int_int___Road_roundTrip_2.mono _ _
      | exact slices_Sort_int_int.mono _ _
      | exact LeO.none _
      | refine LeO.ite ?_ ?_
      | refine LeO.bind ?_ (fun _ => ?_)
theorem impl_Road_roundTrip.mono : ∀ a0 a1 a2 a3 k, LeO (impl_Road_roundTrip.f k a0 a1 a2 a3) (impl_Road_roundTrip.f (k + 1) a0 a1 a2 a3) := by
  intro a0 a1 a2 a3 k
  obtain ⟨ih0, ih1, ih2⟩ := impl_Road_roundTrip.mono_l k
  unfold impl_Road_roundTrip.f
  repeat' first
      | (with_reducible exact ih0 _ _ _)
      | (with_reducible exact ih1 _ _ _ _ _ _)
      | (with_reducible exact ih2 _ _ _ _ _)
      | (with_reducible exact impl_mapped__Road_roundTrip_1.mono _ _ _ _ _)
      | (with_reducible exact slices_DeleteFunc_int_int___Road_roundTrip_2.mono _ _)
      | (with_reducible exact slices_Sort_int_int.mono _ _)
      | (with_reducible exact LeO.refl _)
      | (with_reducible exact LeO.none _)
      | (with_reducible refine LeO.ite ?_ ?_)
      | (with_reducible refine LeO.bind ?_ (fun _ => ?_))
      | exact ih0 _ _ _
      | exact ih1 _ _ _ _ _ _
      | exact ih2 _ _ _ _ _
      | exact impl_mapped__Road_roundTrip_1.mono _ _ _ _ _
      | exact slices_DeleteFunc_int_int___Road_roundTrip_2.mono _ _
      | exact slices_Sort_int_int.mono _ _
      | exact LeO.none _
      | refine LeO.ite ?_ ?_
      | refine LeO.bind ?_ (fun _ => ?_)
set_option maxHeartbeats 8000000 in
set_option maxRecDepth 100000 in
theorem impl_Road_roundTrip.calls (k : Nat) (a0_0 : Int) (a0_1 : Bool) (a1 : Int) (A2 : Option Addr) (c2 : Nat) (l2 : List Int) (r : Int) (w : World) (hr2 : Kd.C (Kd.int .i64) w A2 l2.length l2) (hc2 : l2.length ≤ c2) (h : impl_Road_roundTrip.f k a0_0 a0_1 a1 l2 = some r) :
    Calls Try.prog 64 #[.agg #[.int .i64 a0_0, .bool a0_1], .int .i64 a1, .slice A2 l2.length c2] w fun e w' => e = .returned (.int .i64 r) ∧ Below w.heap.size w w' := by
 have hu27 := Try.underlying27
 have HR2 := A_ hr2
 have HC2 := A_ hc2
 clear hr2 hc2
 have HB := A_ (Below.refl w.heap.size w)
 have H : ((impl_mapped__Road_roundTrip_1.f k l2 a0_0 a0_1 a1).bind fun t264 => ((slices_Sort_int_int.f k t264).bind fun t267 => (if a0_1 = true then ((slices_DeleteFunc_int_int___Road_roundTrip_2.f k t267).bind fun t268 => (impl_Road_roundTrip.j0 k t268 a0_0 a0_1)) else (impl_Road_roundTrip.j0 k t267 a0_0 a0_1)))) = some r := h
 clear h
 replace H := Option.bind_eq_some_iff.mp H
 obtain ⟨t264, A40, H⟩ := H
 replace H : ((slices_Sort_int_int.f k t264).bind fun t267 => (if a0_1 = true then ((slices_DeleteFunc_int_int___Road_roundTrip_2.f k t267).bind fun t268 => (impl_Road_roundTrip.j0 k t268 a0_0 a0_1)) else (impl_Road_roundTrip.j0 k t267 a0_0 a0_1))) = some r := H
 have A4 := A_ A40
 clear A40
 replace H := Option.bind_eq_some_iff.mp H
 obtain ⟨t267, A50, H⟩ := H
 replace H : (if a0_1 = true then ((slices_DeleteFunc_int_int___Road_roundTrip_2.f k t267).bind fun t268 => (impl_Road_roundTrip.j0 k t268 a0_0 a0_1)) else (impl_Road_roundTrip.j0 k t267 a0_0 a0_1)) = some r := H
 have A5 := A_ A50
 clear A50
 have HC6 := A_ H
 clear H
 go_enter Try.func64, Try.ntmps64
 go_upto_if 22 with (first | ((with_reducible refine gate_dst (N := 3) rfl ?_); refine box_event ?hg (N := 3) ?hd (cs := #[.int .i64 a0_0, .bool a0_1]) (t := 27) ?hr ?_; (case hd => rfl); (case hg => rfl); (case hr => first | (go_simp; done) | (go_simp; rfl)); intro gb262 hg w7 hbox hb; have n0_ := A_ (below_step (hq HB) hb); have n1_ := A_ (hbox); have n2_ := A_ ((by rw [hg]; exact (below_size (hq HB)) : w.heap.size ≤ gb262)); have n3_ := A_ ((by rw [hg]; exact (below_size (hq HB)) : w.heap.size ≤ gb262)); clear HB; have HB := n0_; have BK262 := n1_; have GW262 := n2_; have GE262 := n3_; clear n0_ n1_ n2_ n3_; clear hb hbox hg) | ((with_reducible refine gate_dst (N := 4) rfl ?_); refine box_event ?hg (N := 4) ?hd (cs := #[.int .i64 a1]) (t := 3) ?hr ?_; (case hd => rfl); (case hg => rfl); (case hr => first | (go_simp; done) | (go_simp; rfl)); intro gb263 hg w8 hbox hb; have n0_ := A_ (blk_below (bq BK262) hb); have n1_ := A_ (below_step (hq HB) hb); have n2_ := A_ (hbox); have n3_ := A_ ((by rw [hg]; exact (below_size (hq HB)) : w.heap.size ≤ gb263)); have n4_ := A_ ((by rw [hg]; exact (below_size (hq HB)) : w.heap.size ≤ gb263)); have n5_ := A_ ((by rw [hg]; exact Nat.ne_of_lt (blk_lt (bq BK262)) : gb262 ≠ gb263)); have n6_ := A_ ((by rw [hg]; exact Nat.ne_of_gt (blk_lt (bq BK262)) : gb263 ≠ gb262)); clear BK262; clear HB; have BK262 := n0_; have HB := n1_; have BK263 := n2_; have GW263 := n3_; have GE263 := n4_; have NB262_263 := n5_; have NB263_262 := n6_; clear n0_ n1_ n2_ n3_ n4_ n5_ n6_; clear hb hbox hg) | (go_at_call 85; (with_reducible refine (impl_mapped__Road_roundTrip_1.calls k _ _ l2 gb262 a0_0 a0_1 gb263 a1 t264 _ ?side1 ?side2 ?side3 ?side4 A4.out).mono ?_); (case side1 => (with_reducible repeat (first | refine blk_drewN ?_ _ | refine blk_drew ?_ | refine blk_alloc ?_ _)); exact BK262.out); (case side2 => (with_reducible repeat (first | refine blk_drewN ?_ _ | refine blk_drew ?_ | refine blk_alloc ?_ _)); exact BK263.out); (case side3 => exact cq (Kd.C_below HR2.out HB.out)); (case side4 => exact HC2.out); rintro e w9 ⟨v265, rfl, ho0, hb⟩; have n0_ := A_ (Kd.R_lower (Kd.R_newB ho0 (g := gb263) (o := .cells #[.int .i64 a1] 3 (0, 0)) (bq BK263)) (below_size (hq HB))); have n1_ := A_ (blk_below (bq BK262) hb); have n2_ := A_ (blk_below (bq BK263) hb); have n3_ := A_ (below_step (hq HB) hb); clear BK262; clear BK263; clear HB; have HO266 := n0_; have BK262 := n1_; have BK263 := n2_; have HB := n3_; clear n0_ n1_ n2_ n3_; (try clear hb); (try clear hb2); (try clear hk); (try clear hi); (try clear ho0); obtain ⟨Ao10, co10, eo10⟩ := Kd.R_slice HO266.out; subst eo10) | (go_at_call 45; (with_reducible refine (slices_Sort_int_int.calls k (fun k_ => some k_ = (.slice Ao10 t264.length co10 : Value).ownBlock) (.slice Ao10 t264.length co10) t264 t267 w _ ?side1 ?side2 A5.out).mono ?_); (case side1 => repeat (first | (with_reducible first | exact HB.out | apply below_alloc | apply pw_below_drewN | apply below_drew1 | refine below_set ?_ GE262.out | refine below_set ?_ GE263.out) | exact HB.out)); (case side2 => exact Kd.R_tight rfl HO266.out); rintro e w11 ⟨rfl, hy0, hb, hkp⟩; have n0_ := A_ (blk_kept (bq BK262) hkp (fun hs_ => (fun e_ => (Kd.R_ne HO266.out BK262.out (by decide)) e_) hs_)); have n1_ := A_ (blk_kept (bq BK263) hkp (fun hs_ => (fun e_ => (Kd.R_away HO266.out (fun _ hk => hk.2)) e_) hs_)); have n2_ := A_ (Kd.R_reok rfl hy0 (fun k_ e_ => HO266.out.1 k_ e_)); have n3_ := A_ (hb); clear BK262; clear BK263; clear HO266; clear HB; have BK262 := n0_; have BK263 := n1_; have HO266 := n2_; have HB := n3_; clear n0_ n1_ n2_ n3_; (try clear hb); (try clear hkp); (try clear hy0); have hnb12 := NB262_263.out; have hnc12 := NB263_262.out; have hcz13_0 : w11.cell? ⟨gb262, 0, none⟩ = some (.int .i64 a0_0) := bc BK262 0; have hcz13_1 : w11.cell? ⟨gb262, 1, none⟩ = some (.bool a0_1) := bc BK262 1; have hfz13_0 := blk_frozen BK262.out 0; have hfz13_1 := blk_frozen BK262.out 1))
 repeat (go_quiet (first | ((with_reducible refine gate_dst (N := 3) rfl ?_); refine box_event ?hg (N := 3) ?hd (cs := #[.int .i64 a0_0, .bool a0_1]) (t := 27) ?hr ?_; (case hd => rfl); (case hg => rfl); (case hr => first | (go_simp; done) | (go_simp; rfl)); intro gb262 hg w7 hbox hb; have n0_ := A_ (below_step (hq HB) hb); have n1_ := A_ (hbox); have n2_ := A_ ((by rw [hg]; exact (below_size (hq HB)) : w.heap.size ≤ gb262)); have n3_ := A_ ((by rw [hg]; exact (below_size (hq HB)) : w.heap.size ≤ gb262)); clear HB; have HB := n0_; have BK262 := n1_; have GW262 := n2_; have GE262 := n3_; clear n0_ n1_ n2_ n3_; clear hb hbox hg) | ((with_reducible refine gate_dst (N := 4) rfl ?_); refine box_event ?hg (N := 4) ?hd (cs := #[.int .i64 a1]) (t := 3) ?hr ?_; (case hd => rfl); (case hg => rfl); (case hr => first | (go_simp; done) | (go_simp; rfl)); intro gb263 hg w8 hbox hb; have n0_ := A_ (blk_below (bq BK262) hb); have n1_ := A_ (below_step (hq HB) hb); have n2_ := A_ (hbox); have n3_ := A_ ((by rw [hg]; exact (below_size (hq HB)) : w.heap.size ≤ gb263)); have n4_ := A_ ((by rw [hg]; exact (below_size (hq HB)) : w.heap.size ≤ gb263)); have n5_ := A_ ((by rw [hg]; exact Nat.ne_of_lt (blk_lt (bq BK262)) : gb262 ≠ gb263)); have n6_ := A_ ((by rw [hg]; exact Nat.ne_of_gt (blk_lt (bq BK262)) : gb263 ≠ gb262)); clear BK262; clear HB; have BK262 := n0_; have HB := n1_; have BK263 := n2_; have GW263 := n3_; have GE263 := n4_; have NB262_263 := n5_; have NB263_262 := n6_; clear n0_ n1_ n2_ n3_ n4_ n5_ n6_; clear hb hbox hg) | (go_at_call 85; (with_reducible refine (impl_mapped__Road_roundTrip_1.calls k _ _ l2 gb262 a0_0 a0_1 gb263 a1 t264 _ ?side1 ?side2 ?side3 ?side4 A4.out).mono ?_); (case side1 => (with_reducible repeat (first | refine blk_drewN ?_ _ | refine blk_drew ?_ | refine blk_alloc ?_ _)); exact BK262.out); (case side2 => (with_reducible repeat (first | refine blk_drewN ?_ _ | refine blk_drew ?_ | refine blk_alloc ?_ _)); exact BK263.out); (case side3 => exact cq (Kd.C_below HR2.out HB.out)); (case side4 => exact HC2.out); rintro e w9 ⟨v265, rfl, ho0, hb⟩; have n0_ := A_ (Kd.R_lower (Kd.R_newB ho0 (g := gb263) (o := .cells #[.int .i64 a1] 3 (0, 0)) (bq BK263)) (below_size (hq HB))); have n1_ := A_ (blk_below (bq BK262) hb); have n2_ := A_ (blk_below (bq BK263) hb); have n3_ := A_ (below_step (hq HB) hb); clear BK262; clear BK263; clear HB; have HO266 := n0_; have BK262 := n1_; have BK263 := n2_; have HB := n3_; clear n0_ n1_ n2_ n3_; (try clear hb); (try clear hb2); (try clear hk); (try clear hi); (try clear ho0); obtain ⟨Ao10, co10, eo10⟩ := Kd.R_slice HO266.out; subst eo10) | (go_at_call 45; (with_reducible refine (slices_Sort_int_int.calls k (fun k_ => some k_ = (.slice Ao10 t264.length co10 : Value).ownBlock) (.slice Ao10 t264.length co10) t264 t267 w _ ?side1 ?side2 A5.out).mono ?_); (case side1 => repeat (first | (with_reducible first | exact HB.out | apply below_alloc | apply pw_below_drewN | apply below_drew1 | refine below_set ?_ GE262.out | refine below_set ?_ GE263.out) | exact HB.out)); (case side2 => exact Kd.R_tight rfl HO266.out); rintro e w11 ⟨rfl, hy0, hb, hkp⟩; have n0_ := A_ (blk_kept (bq BK262) hkp (fun hs_ => (fun e_ => (Kd.R_ne HO266.out BK262.out (by decide)) e_) hs_)); have n1_ := A_ (blk_kept (bq BK263) hkp (fun hs_ => (fun e_ => (Kd.R_away HO266.out (fun _ hk => hk.2)) e_) hs_)); have n2_ := A_ (Kd.R_reok rfl hy0 (fun k_ e_ => HO266.out.1 k_ e_)); have n3_ := A_ (hb); clear BK262; clear BK263; clear HO266; clear HB; have BK262 := n0_; have BK263 := n1_; have HO266 := n2_; have HB := n3_; clear n0_ n1_ n2_ n3_; (try clear hb); (try clear hkp); (try clear hy0); have hnb12 := NB262_263.out; have hnc12 := NB263_262.out; have hcz13_0 : w11.cell? ⟨gb262, 0, none⟩ = some (.int .i64 a0_0) := bc BK262 0; have hcz13_1 : w11.cell? ⟨gb262, 1, none⟩ = some (.bool a0_1) := bc BK262 1; have hfz13_0 := blk_frozen BK262.out 0; have hfz13_1 := blk_frozen BK262.out 1)); go_upto_if 22 with (first | ((with_reducible refine gate_dst (N := 3) rfl ?_); refine box_event ?hg (N := 3) ?hd (cs := #[.int .i64 a0_0, .bool a0_1]) (t := 27) ?hr ?_; (case hd => rfl); (case hg => rfl); (case hr => first | (go_simp; done) | (go_simp; rfl)); intro gb262 hg w7 hbox hb; have n0_ := A_ (below_step (hq HB) hb); have n1_ := A_ (hbox); have n2_ := A_ ((by rw [hg]; exact (below_size (hq HB)) : w.heap.size ≤ gb262)); have n3_ := A_ ((by rw [hg]; exact (below_size (hq HB)) : w.heap.size ≤ gb262)); clear HB; have HB := n0_; have BK262 := n1_; have GW262 := n2_; have GE262 := n3_; clear n0_ n1_ n2_ n3_; clear hb hbox hg) | ((with_reducible refine gate_dst (N := 4) rfl ?_); refine box_event ?hg (N := 4) ?hd (cs := #[.int .i64 a1]) (t := 3) ?hr ?_; (case hd => rfl); (case hg => rfl); (case hr => first | (go_simp; done) | (go_simp; rfl)); intro gb263 hg w8 hbox hb; have n0_ := A_ (blk_below (bq BK262) hb); have n1_ := A_ (below_step (hq HB) hb); have n2_ := A_ (hbox); have n3_ := A_ ((by rw [hg]; exact (below_size (hq HB)) : w.heap.size ≤ gb263)); have n4_ := A_ ((by rw [hg]; exact (below_size (hq HB)) : w.heap.size ≤ gb263)); have n5_ := A_ ((by rw [hg]; exact Nat.ne_of_lt (blk_lt (bq BK262)) : gb262 ≠ gb263)); have n6_ := A_ ((by rw [hg]; exact Nat.ne_of_gt (blk_lt (bq BK262)) : gb263 ≠ gb262)); clear BK262; clear HB; have BK262 := n0_; have HB := n1_; have BK263 := n2_; have GW263 := n3_; have GE263 := n4_; have NB262_263 := n5_; have NB263_262 := n6_; clear n0_ n1_ n2_ n3_ n4_ n5_ n6_; clear hb hbox hg) | (go_at_call 85; (with_reducible refine (impl_mapped__Road_roundTrip_1.calls k _ _ l2 gb262 a0_0 a0_1 gb263 a1 t264 _ ?side1 ?side2 ?side3 ?side4 A4.out).mono ?_); (case side1 => (with_reducible repeat (first | refine blk_drewN ?_ _ | refine blk_drew ?_ | refine blk_alloc ?_ _)); exact BK262.out); (case side2 => (with_reducible repeat (first | refine blk_drewN ?_ _ | refine blk_drew ?_ | refine blk_alloc ?_ _)); exact BK263.out); (case side3 => exact cq (Kd.C_below HR2.out HB.out)); (case side4 => exact HC2.out); rintro e w9 ⟨v265, rfl, ho0, hb⟩; have n0_ := A_ (Kd.R_lower (Kd.R_newB ho0 (g := gb263) (o := .cells #[.int .i64 a1] 3 (0, 0)) (bq BK263)) (below_size (hq HB))); have n1_ := A_ (blk_below (bq BK262) hb); have n2_ := A_ (blk_below (bq BK263) hb); have n3_ := A_ (below_step (hq HB) hb); clear BK262; clear BK263; clear HB; have HO266 := n0_; have BK262 := n1_; have BK263 := n2_; have HB := n3_; clear n0_ n1_ n2_ n3_; (try clear hb); (try clear hb2); (try clear hk); (try clear hi); (try clear ho0); obtain ⟨Ao10, co10, eo10⟩ := Kd.R_slice HO266.out; subst eo10) | (go_at_call 45; (with_reducible refine (slices_Sort_int_int.calls k (fun k_ => some k_ = (.slice Ao10 t264.length co10 : Value).ownBlock) (.slice Ao10 t264.length co10) t264 t267 w _ ?side1 ?side2 A5.out).mono ?_); (case side1 => repeat (first | (with_reducible first | exact HB.out | apply below_alloc | apply pw_below_drewN | apply below_drew1 | refine below_set ?_ GE262.out | refine below_set ?_ GE263.out) | exact HB.out)); (case side2 => exact Kd.R_tight rfl HO266.out); rintro e w11 ⟨rfl, hy0, hb, hkp⟩; have n0_ := A_ (blk_kept (bq BK262) hkp (fun hs_ => (fun e_ => (Kd.R_ne HO266.out BK262.out (by decide)) e_) hs_)); have n1_ := A_ (blk_kept (bq BK263) hkp (fun hs_ => (fun e_ => (Kd.R_away HO266.out (fun _ hk => hk.2)) e_) hs_)); have n2_ := A_ (Kd.R_reok rfl hy0 (fun k_ e_ => HO266.out.1 k_ e_)); have n3_ := A_ (hb); clear BK262; clear BK263; clear HO266; clear HB; have BK262 := n0_; have BK263 := n1_; have HO266 := n2_; have HB := n3_; clear n0_ n1_ n2_ n3_; (try clear hb); (try clear hkp); (try clear hy0); have hnb12 := NB262_263.out; have hnc12 := NB263_262.out; have hcz13_0 : w11.cell? ⟨gb262, 0, none⟩ = some (.int .i64 a0_0) := bc BK262 0; have hcz13_1 : w11.cell? ⟨gb262, 1, none⟩ = some (.bool a0_1) := bc BK262 1; have hfz13_0 := blk_frozen BK262.out 0; have hfz13_1 := blk_frozen BK262.out 1)))
 (try simp only [Act.put, List.setIfInBounds_toArray, List.set_cons_zero, List.set_cons_succ])
 go_cut [7] (fun v7 wc => ∃ (kq : Nat) (x7_5 : List Int), Aside0 (impl_Road_roundTrip.j0 kq x7_5 a0_0 a0_1 = some r) ∧ Aside0 (kq ≤ k) ∧ Aside0 (Kd.R (Kd.int .i64) 3 wc w.heap.size (fun k_ => k_ ≠ gb263) v7 x7_5) ∧ Aside0 (wc.heap[gb262]? = some (.cells #[.int .i64 a0_0, .bool a0_1] 27 (0, 0))) ∧ Aside0 (wc.heap[gb263]? = some (.cells #[.int .i64 a1] 3 (0, 0))) ∧ Aside0 (Below w.heap.size w wc))
 case first =>
  have H := HC6.out
  clear HC6
  by_cases c14 : a0_1 = true
  ·
   subst c14
   have H1 : ((slices_DeleteFunc_int_int___Road_roundTrip_2.f k t267).bind fun t268 => (impl_Road_roundTrip.j0 k t268 a0_0 true)) = some r := by rw [if_pos rfl] at H; exact H
   clear H
   have H := H1
   clear H1
   replace H := Option.bind_eq_some_iff.mp H
   obtain ⟨t268, A150, H⟩ := H
   replace H : (impl_Road_roundTrip.j0 k t268 a0_0 true) = some r := H
   have A15 := A_ A150
   clear A150
   have H' := A_ H
   clear H
   go_wp2_with (first | (go_at_call 87; (with_reducible refine (slices_DeleteFunc_int_int___Road_roundTrip_2.calls k (fun k_ => some k_ = (.slice Ao10 t264.length co10 : Value).ownBlock) (.slice Ao10 t264.length co10) t267 t268 w _ ?side1 ?side2 A15.out).mono ?_); (case side1 => repeat (first | (with_reducible first | exact HB.out | apply below_alloc | apply pw_below_drewN | apply below_drew1 | refine below_set ?_ GE262.out | refine below_set ?_ GE263.out) | exact HB.out)); (case side2 => exact Kd.R_tight rfl HO266.out); rintro e w16 ⟨v269, rfl, ho0, hb, hkp⟩; have n0_ := A_ (blk_kept (bq BK262) hkp (fun hs_ => (fun e_ => (Kd.R_ne HO266.out BK262.out (by decide)) e_) hs_)); have n1_ := A_ (blk_kept (bq BK263) hkp (fun hs_ => (fun e_ => (Kd.R_away HO266.out (fun _ hk => hk.2)) e_) hs_)); have n2_ := A_ (Kd.R_mono (ok' := fun k_ => k_ ≠ gb263) ho0 (fun k_ hk_ => Or.elim hk_ (fun hs_ => fun e_ => (Kd.R_away HO266.out (fun _ hk => hk.2)) (by rw [← e_]; exact hs_)) (fun hn_ => (Kd.freshB (g := gb263) (o := .cells #[.int .i64 a1] 3 (0, 0)) (bq BK263) k_ hn_)))); have n3_ := A_ (hb); clear BK262; clear BK263; clear HB; clear HO266; have BK262 := n0_; have BK263 := n1_; have HO270 := n2_; have HB := n3_; clear n0_ n1_ n2_ n3_; (try clear hb); (try clear hkp); (try clear ho0)))
   repeat (go_quiet (first | (go_at_call 87; (with_reducible refine (slices_DeleteFunc_int_int___Road_roundTrip_2.calls k (fun k_ => some k_ = (.slice Ao10 t264.length co10 : Value).ownBlock) (.slice Ao10 t264.length co10) t267 t268 w _ ?side1 ?side2 A15.out).mono ?_); (case side1 => repeat (first | (with_reducible first | exact HB.out | apply below_alloc | apply pw_below_drewN | apply below_drew1 | refine below_set ?_ GE262.out | refine below_set ?_ GE263.out) | exact HB.out)); (case side2 => exact Kd.R_tight rfl HO266.out); rintro e w16 ⟨v269, rfl, ho0, hb, hkp⟩; have n0_ := A_ (blk_kept (bq BK262) hkp (fun hs_ => (fun e_ => (Kd.R_ne HO266.out BK262.out (by decide)) e_) hs_)); have n1_ := A_ (blk_kept (bq BK263) hkp (fun hs_ => (fun e_ => (Kd.R_away HO266.out (fun _ hk => hk.2)) e_) hs_)); have n2_ := A_ (Kd.R_mono (ok' := fun k_ => k_ ≠ gb263) ho0 (fun k_ hk_ => Or.elim hk_ (fun hs_ => fun e_ => (Kd.R_away HO266.out (fun _ hk => hk.2)) (by rw [← e_]; exact hs_)) (fun hn_ => (Kd.freshB (g := gb263) (o := .cells #[.int .i64 a1] 3 (0, 0)) (bq BK263) k_ hn_)))); have n3_ := A_ (hb); clear BK262; clear BK263; clear HB; clear HO266; have BK262 := n0_; have BK263 := n1_; have HO270 := n2_; have HB := n3_; clear n0_ n1_ n2_ n3_; (try clear hb); (try clear hkp); (try clear ho0))); try go_wp2_with (first | (go_at_call 87; (with_reducible refine (slices_DeleteFunc_int_int___Road_roundTrip_2.calls k (fun k_ => some k_ = (.slice Ao10 t264.length co10 : Value).ownBlock) (.slice Ao10 t264.length co10) t267 t268 w _ ?side1 ?side2 A15.out).mono ?_); (case side1 => repeat (first | (with_reducible first | exact HB.out | apply below_alloc | apply pw_below_drewN | apply below_drew1 | refine below_set ?_ GE262.out | refine below_set ?_ GE263.out) | exact HB.out)); (case side2 => exact Kd.R_tight rfl HO266.out); rintro e w16 ⟨v269, rfl, ho0, hb, hkp⟩; have n0_ := A_ (blk_kept (bq BK262) hkp (fun hs_ => (fun e_ => (Kd.R_ne HO266.out BK262.out (by decide)) e_) hs_)); have n1_ := A_ (blk_kept (bq BK263) hkp (fun hs_ => (fun e_ => (Kd.R_away HO266.out (fun _ hk => hk.2)) e_) hs_)); have n2_ := A_ (Kd.R_mono (ok' := fun k_ => k_ ≠ gb263) ho0 (fun k_ hk_ => Or.elim hk_ (fun hs_ => fun e_ => (Kd.R_away HO266.out (fun _ hk => hk.2)) (by rw [← e_]; exact hs_)) (fun hn_ => (Kd.freshB (g := gb263) (o := .cells #[.int .i64 a1] 3 (0, 0)) (bq BK263) k_ hn_)))); have n3_ := A_ (hb); clear BK262; clear BK263; clear HB; clear HO266; have BK262 := n0_; have BK263 := n1_; have HO270 := n2_; have HB := n3_; clear n0_ n1_ n2_ n3_; (try clear hb); (try clear hkp); (try clear ho0))))
   go_meet
   case rel => exact ⟨_, (t268), H', ⟨by first | omega | exact Nat.le_refl _⟩, ⟨rq HO270⟩, ⟨bq BK262⟩, ⟨bq BK263⟩, ⟨hq HB⟩⟩
  ·
   replace c14 := Bool.eq_false_iff.mpr c14
   subst c14
   have H1 : (impl_Road_roundTrip.j0 k t267 a0_0 false) = some r := by rw [if_neg (show ¬ (false = true) by decide)] at H; exact H
   clear H
   have H := H1
   clear H1
   have H' := A_ H
   clear H
   go_wp2
   repeat (go_quiet (fail); try go_wp2)
   go_meet
   case rel => exact ⟨_, (t267), H', ⟨by first | omega | exact Nat.le_refl _⟩, ⟨by (with_reducible repeat (first | apply Kd.R_alloc | apply Kd.R_drewN | apply Kd.R_drew)); exact Kd.R_mono HO266.out (fun _ hk => hk.2)⟩, ⟨bq BK262⟩, ⟨bq BK263⟩, ⟨hq HB⟩⟩
 case rest =>
  clear HC6
  try clear c1
  try clear c2
  try clear p2
  try clear c6
  try clear c12
  try clear c14
  try clear hcz13_0
  try clear hcz13_1
  try clear hfz13_0
  try clear hfz13_1
  obtain ⟨kq, x7_5, HA, HJ5, HO_7, BK262, BK263, HB⟩ := hcut
  cases kq with
  | zero => exact absurd HA.out (by simp [impl_Road_roundTrip.j0])
  | succ kj5 =>
   have H := HA.out
   clear HA
   simp only [impl_Road_roundTrip.j0] at H
   by_cases c17 : a0_1 = true
   ·
    subst c17
    have H1 : (impl_Road_roundTrip.l1 kj5 x7_5 a0_0 (wrap64 ((x7_5.length : Int) + 1)) 0 a0_0 true) = some r := by rw [if_pos rfl] at H; exact H
    clear H
    have H := H1
    clear H1
    have H' := A_ H
    clear H
    have hnb18 := NB262_263.out
    have hnc18 := NB263_262.out
    have hcz19_0 : wc.cell? ⟨gb262, 0, none⟩ = some (.int .i64 a0_0) := bc BK262 0
    have hcz19_1 : wc.cell? ⟨gb262, 1, none⟩ = some (.bool true) := bc BK262 1
    have hfz19_0 := blk_frozen BK262.out 0
    have hfz19_1 := blk_frozen BK262.out 1
    obtain ⟨Ao20, co20, eo20⟩ := Kd.R_slice HO_7.out
    subst eo20
    go_wp2
    repeat (go_quiet (fail); try go_wp2)
    go_loopg [12, 51] kj5 (fun kq v12 v51 w' => ∃ (x12_2 : Int) (x51_2 : Int), v12 = .int .i64 x12_2 ∧ v51 = .int .i64 x51_2 ∧ Aside0 (impl_Road_roundTrip.l1 kq x7_5 x12_2 (wrap64 ((x7_5.length : Int) + 1)) x51_2 a0_0 true = some r) ∧ Aside0 (kq ≤ kj5) ∧ Aside0 (Kd.R (Kd.int .i64) 3 w' w.heap.size (fun k_ => k_ ≠ gb263) (.slice Ao20 x7_5.length co20) x7_5) ∧ Aside0 (w'.heap[gb262]? = some (.cells #[.int .i64 a0_0, .bool true] 27 (0, 0))) ∧ Aside0 (w'.heap[gb263]? = some (.cells #[.int .i64 a1] 3 (0, 0))) ∧ Aside0 (Below w.heap.size w w'))
    case atStart => exact ⟨(a0_0), (0), (by first | rfl | (simp; done) | (simp [*]; done)), (by first | rfl | (simp; done) | (simp [*]; done)), H', ⟨Nat.le_refl _⟩, ⟨rq HO_7⟩, ⟨bq BK262⟩, ⟨bq BK263⟩, ⟨hq HB⟩⟩
    case round =>
     clear H'
     try clear c1
     try clear c2
     try clear p2
     try clear c6
     try clear p6
     try clear c12
     try clear c14
     try clear c17
     try clear c18
     try clear hcz13_0
     try clear hcz13_1
     try clear hcz19_0
     try clear hcz19_1
     try clear hfz13_0
     try clear hfz13_1
     try clear hfz19_0
     try clear hfz19_1
     try clear p2
     obtain ⟨x12_2, x51_2, rfl, rfl, HA, HK2, HO_7, BK262, BK263, HB⟩ := hrel
     cases gk with
     | zero => exact absurd HA.out (by simp [impl_Road_roundTrip.l1])
     | succ k2 =>
      have H := HA.out
      clear HA
      simp only [impl_Road_roundTrip.l1] at H
      by_cases c21 : x51_2 < (wrap64 ((x7_5.length : Int) + 1))
      ·
       rw [if_pos c21] at H
       have c21b0 : decide (x51_2 < (wrap64 ((x7_5.length : Int) + 1))) = true := decide_eq_true c21
       clear c21
       by_cases c22 : x51_2 > 0
       ·
        rw [if_pos c22] at H
        have c22b0 : decide (0 < x51_2) = true := decide_eq_true c22
        clear c22
        obtain ⟨ji23, hji23⟩ : ∃ j_ : Int, (wrap64 (x51_2 - 1)) = j_ := ⟨_, rfl⟩
        replace H : (if 0 ≤ (ji23) then (if (ji23) < (x7_5.length : Int) then (if x51_2 < (x7_5.length : Int) then (if 0 ≤ x51_2 then (impl_Road_roundTrip.l1 k2 x7_5 (mn x12_2 (wrap64 (2 * (wrap64 ((rd x7_5 (ji23)) + (wrap64 (a0_0 - (rd x7_5 x51_2)))))))) (wrap64 ((x7_5.length : Int) + 1)) (wrap64 (x51_2 + 1)) a0_0 true) else (none)) else (impl_Road_roundTrip.l1 k2 x7_5 (mn x12_2 (wrap64 (2 * (wrap64 (rd x7_5 (ji23)))))) (wrap64 ((x7_5.length : Int) + 1)) (wrap64 (x51_2 + 1)) a0_0 true)) else (none)) else (none)) = some r := by first | (rw [hji23] at H; exact H) | (simp only [hji23] at H ⊢; exact H)
        have hji23w : (IntKind.i64.wrap (x51_2 - 1)) = ji23 := (i64_w _).trans hji23
        by_cases c24 : 0 ≤ (ji23)
        ·
         rw [if_pos c24] at H
         have c24b0 : decide (0 ≤ (ji23)) = true := decide_eq_true c24
         clear c24
         by_cases c25 : (ji23) < (x7_5.length : Int)
         ·
          rw [if_pos c25] at H
          have c25b0 : decide ((ji23) < (x7_5.length : Int)) = true := decide_eq_true c25
          clear c25
          by_cases c26 : x51_2 < (x7_5.length : Int)
          ·
           rw [if_pos c26] at H
           have c26b0 : decide (x51_2 < (x7_5.length : Int)) = true := decide_eq_true c26
           clear c26
           by_cases c27 : 0 ≤ x51_2
           ·
            rw [if_pos c27] at H
            have c27b0 : decide (0 ≤ x51_2) = true := decide_eq_true c27
            clear c27
            obtain ⟨ji28, hji28⟩ : ∃ j_ : Int, (mn x12_2 (wrap64 (2 * (wrap64 ((rd x7_5 (ji23)) + (wrap64 (a0_0 - (rd x7_5 x51_2)))))))) = j_ := ⟨_, rfl⟩
            replace H : (impl_Road_roundTrip.l1 k2 x7_5 ji28 (wrap64 ((x7_5.length : Int) + 1)) (wrap64 (x51_2 + 1)) a0_0 true) = some r := by first | (rw [hji28] at H; exact H) | (simp only [hji28] at H ⊢; exact H)
            have hji28_ : (if (wrap64 (2 * (wrap64 ((rd x7_5 (ji23)) + (wrap64 (a0_0 - (rd x7_5 x51_2))))))) < x12_2 then (wrap64 (2 * (wrap64 ((rd x7_5 (ji23)) + (wrap64 (a0_0 - (rd x7_5 x51_2))))))) else x12_2) = ji28 := hji28
            have H' := A_ H
            clear H
            have p272 : 0 ≤ ((ji23) : Int) := of_decide_eq_true (by first | (with_reducible assumption) | assumption)
            have q272 : (ji23) < (x7_5.length : Int) := of_decide_eq_true (by first | (with_reducible assumption) | assumption)
            obtain ⟨ad272, e272, hx272_0⟩ := Kd.at_int (Kd.R_reads' HO_7.out).2.2 (ji23) p272 q272
            cases e272
            replace p272 := eq_true p272
            replace q272 := eq_true q272
            have hnb29 := NB262_263.out
            have hnc29 := NB263_262.out
            have hcz30_0 : wr.cell? ⟨gb262, 0, none⟩ = some (.int .i64 a0_0) := bc BK262 0
            have hcz30_1 : wr.cell? ⟨gb262, 1, none⟩ = some (.bool true) := bc BK262 1
            have hfz30_0 := blk_frozen BK262.out 0
            have hfz30_1 := blk_frozen BK262.out 1
            have p273 : 0 ≤ (x51_2 : Int) := of_decide_eq_true (by first | (with_reducible assumption) | assumption)
            have q273 : x51_2 < (x7_5.length : Int) := of_decide_eq_true (by first | (with_reducible assumption) | assumption)
            obtain ⟨ad273, e273, hx273_0⟩ := Kd.at_int (Kd.R_reads' HO_7.out).2.2 x51_2 p273 q273
            obtain rfl : ad272 = ad273 := (by injection e273)
            replace p273 := eq_true p273
            replace q273 := eq_true q273
            go_wp2
            repeat (go_quiet (fail); try go_wp2)
            go_roundg k2
            case measure => have := HJ5.out; have := HK2.out; omega
            case rel => exact ⟨(ji28), (wrap64 (x51_2 + 1)), (by first | rfl | (simp; done) | (simp only [← hji28] <;> (first | rfl | simp)) | (simp [*]; done)), (by first | rfl | (simp; done) | (simp [*]; done)), H', ⟨by have := HJ5.out; have := HK2.out; omega⟩, ⟨rq HO_7⟩, ⟨bq BK262⟩, ⟨bq BK263⟩, ⟨hq HB⟩⟩
           ·
            rw [if_neg c27] at H
            exact absurd H (by simp)
          ·
           rw [if_neg c26] at H
           have c26b0 : decide (x51_2 < (x7_5.length : Int)) = false := decide_eq_false c26
           clear c26
           obtain ⟨ji31, hji31⟩ : ∃ j_ : Int, (mn x12_2 (wrap64 (2 * (wrap64 (rd x7_5 (ji23)))))) = j_ := ⟨_, rfl⟩
           replace H : (impl_Road_roundTrip.l1 k2 x7_5 ji31 (wrap64 ((x7_5.length : Int) + 1)) (wrap64 (x51_2 + 1)) a0_0 true) = some r := by first | (rw [hji31] at H; exact H) | (simp only [hji31] at H ⊢; exact H)
           have hji31_ : (if (wrap64 (2 * (wrap64 (rd x7_5 (ji23))))) < x12_2 then (wrap64 (2 * (wrap64 (rd x7_5 (ji23))))) else x12_2) = ji31 := hji31
           have H' := A_ H
           clear H
           have p272 : 0 ≤ ((ji23) : Int) := of_decide_eq_true (by first | (with_reducible assumption) | assumption)
           have q272 : (ji23) < (x7_5.length : Int) := of_decide_eq_true (by first | (with_reducible assumption) | assumption)
           obtain ⟨ad272, e272, hx272_0⟩ := Kd.at_int (Kd.R_reads' HO_7.out).2.2 (ji23) p272 q272
           cases e272
           replace p272 := eq_true p272
           replace q272 := eq_true q272
           go_wp2
           repeat (go_quiet (fail); try go_wp2)
           go_roundg k2
           case measure => have := HJ5.out; have := HK2.out; omega
           case rel => exact ⟨(ji31), (wrap64 (x51_2 + 1)), (by first | rfl | (simp; done) | (simp only [← hji31] <;> (first | rfl | simp)) | (simp [*]; done)), (by first | rfl | (simp; done) | (simp [*]; done)), H', ⟨by have := HJ5.out; have := HK2.out; omega⟩, ⟨rq HO_7⟩, ⟨bq BK262⟩, ⟨bq BK263⟩, ⟨hq HB⟩⟩
         ·
          rw [if_neg c25] at H
          exact absurd H (by simp)
        ·
         rw [if_neg c24] at H
         exact absurd H (by simp)
       ·
        rw [if_neg c22] at H
        have c22b0 : decide (0 < x51_2) = false := decide_eq_false c22
        clear c22
        by_cases c32 : x51_2 < (x7_5.length : Int)
        ·
         rw [if_pos c32] at H
         have c32b0 : decide (x51_2 < (x7_5.length : Int)) = true := decide_eq_true c32
         clear c32
         by_cases c33 : 0 ≤ x51_2
         ·
          rw [if_pos c33] at H
          have c33b0 : decide (0 ≤ x51_2) = true := decide_eq_true c33
          clear c33
          obtain ⟨ji34, hji34⟩ : ∃ j_ : Int, (mn x12_2 (wrap64 (2 * (wrap64 (wrap64 (a0_0 - (rd x7_5 x51_2))))))) = j_ := ⟨_, rfl⟩
          replace H : (impl_Road_roundTrip.l1 k2 x7_5 ji34 (wrap64 ((x7_5.length : Int) + 1)) (wrap64 (x51_2 + 1)) a0_0 true) = some r := by first | (rw [hji34] at H; exact H) | (simp only [hji34] at H ⊢; exact H)
          have hji34_ : (if (wrap64 (2 * (wrap64 (wrap64 (a0_0 - (rd x7_5 x51_2)))))) < x12_2 then (wrap64 (2 * (wrap64 (wrap64 (a0_0 - (rd x7_5 x51_2)))))) else x12_2) = ji34 := hji34
          have H' := A_ H
          clear H
          have hnb35 := NB262_263.out
          have hnc35 := NB263_262.out
          have hcz36_0 : wr.cell? ⟨gb262, 0, none⟩ = some (.int .i64 a0_0) := bc BK262 0
          have hcz36_1 : wr.cell? ⟨gb262, 1, none⟩ = some (.bool true) := bc BK262 1
          have hfz36_0 := blk_frozen BK262.out 0
          have hfz36_1 := blk_frozen BK262.out 1
          have p274 : 0 ≤ (x51_2 : Int) := of_decide_eq_true (by first | (with_reducible assumption) | assumption)
          have q274 : x51_2 < (x7_5.length : Int) := of_decide_eq_true (by first | (with_reducible assumption) | assumption)
          obtain ⟨ad274, e274, hx274_0⟩ := Kd.at_int (Kd.R_reads' HO_7.out).2.2 x51_2 p274 q274
          cases e274
          replace p274 := eq_true p274
          replace q274 := eq_true q274
          go_wp2
          repeat (go_quiet (fail); try go_wp2)
          go_roundg k2
          case measure => have := HJ5.out; have := HK2.out; omega
          case rel => exact ⟨(ji34), (wrap64 (x51_2 + 1)), (by first | rfl | (simp; done) | (simp only [← hji34] <;> (first | rfl | simp)) | (simp [*]; done)), (by first | rfl | (simp; done) | (simp [*]; done)), H', ⟨by have := HJ5.out; have := HK2.out; omega⟩, ⟨rq HO_7⟩, ⟨bq BK262⟩, ⟨bq BK263⟩, ⟨hq HB⟩⟩
         ·
          rw [if_neg c33] at H
          exact absurd H (by simp)
        ·
         rw [if_neg c32] at H
         have c32b0 : decide (x51_2 < (x7_5.length : Int)) = false := decide_eq_false c32
         clear c32
         obtain ⟨ji37, hji37⟩ : ∃ j_ : Int, (mn x12_2 0) = j_ := ⟨_, rfl⟩
         replace H : (impl_Road_roundTrip.l1 k2 x7_5 ji37 (wrap64 ((x7_5.length : Int) + 1)) (wrap64 (x51_2 + 1)) a0_0 true) = some r := by first | (rw [hji37] at H; exact H) | (simp only [hji37] at H ⊢; exact H)
         have hji37_ : (if 0 < x12_2 then 0 else x12_2) = ji37 := hji37
         have H' := A_ H
         clear H
         go_wp2
         repeat (go_quiet (fail); try go_wp2)
         go_roundg k2
         case measure => have := HJ5.out; have := HK2.out; omega
         case rel => exact ⟨(ji37), (wrap64 (x51_2 + 1)), (by first | rfl | (simp; done) | (simp only [← hji37] <;> (first | rfl | simp)) | (simp [*]; done)), (by first | rfl | (simp; done) | (simp [*]; done)), H', ⟨by have := HJ5.out; have := HK2.out; omega⟩, ⟨rq HO_7⟩, ⟨bq BK262⟩, ⟨bq BK263⟩, ⟨hq HB⟩⟩
      ·
       rw [if_neg c21] at H
       have c21b0 : decide (x51_2 < (wrap64 ((x7_5.length : Int) + 1))) = false := decide_eq_false c21
       clear c21
       obtain rfl := Option.some.inj H
       go_wp2
       repeat (go_quiet (fail); try go_wp2)
       go_ret
       exact ⟨rt, hq HB⟩
   ·
    replace c17 := Bool.eq_false_iff.mpr c17
    subst c17
    have H1 : (impl_Road_roundTrip.l0 kj5 0 0 x7_5 (x7_5.length : Int) 0) = some r := by rw [if_neg (show ¬ (false = true) by decide)] at H; exact H
    clear H
    have H := H1
    clear H1
    have H' := A_ H
    clear H
    have hnb38 := NB262_263.out
    have hnc38 := NB263_262.out
    have hcz39_0 : wc.cell? ⟨gb262, 0, none⟩ = some (.int .i64 a0_0) := bc BK262 0
    have hcz39_1 : wc.cell? ⟨gb262, 1, none⟩ = some (.bool false) := bc BK262 1
    have hfz39_0 := blk_frozen BK262.out 0
    have hfz39_1 := blk_frozen BK262.out 1
    obtain ⟨Ao40, co40, eo40⟩ := Kd.R_slice HO_7.out
    subst eo40
    go_wp2
    repeat (go_quiet (fail); try go_wp2)
    go_loopg [8, 9, 30] kj5 (fun kq v8 v9 v30 w' => ∃ (x8_2 : Int) (x9_2 : Int) (x30_2 : Int), v8 = .int .i64 x8_2 ∧ v9 = .int .i64 x9_2 ∧ v30 = .int .i64 x30_2 ∧ Aside0 (impl_Road_roundTrip.l0 kq x8_2 x9_2 x7_5 (x7_5.length : Int) x30_2 = some r) ∧ Aside0 (kq ≤ kj5) ∧ Aside0 (Kd.R (Kd.int .i64) 3 w' w.heap.size (fun k_ => k_ ≠ gb263) (.slice Ao40 x7_5.length co40) x7_5) ∧ Aside0 (w'.heap[gb262]? = some (.cells #[.int .i64 a0_0, .bool false] 27 (0, 0))) ∧ Aside0 (w'.heap[gb263]? = some (.cells #[.int .i64 a1] 3 (0, 0))) ∧ Aside0 (Below w.heap.size w w'))
    case atStart => exact ⟨(0), (0), (0), (by first | rfl | (simp; done) | (simp [*]; done)), (by first | rfl | (simp; done) | (simp [*]; done)), (by first | rfl | (simp; done) | (simp [*]; done)), H', ⟨Nat.le_refl _⟩, ⟨rq HO_7⟩, ⟨bq BK262⟩, ⟨bq BK263⟩, ⟨hq HB⟩⟩
    case round =>
     clear H'
     try clear c1
     try clear c2
     try clear p2
     try clear q2
     try clear hx2
     try clear c3
     try clear c6
     try clear p6
     try clear c12
     try clear c14
     try clear c17
     try clear c18
     try clear c21
     try clear c21b0
     try clear c22
     try clear c22b0
     try clear c24
     try clear c24b0
     try clear c25
     try clear c25b0
     try clear c26
     try clear c26b0
     try clear c27
     try clear c27b0
     try clear p27
     try clear q27
     try clear hx27
     try clear c29
     try clear c32
     try clear c32b0
     try clear c33
     try clear c33b0
     try clear c35
     try clear c38
     try clear hcz13_0
     try clear hcz13_1
     try clear hcz19_0
     try clear hcz19_1
     try clear hcz30_0
     try clear hcz30_1
     try clear hcz36_0
     try clear hcz36_1
     try clear hcz39_0
     try clear hcz39_1
     try clear hfz13_0
     try clear hfz13_1
     try clear hfz19_0
     try clear hfz19_1
     try clear hfz30_0
     try clear hfz30_1
     try clear hfz36_0
     try clear hfz36_1
     try clear hfz39_0
     try clear hfz39_1
     try clear hx272_0
     try clear hx273_0
     try clear hx274_0
     try clear p2
     try clear p272
     try clear p273
     try clear p274
     try clear p6
     try clear q272
     try clear q273
     try clear q274
     obtain ⟨x8_2, x9_2, x30_2, rfl, rfl, rfl, HA, HK2, HO_28, BK262, BK263, HB⟩ := hrel
     cases gk with
     | zero => exact absurd HA.out (by simp [impl_Road_roundTrip.l0])
     | succ k2 =>
      have H := HA.out
      clear HA
      simp only [impl_Road_roundTrip.l0] at H
      by_cases c41 : x30_2 < (x7_5.length : Int)
      ·
       rw [if_pos c41] at H
       have c41b0 : decide (x30_2 < (x7_5.length : Int)) = true := decide_eq_true c41
       clear c41
       by_cases c42 : 0 ≤ x30_2
       ·
        rw [if_pos c42] at H
        have c42b0 : decide (0 ≤ x30_2) = true := decide_eq_true c42
        clear c42
        by_cases c43 : x30_2 < (x7_5.length : Int)
        ·
         rw [if_pos c43] at H
         have c43b0 : decide (x30_2 < (x7_5.length : Int)) = true := decide_eq_true c43
         clear c43
         obtain ⟨ji44, hji44⟩ : ∃ j_ : Int, (mx x8_2 (rd x7_5 x30_2)) = j_ := ⟨_, rfl⟩
         replace H : (impl_Road_roundTrip.l0 k2 ji44 (mx x9_2 (wrap64 (-(rd x7_5 x30_2)))) x7_5 (x7_5.length : Int) (wrap64 (x30_2 + 1))) = some r := by first | (rw [hji44] at H; exact H) | (simp only [hji44] at H ⊢; exact H)
         have hji44_ : (if x8_2 < (rd x7_5 x30_2) then (rd x7_5 x30_2) else x8_2) = ji44 := hji44
         obtain ⟨ji45, hji45⟩ : ∃ j_ : Int, (mx x9_2 (wrap64 (-(rd x7_5 x30_2)))) = j_ := ⟨_, rfl⟩
         replace H : (impl_Road_roundTrip.l0 k2 ji44 ji45 x7_5 (x7_5.length : Int) (wrap64 (x30_2 + 1))) = some r := by first | (rw [hji45] at H; exact H) | (simp only [hji45] at H ⊢; exact H)
         have hji45_ : (if x9_2 < (wrap64 (-(rd x7_5 x30_2))) then (wrap64 (-(rd x7_5 x30_2))) else x9_2) = ji45 := hji45
         have H' := A_ H
         clear H
         have p271 : 0 ≤ (x30_2 : Int) := of_decide_eq_true (by first | (with_reducible assumption) | assumption)
         have q271 : x30_2 < (x7_5.length : Int) := of_decide_eq_true (by first | (with_reducible assumption) | assumption)
         obtain ⟨ad271, e271, hx271_0⟩ := Kd.at_int (Kd.R_reads' HO_28.out).2.2 x30_2 p271 q271
         cases e271
         replace p271 := eq_true p271
         replace q271 := eq_true q271
         go_wp2
         repeat (go_quiet (fail); try go_wp2)
         go_roundg k2
         case measure => have := HJ5.out; have := HK2.out; omega
         case rel => exact ⟨(ji44), (ji45), (wrap64 (x30_2 + 1)), (by first | rfl | (simp; done) | (simp only [← hji44] <;> (first | rfl | simp)) | (simp [*]; done)), (by first | rfl | (simp; done) | (simp only [← hji45] <;> (first | rfl | simp)) | (simp [*]; done)), (by first | rfl | (simp; done) | (simp [*]; done)), H', ⟨by have := HJ5.out; have := HK2.out; omega⟩, ⟨rq HO_28⟩, ⟨bq BK262⟩, ⟨bq BK263⟩, ⟨hq HB⟩⟩
        ·
         rw [if_neg c43] at H
         exact absurd H (by simp)
       ·
        rw [if_neg c42] at H
        exact absurd H (by simp)
      ·
       rw [if_neg c41] at H
       have c41b0 : decide (x30_2 < (x7_5.length : Int)) = false := decide_eq_false c41
       clear c41
       obtain rfl := Option.some.inj H
       go_wp2
       repeat (go_quiet (fail); try go_wp2)
       go_ret
       exact ⟨rt, hq HB⟩

/-! ### impl_Road_run: function 65 -/
def impl_Road_run.l0 : Nat → Int → List Int → Int → Int → Int → Bool → Option (List Int)
  | 0, _, _, _, _, _, _ => none
  | k + 1, x1, x7, x10, x11, x276000, x276001 => if x11 < x10 then (if x276000 = 0 then (none) else (if x7.length < 17592186044416 then (impl_Road_run.l0 k x1 (x7 ++ [Int.tmod (wrap64 (x1 + x11)) x276000]) x10 (wrap64 (x11 + 1)) x276000 x276001) else (none))) else (some x7)
def impl_Road_run.f (k : Nat) (a0_0 : Int) (a0_1 : Bool) (a1 : Int) (a2 : Int) : Option (List Int) := impl_Road_run.l0 k a1 (([] : List Int)) a2 0 a0_0 a0_1
theorem impl_Road_run.mono_l : ∀ k, (∀ y0 y1 y2 y3 y4 y5, LeO (impl_Road_run.l0 k y0 y1 y2 y3 y4 y5) (impl_Road_run.l0 (k + 1) y0 y1 y2 y3 y4 y5))
  | 0 => fun _ _ _ _ _ _ r h => by simp [impl_Road_run.l0] at h
  | k + 1 => by
    have ih0 := impl_Road_run.mono_l k
    · intro y0 y1 y2 y3 y4 y5
      unfold impl_Road_run.l0
      repeat' first
      | (with_reducible exact ih0 _ _ _ _ _ _)
      | (with_reducible exact LeO.refl _)
      | (with_reducible exact LeO.none _)
      | (with_reducible refine LeO.ite ?_ ?_)
      | (with_reducible refine LeO.bind ?_ (fun _ => ?_))
      | exact ih0 _ _ _ _ _ _
      | exact LeO.none _
      | refine LeO.ite ?_ ?_
      | refine LeO.bind ?_ (fun _ => ?_)
theorem impl_Road_run.mono : ∀ a0 a1 a2 a3 k, LeO (impl_Road_run.f k a0 a1 a2 a3) (impl_Road_run.f (k + 1) a0 a1 a2 a3) := by
  intro a0 a1 a2 a3 k
  have ih0 := impl_Road_run.mono_l k
  unfold impl_Road_run.f
  repeat' first
      | (with_reducible exact ih0 _ _ _ _ _ _)
      | (with_reducible exact LeO.refl _)
      | (with_reducible exact LeO.none _)
      | (with_reducible refine LeO.ite ?_ ?_)
      | (with_reducible refine LeO.bind ?_ (fun _ => ?_))
      | exact ih0 _ _ _ _ _ _
      | exact LeO.none _
      | refine LeO.ite ?_ ?_
      | refine LeO.bind ?_ (fun _ => ?_)
set_option maxHeartbeats 8000000 in
set_option maxRecDepth 100000 in
theorem impl_Road_run.calls (k : Nat) (a0_0 : Int) (a0_1 : Bool) (a1 : Int) (a2 : Int) (r : List Int) (w : World) (h : impl_Road_run.f k a0_0 a0_1 a1 a2 = some r) :
    Calls Try.prog 65 #[.agg #[.int .i64 a0_0, .bool a0_1], .int .i64 a1, .int .i64 a2] w fun e w' => ∃ v0_ : Value, e = .returned (v0_) ∧ Kd.R (Kd.int .i64) 3 w' w.heap.size (fun _ => True) v0_ r ∧ Below w.heap.size w w' := by
 have hu27 := Try.underlying27
 have HB := A_ (Below.refl w.heap.size w)
 have H : (impl_Road_run.l0 k a1 (([] : List Int)) a2 0 a0_0 a0_1) = some r := h
 clear h
 obtain ⟨y276, hy276⟩ : ∃ y_ : List Int, y_ = (([] : List Int)) := ⟨_, rfl⟩
 replace H : (impl_Road_run.l0 k a1 y276 a2 0 a0_0 a0_1) = some r := by first | (rw [hy276]; with_reducible exact H) | (have H2_ := (Option.bind_some _ _).symm.trans H; rw [hy276]; with_reducible exact H2_) | (have H2_ := (Option.bind_some _ _).symm.trans H; with_reducible exact H2_) | with_reducible exact H | (rw [hy276]; exact H) | exact H
 have Ny276 := A_ hy276
 clear hy276
 have H' := A_ H
 clear H
 go_enter Try.func65, Try.ntmps65
 go_wp2_with (first | ((with_reducible refine gate_dst (N := 3) rfl ?_); refine box_event ?hg (N := 3) ?hd (cs := #[.int .i64 a0_0, .bool a0_1]) (t := 27) ?hr ?_; (case hd => rfl); (case hg => rfl); (case hr => first | (go_simp; done) | (go_simp; rfl)); intro gb275 hg w4 hbox hb; have n0_ := A_ (below_step (hq HB) hb); have n1_ := A_ (hbox); have n2_ := A_ ((by rw [hg]; exact (below_size (hq HB)) : w.heap.size ≤ gb275)); have n3_ := A_ ((by rw [hg]; exact (below_size (hq HB)) : w.heap.size ≤ gb275)); clear HB; have HB := n0_; have BK275 := n1_; have GW275 := n2_; have GE275 := n3_; clear n0_ n1_ n2_ n3_; clear hb hbox hg) | ((with_reducible refine gate_dst (N := 9) rfl ?_); refine Kd.R_lit (Kd.int .i64) _ 3 ?hg (N := 9) ?hd (xs := ([] : List Int)) (inner := []) (ok := fun _ => True) (okp := fun _ => True) ?hr ?hp (fun _ hk => hk) trivial (Below.refl _ _) (Nat.le_refl _) (by simp) ?_; (case hd => rfl); (case hg => rfl); (case hr => first | (go_simp; done) | (go_simp; rfl)); (case hp => exact (Reps.none _ _)); intro v277 w5 ho6 hb hg_ hnew_; clear hg_ hnew_; (first | rw [← Ny276.out] at ho6 | (simp only [Int.reduceToNat] at ho6; rw [← Ny276.out] at ho6)); have n0_ := A_ (Kd.R_lower ho6 (below_size (hq HB))); have n1_ := A_ (blk_below (bq BK275) hb); have n2_ := A_ (below_step (hq HB) hb); clear BK275; clear HB; have HO278 := n0_; have BK275 := n1_; have HB := n2_; clear n0_ n1_ n2_; clear hb ho6))
 go_loopg [7, 11] k (fun kq v7 v11 w' => ∃ (x7_1 : List Int) (x11_1 : Int), v11 = .int .i64 x11_1 ∧ Aside0 (impl_Road_run.l0 kq a1 x7_1 a2 x11_1 a0_0 a0_1 = some r) ∧ Aside0 (kq ≤ k) ∧ Aside0 (Kd.R (Kd.int .i64) 3 w' w.heap.size (fun _ => True) v7 x7_1) ∧ Aside0 (w'.heap[gb275]? = some (.cells #[.int .i64 a0_0, .bool a0_1] 27 (0, 0))) ∧ Aside0 (Below w.heap.size w w'))
 case atStart => exact ⟨(y276), (0), (by first | rfl | (simp; done) | (simp [*]; done)), H', ⟨Nat.le_refl _⟩, ⟨rq HO278⟩, ⟨bq BK275⟩, ⟨hq HB⟩⟩
 case round =>
  clear H'
  try clear p2
  try clear c6
  obtain ⟨x7_1, x11_1, rfl, HA, HK1, HO_7, BK275, HB⟩ := hrel
  cases gk with
  | zero => exact absurd HA.out (by simp [impl_Road_run.l0])
  | succ k1 =>
   have H := HA.out
   clear HA
   simp only [impl_Road_run.l0] at H
   by_cases c7 : x11_1 < a2
   ·
    rw [if_pos c7] at H
    have c7b0 : decide (x11_1 < a2) = true := decide_eq_true c7
    clear c7
    by_cases c8 : a0_0 = 0
    ·
     rw [if_pos c8] at H
     exact absurd H (by simp)
    ·
     rw [if_neg c8] at H
     have c8b0 : (a0_0 == 0) = false := beq_eq_false_iff_ne.mpr c8
     have c8b1 : (a0_0 != 0) = true := bne_iff_ne.mpr c8
     by_cases c9 : x7_1.length < 17592186044416
     ·
      rw [if_pos c9] at H
      have LMc9 := A_ c9
      clear c9
      obtain ⟨y279, hy279⟩ : ∃ y_ : List Int, y_ = (x7_1 ++ [Int.tmod (wrap64 (a1 + x11_1)) a0_0]) := ⟨_, rfl⟩
      replace H : (impl_Road_run.l0 k1 a1 y279 a2 (wrap64 (x11_1 + 1)) a0_0 a0_1) = some r := by first | (rw [hy279]; with_reducible exact H) | (have H2_ := (Option.bind_some _ _).symm.trans H; rw [hy279]; with_reducible exact H2_) | (have H2_ := (Option.bind_some _ _).symm.trans H; with_reducible exact H2_) | with_reducible exact H | (rw [hy279]; exact H) | exact H
      have Ny279 := A_ hy279
      clear hy279
      have H' := A_ H
      clear H
      have hcz10_0 : wr.cell? ⟨gb275, 0, none⟩ = some (.int .i64 a0_0) := bc BK275 0
      have hcz10_1 : wr.cell? ⟨gb275, 1, none⟩ = some (.bool a0_1) := bc BK275 1
      have hfz10_0 := blk_frozen BK275.out 0
      have hfz10_1 := blk_frozen BK275.out 1
      go_wp2_with (first | ((with_reducible refine gate_builtin (b := .append) (xs := #[.tmp 14, .tmp 21]) rfl ?_); at_builtin; refine Kd.R_append (Kd.int .i64) (w0 := w) w.heap.size rfl (.tmp 14) (.tmp 21) 24 3 (.int .i64 0) 8 rfl Try.underlying24 info3 rfl (by decide) (by omega) u7 x7_1 (Int.tmod (wrap64 (a1 + x11_1)) a0_0) [.int .i64 (Int.tmod (wrap64 (a1 + x11_1)) a0_0)] (fun _ => True) (fun _ => False) rfl rfl ?aP (fun _ hk => hk.elim) ?aF ?aO ?aB ?aS ?aL ?_; (case aP => exact rfl); (case aB => exact (hq HB)); (case aF => exact (fun _ _ => trivial)); (case aO => exact (rq HO_7)); (case aS => exact (below_size (hq HB))); (case aL => have := LMc9.out; omega); intro v280 w11 ho hb hg hat; rw [← Ny279.out] at ho; have n0_ := A_ (blk_grown (g := gb275) (o := .cells #[.int .i64 a0_0, .bool a0_1] 27 (0, 0)) (bq BK275) hg (Kd.R_ne HO_7.out BK275.out (by decide))); have n1_ := A_ (hb); have n2_ := A_ (ho); clear BK275; clear HB; clear HO_7; have BK275 := n0_; have HB := n1_; have HO281 := n2_; clear n0_ n1_ n2_; clear ho hb hg hat))
      go_roundg k1
      case measure => have := HK1.out; omega
      case rel => exact ⟨(y279), (wrap64 (x11_1 + 1)), (by first | rfl | (simp; done) | (simp [*]; done)), H', ⟨by have := HK1.out; omega⟩, ⟨rq HO281⟩, ⟨bq BK275⟩, ⟨hq HB⟩⟩
     ·
      rw [if_neg c9] at H
      exact absurd H (by simp)
   ·
    rw [if_neg c7] at H
    have c7b0 : decide (x11_1 < a2) = false := decide_eq_false c7
    clear c7
    obtain rfl := Option.some.inj H
    go_wp2
    go_ret
    exact ⟨_, rt, rq HO_7, hq HB⟩

/-! ### impl_Road_tour_3: function 91 -/
def impl_Road_tour_3.f (a0 : Int) (a1 : Int) : Option (Int) := some (wrap64 ((wrap64 (a0 + a1)) + (mn a0 a1)))
set_option maxHeartbeats 8000000 in
set_option maxRecDepth 100000 in
theorem impl_Road_tour_3.calls (a0 : Int) (a1 : Int) (r : Int) (w : World) (h : impl_Road_tour_3.f a0 a1 = some r) :
    Calls Try.prog 91 #[.int .i64 a0, .int .i64 a1] w fun e w' => e = .returned (.int .i64 r) ∧ Below w.heap.size w w' := by
 have HB := A_ (Below.refl w.heap.size w)
 have H : (some (wrap64 ((wrap64 (a0 + a1)) + (mn a0 a1)))) = some r := h
 clear h
 obtain ⟨ji3, hji3⟩ : ∃ j_ : Int, (mn a0 a1) = j_ := ⟨_, rfl⟩
 replace H : (some (wrap64 ((wrap64 (a0 + a1)) + (ji3)))) = some r := by first | (rw [hji3] at H; exact H) | (simp only [hji3] at H ⊢; exact H)
 have hji3_ : (if a1 < a0 then a1 else a0) = ji3 := hji3
 obtain rfl := Option.some.inj H
 go_enter Try.func91, Try.ntmps91
 go_wp2
 go_ret
 exact ⟨by first | rfl | (simp [errW_none, errW_some] <;> rfl) | (simp only [← hji3]; first | rfl | (simp [errW_none, errW_some] <;> rfl)) | (simp [*, errW_none, errW_some] <;> rfl), hq HB⟩

/-! ### impl_Road_tour_1: function 89 -/
def impl_Road_tour_1.f (a0 : Int) (a1_0 : Int) (a1_1 : Bool) (a2_0 : Int) : Option (Int) := if a1_1 = true then (if a1_0 = 0 then (none) else (some (Int.tmod (wrap64 ((wrap64 (a0 - a2_0)) + a1_0)) a1_0))) else (some (wrap64 (a0 - a2_0)))
set_option maxHeartbeats 8000000 in
set_option maxRecDepth 100000 in
theorem impl_Road_tour_1.calls (a0 : Int) (gc1 : Nat) (a1_0 : Int) (a1_1 : Bool) (gc2 : Nat) (a2_0 : Int) (r : Int) (w : World) (hb1 : w.heap[gc1]? = some (.cells #[.int .i64 a1_0, .bool a1_1] 27 (0, 0))) (hb2 : w.heap[gc2]? = some (.cells #[.int .i64 a2_0] 3 (0, 0))) (h : impl_Road_tour_1.f a0 a1_0 a1_1 a2_0 = some r) :
    Calls Try.prog 89 #[.int .i64 a0, .pointer (some ⟨gc1, 0, none⟩), .pointer (some ⟨gc2, 0, none⟩)] w fun e w' => e = .returned (.int .i64 r) ∧ Drawn0 w w' := by
 have BK1 := A_ hb1
 clear hb1
 have BK2 := A_ hb2
 clear hb2
 have H : (if a1_1 = true then (if a1_0 = 0 then (none) else (some (Int.tmod (wrap64 ((wrap64 (a0 - a2_0)) + a1_0)) a1_0))) else (some (wrap64 (a0 - a2_0)))) = some r := h
 clear h
 by_cases c4 : a1_1 = true
 ·
  subst c4
  have H1 : (if a1_0 = 0 then (none) else (some (Int.tmod (wrap64 ((wrap64 (a0 - a2_0)) + a1_0)) a1_0))) = some r := by rw [if_pos rfl] at H; exact H
  clear H
  have H := H1
  clear H1
  by_cases c5 : a1_0 = 0
  ·
   rw [if_pos c5] at H
   exact absurd H (by simp)
  ·
   rw [if_neg c5] at H
   have c5b0 : (a1_0 == 0) = false := beq_eq_false_iff_ne.mpr c5
   have c5b1 : (a1_0 != 0) = true := bne_iff_ne.mpr c5
   obtain rfl := Option.some.inj H
   have hcz6_0 : w.cell? ⟨gc1, 0, none⟩ = some (.int .i64 a1_0) := bc BK1 0
   have hcz6_1 : w.cell? ⟨gc1, 1, none⟩ = some (.bool true) := bc BK1 1
   have hfz6_0 := blk_frozen BK1.out 0
   have hfz6_1 := blk_frozen BK1.out 1
   have hcz7_0 : w.cell? ⟨gc2, 0, none⟩ = some (.int .i64 a2_0) := bc BK2 0
   have hfz7_0 := blk_frozen BK2.out 0
   go_enter Try.func89, Try.ntmps89
   go_wp2
   go_ret
   exact ⟨by first | rfl | (simp; done) | (simp [*]; done), by repeat (first | exact Drawn0.refl _ | apply Drawn0.step)⟩
 ·
  replace c4 := Bool.eq_false_iff.mpr c4
  subst c4
  have H1 : (some (wrap64 (a0 - a2_0))) = some r := by rw [if_neg (show ¬ (false = true) by decide)] at H; exact H
  clear H
  have H := H1
  clear H1
  obtain rfl := Option.some.inj H
  have hcz8_0 : w.cell? ⟨gc1, 0, none⟩ = some (.int .i64 a1_0) := bc BK1 0
  have hcz8_1 : w.cell? ⟨gc1, 1, none⟩ = some (.bool false) := bc BK1 1
  have hfz8_0 := blk_frozen BK1.out 0
  have hfz8_1 := blk_frozen BK1.out 1
  have hcz9_0 : w.cell? ⟨gc2, 0, none⟩ = some (.int .i64 a2_0) := bc BK2 0
  have hfz9_0 := blk_frozen BK2.out 0
  go_enter Try.func89, Try.ntmps89
  go_wp2
  go_ret
  exact ⟨by first | rfl | (simp; done) | (simp [*]; done), by repeat (first | exact Drawn0.refl _ | apply Drawn0.step)⟩

end Go.Proofs.Ythnaghigpgfchaa.PFnExactFirstOrder
