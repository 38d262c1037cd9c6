/- Plain facts on numbers and lists: what the functions that the law FnLeaving reaches answer, and that the law's own function answers true. No program, no memory. -/
import Derived.Test.YtmamhnbhahafgaaPFnLeavingx1
import Derived.Test.YtmamhnbhahafgaaPFnLeavingx2
import Derived.Test.YtmamhnbhahafgaaPFnLeavingx3
import Derived.Test.YtmamhnbhahafgaaPFnLeavingx4
import Derived.Test.YtmamhnbhahafgaaPFnLeavingx5
import Derived.Test.YtmamhnbhahafgaaPFnLeavingx6
import Derived.Test.YtmamhnbhahafgaaPFnLeavingx7
import Derived.Test.YtmamhnbhahafgaaPFnLeavingx8
import Derived.Test.YtmamhnbhahafgaaPFnLeavingx9
import Derived.Test.YtmamhnbhahafgaaPFnLeavingx10
import Derived.Test.YtmamhnbhahafgaaPFnLeavingx11
import Derived.Test.YtmamhnbhahafgaaPFnLeavingx12
import Derived.Test.YtmamhnbhahafgaaPFnLeavingx13
import Derived.Test.YtmamhnbhahafgaaPFnLeavingx14
import Derived.Laws.Bits64b
namespace Go.Proofs.Ytmamhnbhahafgaa.Pure
open Go.RowKit Go.Proofs.Ytmamhnbhahafgaa.PFnLeaving Go.Proofs.YtmamhnbhahafgaaW.PrintWords Go.Proofs.YtmamhnbhahafgaaW.PrintLast Go.Proofs.YtmamhnbhahafgaaW.PrintMore
set_option linter.unusedVariables false
set_option linter.unusedSimpArgs false
theorem wrap64_id {x : Int} (h1 : -9223372036854775808 ≤ x) (h2 : x ≤ 9223372036854775807) : wrap64 x = x := by unfold wrap64; omega
def inR (x a b : Int) : Bool := decide (a ≤ x) && decide (x ≤ b)
theorem inR_iff {x a b : Int} : inR x a b = true ↔ a ≤ x ∧ x ≤ b := by unfold inR; simp
theorem inR_not {x a b : Int} : inR x a b = false ↔ ¬ (a ≤ x ∧ x ≤ b) := by rw [← inR_iff]; simp
def road (s : Int) (r : Bool) : Bool := inR s 2 24 && (!r || decide (3 ≤ s))
theorem road_bd {s : Int} {r : Bool} (h : road s r = true) : 2 ≤ s ∧ s ≤ 24 ∧ (r = true → 3 ≤ s) := by
  unfold road at h
  rw [Bool.and_eq_true, inR_iff] at h
  refine ⟨h.1.1, h.1.2, fun hr => ?_⟩
  have := h.2
  simp [hr] at this
  exact this
theorem spec_l1In_eq (a b c : Int) : spec_l1In.f a b c = some (inR a b c) := by
  unfold spec_l1In.f inR
  by_cases h : a ≥ b
  · have h' : b ≤ a := h
    simp [h, h']
  · have h' : ¬ b ≤ a := h
    simp [h, h']
theorem impl_within_eq (a b c : Int) : impl_within.f a b c = some (inR a b c) := by
  unfold impl_within.f inR
  by_cases h : a ≥ b
  · have h' : b ≤ a := h
    simp [h, h']
  · have h' : ¬ b ≤ a := h
    simp [h, h']
theorem spec_l2Road_eq (s : Int) (r : Bool) : spec_l2Road.f s r = some (road s r) := by
  unfold spec_l2Road.f road
  rw [spec_l1In_eq, Option.bind_some]
  cases inR s 2 24 <;> cases r <;> simp
  omega
theorem impl_IsRoad_eq (s : Int) (r : Bool) : impl_IsRoad.f s r = some (road s r) := by
  unfold impl_IsRoad.f road
  rw [impl_within_eq, Option.bind_some]
  cases inR s 2 24 <;> cases r <;> simp
theorem wrap_succ {i n : Nat} (h : i < n) (hn : n ≤ 9223372036854775807) : wrap64 ((i : Int) + 1) = ((i + 1 : Nat) : Int) := by unfold wrap64; omega
theorem drop_rd (l : List Int) (i : Nat) (h : i < l.length) : l.drop i = rd l (i : Int) :: l.drop (i + 1) := by
  rw [List.drop_eq_getElem_cons h]
  unfold rd
  simp [List.getD_eq_getElem?_getD, h]
theorem rd_get (l : List Int) (i : Nat) (h : i < l.length) : rd l (i : Int) = l[i] := by
  unfold rd
  simp [List.getD_eq_getElem?_getD, h]
theorem succ_of {k : Nat} (h : 0 < k) : ∃ m, k = m + 1 := ⟨k - 1, by omega⟩
theorem headD_mem {α : Type} (ls : List α) (z : α) (h : 0 < ls.length) : ls.headD z ∈ ls := by cases ls <;> simp_all
theorem drop_end {α : Type} (l : List α) (i : Nat) (h : l.length ≤ i) : l.drop i = [] := List.drop_of_length_le h
def allIn (l : List Int) (a b : Int) : Bool := l.all (fun x => inR x a b)
theorem impl_allWithin_l0 (lo hi : Int) (l : List Int) (hl : l.length ≤ 9223372036854775807) : ∀ (d i k : Nat), i + d = l.length → d < k →
    impl_allWithin.l0 k lo hi l (l.length : Int) (i : Int) = some (allIn (l.drop i) lo hi)
  | 0, i, k, h, hk => by
    obtain ⟨k, rfl⟩ := succ_of (k := k) (by omega)
    simp only [impl_allWithin.l0]
    rw [if_neg (by omega), drop_end l i (by omega)]
    rfl
  | d + 1, i, k, h, hk => by
    obtain ⟨k, rfl⟩ := succ_of (k := k) (by omega)
    simp only [impl_allWithin.l0]
    rw [if_pos (by omega), if_pos (by omega), if_pos (by omega), impl_within_eq, Option.bind_some, wrap_succ (n := l.length) (by omega) hl, impl_allWithin_l0 lo hi l hl d (i + 1) k (by omega) (by omega), drop_rd l i (by omega)]
    unfold allIn
    rw [List.all_cons]
    cases inR (rd l (i : Int)) lo hi <;> simp
theorem impl_allWithin_eq (k : Nat) (l : List Int) (a b : Int) (hl : l.length ≤ 9223372036854775807) (hk : l.length < k) : impl_allWithin.f k l a b = some (allIn l a b) := by
  unfold impl_allWithin.f
  have := impl_allWithin_l0 a b l hl l.length 0 k (by omega) hk
  simpa using this
theorem impl_Road_has_eq (k : Nat) (s : Int) (r : Bool) (l : List Int) (hl : l.length ≤ 9223372036854775807) (hk : l.length < k) : impl_Road_has.f k s r l = some (allIn l 0 (wrap64 (s - 1))) := by
  unfold impl_Road_has.f
  rw [impl_allWithin_eq k l _ _ hl hk, Option.bind_some]
theorem impl_Road_has1 (k : Nat) (s : Int) (r : Bool) (x : Int) (hs : road s r = true) (hk : 1 < k) : impl_Road_has.f k s r [x] = some (inR x 0 (s - 1)) := by
  rw [impl_Road_has_eq k s r [x] (by simp) (by simpa using hk)]
  have := road_bd hs
  rw [wrap64_id (by omega) (by omega)]
  simp [allIn]
theorem impl_Road_hasN (k : Nat) (s : Int) (r : Bool) (l : List Int) (hs : road s r = true) (hl : l.length ≤ 9223372036854775807) (hk : l.length < k) : impl_Road_has.f k s r l = some (allIn l 0 (s - 1)) := by
  rw [impl_Road_has_eq k s r l hl hk]
  have := road_bd hs
  rw [wrap64_id (by omega) (by omega)]
theorem spec_l2Place_eq (s : Int) (r : Bool) (x : Int) : spec_l2Place.f s r x = some (road s r && inR x 0 (s - 1)) := by
  unfold spec_l2Place.f
  rw [spec_l2Road_eq, Option.bind_some]
  cases h : road s r with
  | false => simp
  | true =>
    have := road_bd h
    rw [wrap64_id (by omega) (by omega)]
    simp [spec_l1In_eq]
def gapM (s : Int) (r : Bool) (a b : Int) : Int :=
  let d := if a - b < b - a then b - a else a - b
  if r = true then (if s - d < d then s - d else d) else d
theorem gapM_bd {s : Int} {r : Bool} {a b : Int} (hs : 2 ≤ s) (ha : 0 ≤ a ∧ a ≤ s - 1) (hb : 0 ≤ b ∧ b ≤ s - 1) : 0 ≤ gapM s r a b ∧ gapM s r a b ≤ s - 1 := by
  unfold gapM
  simp only
  split <;> split <;> (try split) <;> omega
theorem impl_Road_gap_eq (s : Int) (r : Bool) (a b : Int) (hs : 0 ≤ s ∧ s ≤ 1000) (ha : -1000000 ≤ a ∧ a ≤ 1000000) (hb : -1000000 ≤ b ∧ b ≤ 1000000) : impl_Road_gap.f s r a b = some (gapM s r a b) := by
  unfold impl_Road_gap.f gapM
  have e1 : wrap64 (a - b) = a - b := wrap64_id (by omega) (by omega)
  have e2 : wrap64 (b - a) = b - a := wrap64_id (by omega) (by omega)
  rw [e1, e2]
  have e : mx (a - b) (b - a) = if a - b < b - a then b - a else a - b := rfl
  rw [e]
  have e3 : wrap64 (s - (if a - b < b - a then b - a else a - b)) = s - (if a - b < b - a then b - a else a - b) := wrap64_id (by split <;> omega) (by split <;> omega)
  rw [e3]
  unfold mn
  cases r <;> simp
def lo2 (a b : Int) : Int := if a < b then a else b
theorem spec_l1Least_eq (a b : Int) : spec_l1Least.f a b = some (lo2 a b) := by unfold spec_l1Least.f lo2; split <;> rfl
def hi2 (a b : Int) : Int := if b < a then a else b
theorem spec_l1Most_eq (a b : Int) : spec_l1Most.f a b = some (hi2 a b) := by unfold spec_l1Most.f hi2; by_cases h : b < a <;> simp [h]
theorem spec_l2Gap_eq (s : Int) (r : Bool) (a b : Int) (hs : 0 ≤ s ∧ s ≤ 1000) (ha : -1000000 ≤ a ∧ a ≤ 1000000) (hb : -1000000 ≤ b ∧ b ≤ 1000000) : spec_l2Gap.f s r a b = some (gapM s r a b) := by
  unfold spec_l2Gap.f gapM
  rw [wrap64_id (x := a - b) (by omega) (by omega), wrap64_id (x := b - a) (by omega) (by omega), spec_l1Most_eq, Option.bind_some]
  have e : hi2 (a - b) (b - a) = if a - b < b - a then b - a else a - b := by unfold hi2; split <;> split <;> omega
  rw [e]
  have e3 : wrap64 (s - (if a - b < b - a then b - a else a - b)) = s - (if a - b < b - a then b - a else a - b) := wrap64_id (by split <;> omega) (by split <;> omega)
  rw [e3, spec_l1Least_eq]
  unfold lo2
  cases r <;> simp
  split <;> split <;> omega
theorem allIn_rd {l : List Int} {a b : Int} (h : allIn l a b = true) (i : Nat) (hi : i < l.length) : a ≤ rd l (i : Int) ∧ rd l (i : Int) ≤ b := by
  unfold allIn at h
  rw [List.all_eq_true] at h
  rw [rd_get l i hi]
  exact inR_iff.1 (h _ (List.getElem_mem hi))
theorem rd_bd {l : List Int} {a b : Int} (h : allIn l a b = true) (i : Nat) (hi : i < l.length) : a ≤ rd l (i : Int) ∧ rd l (i : Int) ≤ b := allIn_rd h i hi
def stepW (s : Int) (r : Bool) (p x : Int) : Int := if r = true then Int.tmod (p + x + s) s else if inR (p + x) 0 (s - 1) = true then p + x else p
theorem stepW_bd {s : Int} {r : Bool} {p x : Int} (hs : 2 ≤ s) (hp : 0 ≤ p ∧ p ≤ s - 1) (hx : -1 ≤ x ∧ x ≤ 1) : 0 ≤ stepW s r p x ∧ stepW s r p x ≤ s - 1 := by
  unfold stepW
  by_cases c : r = true
  · rw [if_pos c]
    have h1 := Int.tmod_nonneg s (show 0 ≤ p + x + s by omega)
    have h2 := Int.tmod_lt_of_pos (p + x + s) (show 0 < s by omega)
    omega
  · rw [if_neg c]
    by_cases d : inR (p + x) 0 (s - 1) = true
    · rw [if_pos d]
      exact inR_iff.1 d
    · rw [if_neg d]
      exact hp
theorem spec_l2Step_eq (s : Int) (r : Bool) (p x : Int) (hs : 2 ≤ s ∧ s ≤ 24) (hp : 0 ≤ p ∧ p ≤ s - 1) (hx : -1 ≤ x ∧ x ≤ 1) : spec_l2Step.f s r p x = some (stepW s r p x) := by
  unfold spec_l2Step.f stepW
  by_cases c : r = true
  · rw [if_pos c, if_pos c, if_neg (by omega), wrap64_id (x := p + x) (by omega) (by omega), wrap64_id (by omega) (by omega)]
  · rw [if_neg c, if_neg c, wrap64_id (x := p + x) (by omega) (by omega), wrap64_id (by omega) (by omega), spec_l1Least_eq, Option.bind_some, spec_l1Most_eq, Option.bind_some]
    congr 1
    unfold inR lo2 hi2
    by_cases d : 0 ≤ p + x <;> by_cases e : p + x ≤ s - 1 <;> simp [d, e] <;> (repeat' split) <;> omega
/-- From place i on, d places long: each is at most one away from the one ahead of it. -/
def chnM (s : Int) (r : Bool) (l : List Int) : Nat → Nat → Bool
  | _, 0 => true
  | i, d + 1 => decide (gapM s r (rd l ((i : Int) - 1)) (rd l (i : Int)) ≤ 1) && chnM s r l (i + 1) d
theorem chnM_succ (s : Int) (r : Bool) (l : List Int) (i d : Nat) : chnM s r l i (d + 1) = (decide (gapM s r (rd l ((i : Int) - 1)) (rd l (i : Int)) ≤ 1) && chnM s r l (i + 1) d) := rfl
def walkOkM (s : Int) (r : Bool) (l : List Int) : Bool := inR (l.length : Int) 1 61 && allIn l 0 (s - 1) && chnM s r l 1 (l.length - 1)
def leaversOk (s : Int) (r : Bool) (ls : List (List Int)) : Bool := inR (ls.length : Int) 1 4 && ls.all (walkOkM s r)
theorem impl_Road_isWalk_l0 (s : Int) (r : Bool) (hr : road s r = true) (l : List Int) (hl : l.length ≤ 61) (ha : allIn l 0 (s - 1) = true) : ∀ (d i k : Nat), i + d = l.length → 1 ≤ i → d < k →
    impl_Road_isWalk.l0 k l (i : Int) s r = some (chnM s r l i d)
  | 0, i, k, h, h1, hk => by
    obtain ⟨k, rfl⟩ := succ_of (k := k) (by omega)
    simp only [impl_Road_isWalk.l0]
    rw [if_neg (by omega)]
    rfl
  | d + 1, i, k, h, h1, hk => by
    obtain ⟨k, rfl⟩ := succ_of (k := k) (by omega)
    have hb := road_bd hr
    have b1 := rd_bd ha i (by omega)
    have b2 := rd_bd ha (i - 1) (by omega)
    rw [Int.natCast_sub h1] at b2
    simp only [impl_Road_isWalk.l0]
    rw [if_pos (by omega), wrap64_id (x := (i : Int) - 1) (by omega) (by omega), if_pos (by omega), if_pos (by omega), if_pos (by omega), impl_Road_gap_eq s r _ _ (by omega) (by simp at b2; omega) (by omega), Option.bind_some, wrap_succ (n := l.length) (by omega) (by omega), impl_Road_isWalk_l0 s r hr l hl ha d (i + 1) k (by omega) (by omega) (by omega), chnM_succ]
    by_cases c : gapM s r (rd l ((i : Int) - 1)) (rd l (i : Int)) > 1
    · rw [if_pos c, decide_eq_false (by omega)]
      simp
    · rw [if_neg c, decide_eq_true (by omega)]
      simp
theorem impl_Road_isWalk_eq (k : Nat) (s : Int) (r : Bool) (hr : road s r = true) (l : List Int) (hl : l.length ≤ 9223372036854775807) (hk : l.length + 3 < k) (hk2 : 70 < k) :
    impl_Road_isWalk.f k s r l = some (walkOkM s r l) := by
  obtain ⟨k, rfl⟩ := succ_of (k := k) (by omega)
  unfold impl_Road_isWalk.f walkOkM
  rw [impl_within_eq, Option.bind_some]
  cases hi : inR (l.length : Int) 1 61 with
  | false => simp [impl_Road_isWalk.j0]
  | true =>
    have hi := inR_iff.1 hi
    rw [if_pos rfl, impl_Road_hasN (k + 1) s r l hr hl (by omega), Option.bind_some]
    cases ha : allIn l 0 (s - 1) with
    | false => simp [impl_Road_isWalk.j0]
    | true =>
      have := impl_Road_isWalk_l0 s r hr l (by omega) ha (l.length - 1) 1 k (by omega) (by omega) (by omega)
      simp only [impl_Road_isWalk.j0, Bool.not_true]
      rw [if_neg (by simp)]
      simpa using this
open Go.Proofs.Ytmamhnbhahafgaa.Own in
theorem anyOL_eq {α : Type} {q : α → Option Bool} {p : α → Bool} : ∀ {l : List α}, (∀ x ∈ l, q x = some (p x)) → anyO q l = some (l.any p)
  | [], _ => rfl
  | x :: t, h => by
    simp only [anyO]
    rw [h x (List.mem_cons_self ..), Option.bind_some, anyOL_eq (fun y hy => h y (List.mem_cons_of_mem _ hy)), List.any_cons]
    cases p x <;> simp
theorem impl_areWalks_eq (k : Nat) (s : Int) (r : Bool) (ls : List (List Int)) (hx : ∀ x ∈ ls, x.length ≤ 9223372036854775807 ∧ x.length + 3 < k) (hk : 70 < k) :
    impl_areWalks.f k s r ls = some (road s r && ls.all (walkOkM s r)) := by
  unfold impl_areWalks.f
  rw [impl_IsRoad_eq, Option.bind_some]
  cases hr : road s r with
  | false => simp
  | true =>
    rw [if_pos rfl, anyOL_eq (p := fun x => !walkOkM s r x)]
    · rw [Option.bind_some, Bool.true_and]
      congr 1
      clear hx
      induction ls with
      | nil => rfl
      | cons x ls ih => rw [List.any_cons, List.all_cons, Bool.not_or, Bool.not_not, ih]
    · intro x hm
      rw [impl_Road_isWalk_eq k s r hr x (hx x hm).1 (hx x hm).2 hk]
      rfl
theorem impl_areLeavers_eq (k : Nat) (s : Int) (r : Bool) (ls : List (List Int)) (hx : ∀ x ∈ ls, x.length ≤ 9223372036854775807 ∧ x.length + 3 < k) (hk : 70 < k) :
    impl_areLeavers.f k s r ls = some (road s r && leaversOk s r ls) := by
  unfold impl_areLeavers.f leaversOk
  rw [impl_areWalks_eq k s r ls hx hk, Option.bind_some, impl_within_eq]
  cases road s r <;> cases ls.all (walkOkM s r) <;> cases inR (ls.length : Int) 1 4 <;> simp
theorem spec_l2Walk_l0 (s : Int) (r : Bool) (hr : road s r = true) (l : List Int) (hl : l.length ≤ 9223372036854775807) : ∀ (d i k : Nat), i + d = min 61 l.length → allIn (l.take i) 0 (s - 1) = true → 2 * d + 1 < k →
    spec_l2Walk.l0 k l (i : Int) s r = some (inR (l.length : Int) 1 61 && allIn l 0 (s - 1) && chnM s r l (max i 1) (l.length - max i 1))
  | 0, i, k, h, ha, hk => by
    obtain ⟨k, rfl⟩ := succ_of (k := k) (by omega)
    obtain ⟨k, rfl⟩ := succ_of (k := k) (by omega)
    have hf : (if (i : Int) < (l.length : Int) then spec_l2Walk.j1 (k + 1) l (i : Int) (decide ((i : Int) ≤ 60)) s r else spec_l2Walk.j1 (k + 1) l (i : Int) false s r) = spec_l2Walk.j1 (k + 1) l (i : Int) false s r := by
      by_cases c : (i : Int) < (l.length : Int)
      · rw [if_pos c, decide_eq_false (by omega)]
      · rw [if_neg c]
    simp only [spec_l2Walk.l0]
    rw [hf]
    simp only [spec_l2Walk.j1]
    rw [if_neg (by simp), spec_l2Road_eq, hr, Option.bind_some, if_pos rfl, spec_l1In_eq, Option.bind_some]
    cases c : inR (l.length : Int) 1 61 with
    | false => simp
    | true =>
      have c := inR_iff.1 c
      rw [List.take_of_length_le (by omega)] at ha
      rw [ha, show l.length - max i 1 = 0 by omega]
      rfl
  | d + 1, i, k, h, ha, hk => by
    obtain ⟨k, rfl⟩ := succ_of (k := k) (by omega)
    obtain ⟨k, rfl⟩ := succ_of (k := k) (by omega)
    have hb := road_bd hr
    simp only [spec_l2Walk.l0]
    rw [if_pos (by omega), decide_eq_true (by omega)]
    simp only [spec_l2Walk.j1]
    rw [if_pos trivial, if_pos (by omega), if_pos (by omega), spec_l2Place_eq, Option.bind_some, hr, Bool.true_and]
    cases hi : inR (rd l (i : Int)) 0 (s - 1) with
    | true =>
      have hi' := inR_iff.1 hi
      have ih := spec_l2Walk_l0 s r hr l hl d (i + 1) k (by omega) (by
        rw [List.take_succ_eq_append_getElem (show i < l.length by omega)]
        unfold allIn at ha ⊢
        rw [List.all_append, ha, ← rd_get l i (by omega)]
        simp [hi]) (by omega)
      rw [if_pos rfl, wrap_succ (n := l.length) (by omega) hl]
      by_cases z : i = 0
      · subst z
        rw [if_neg (by omega), ih]
        rfl
      · have b2 : 0 ≤ rd l ((i : Int) - 1) ∧ rd l ((i : Int) - 1) ≤ s - 1 := by
          have hm : (l.take i).length = i := by rw [List.length_take]; omega
          have := rd_bd ha (i - 1) (by omega)
          rw [rd_get _ _ (by omega), List.getElem_take, ← rd_get l (i - 1) (by omega)] at this
          rw [show ((i : Int) - 1) = ((i - 1 : Nat) : Int) by omega]
          exact this
        rw [if_pos (by omega), wrap64_id (x := (i : Int) - 1) (by omega) (by omega), if_pos (by omega), if_pos (by omega), spec_l2Gap_eq s r _ _ (by omega) (by omega) (by omega), Option.bind_some, ih]
        rw [show max (i + 1) 1 = i + 1 by omega, show max i 1 = i by omega, show l.length - i = (l.length - (i + 1)) + 1 by omega, chnM_succ]
        by_cases c : gapM s r (rd l ((i : Int) - 1)) (rd l (i : Int)) > 1
        · rw [if_pos c, decide_eq_false (by omega)]
          simp
        · rw [if_neg c, decide_eq_true (by omega)]
          simp
    | false =>
      have : allIn l 0 (s - 1) = false := by
        cases h2 : allIn l 0 (s - 1) with
        | false => rfl
        | true =>
          have := rd_bd h2 i (by omega)
          rw [inR_iff.2 this] at hi
          cases hi
      simp [this]
theorem spec_l2Walk_eq (k : Nat) (s : Int) (r : Bool) (l : List Int) (hl : l.length ≤ 9223372036854775807) (hk : 200 < k) : spec_l2Walk.f k s r l = some (road s r && walkOkM s r l) := by
  unfold spec_l2Walk.f walkOkM
  cases hr : road s r with
  | true =>
    have := spec_l2Walk_l0 s r hr l hl (min 61 l.length) 0 k (by omega) (by simp [allIn]) (by omega)
    rw [Bool.true_and]
    exact this
  | false =>
    obtain ⟨k, rfl⟩ := succ_of (k := k) (by omega)
    obtain ⟨k, rfl⟩ := succ_of (k := k) (by omega)
    simp only [spec_l2Walk.l0]
    by_cases c : (0 : Int) < (l.length : Int)
    · rw [if_pos c, decide_eq_true (by omega)]
      simp only [spec_l2Walk.j1]
      rw [if_pos trivial, if_pos (by omega), if_pos c, spec_l2Place_eq, hr]
      simp
    · rw [if_neg c]
      simp only [spec_l2Walk.j1]
      rw [if_neg (by simp), spec_l2Road_eq, hr]
      simp
theorem spec_l6Leavers_l0 (s : Int) (r : Bool) (ls : List (List Int)) (hl : ls.length ≤ 9223372036854775807) (hx : ∀ x ∈ ls, x.length ≤ 9223372036854775807) : ∀ (d i k : Nat), i + d = min 5 ls.length → 2 * d + 210 < k →
    spec_l6Leavers.l0 k ls (i : Int) s r = some (road s r && (inR (ls.length : Int) 1 4 && (ls.drop i).all (walkOkM s r)))
  | 0, i, k, h, hk => by
    obtain ⟨k, rfl⟩ := succ_of (k := k) (by omega)
    obtain ⟨k, rfl⟩ := succ_of (k := k) (by omega)
    have hf : (if (i : Int) < (ls.length : Int) then spec_l6Leavers.j1 (k + 1) ls (i : Int) (decide ((i : Int) ≤ 4)) s r else spec_l6Leavers.j1 (k + 1) ls (i : Int) false s r) = spec_l6Leavers.j1 (k + 1) ls (i : Int) false s r := by
      by_cases c : (i : Int) < (ls.length : Int)
      · rw [if_pos c, decide_eq_false (by omega)]
      · rw [if_neg c]
    simp only [spec_l6Leavers.l0]
    rw [hf]
    simp only [spec_l6Leavers.j1]
    rw [if_neg (by simp), spec_l2Road_eq, Option.bind_some, spec_l1In_eq]
    by_cases c : ls.length ≤ 5
    · rw [drop_end ls i (by omega)]
      cases road s r <;> simp
    · have : inR (ls.length : Int) 1 4 = false := inR_not.2 (by omega)
      cases road s r <;> simp [this]
  | d + 1, i, k, h, hk => by
    obtain ⟨k, rfl⟩ := succ_of (k := k) (by omega)
    obtain ⟨k, rfl⟩ := succ_of (k := k) (by omega)
    have hi : i < ls.length := by omega
    have hg : rd_L2 ls (i : Int) = ls[i] := by unfold rd_L2; simp [List.getD_eq_getElem?_getD, List.getElem?_eq_getElem hi]
    simp only [spec_l6Leavers.l0]
    rw [if_pos (by omega), decide_eq_true (by omega)]
    simp only [spec_l6Leavers.j1]
    rw [if_pos trivial, if_pos (by omega), if_pos (by omega), hg, spec_l2Walk_eq k s r _ (hx _ (List.getElem_mem hi)) (by omega), Option.bind_some, wrap_succ (n := ls.length) hi hl, spec_l6Leavers_l0 s r ls hl hx d (i + 1) k (by omega) (by omega), List.drop_eq_getElem_cons hi, List.all_cons]
    cases road s r <;> cases walkOkM s r ls[i] <;> simp
theorem spec_l6Leavers_eq (k : Nat) (s : Int) (r : Bool) (ls : List (List Int)) (hl : ls.length ≤ 9223372036854775807) (hx : ∀ x ∈ ls, x.length ≤ 9223372036854775807) (hk : 300 < k) : spec_l6Leavers.f k s r ls = some (road s r && leaversOk s r ls) := by
  unfold spec_l6Leavers.f leaversOk
  have := spec_l6Leavers_l0 s r ls hl hx (min 5 ls.length) 0 k (by omega) (by omega)
  simpa using this
/-- The place of the first x in a list whose places begin with i, or -1. -/
def firstM (x : Int) : List Int → Nat → Int
  | [], _ => -1
  | y :: t, i => if y = x then (i : Int) else firstM x t (i + 1)
theorem firstM_bd (x : Int) : ∀ (l : List Int) (i : Nat), firstM x l i = -1 ∨ ((i : Int) ≤ firstM x l i ∧ firstM x l i < (i : Int) + l.length)
  | [], i => .inl rfl
  | y :: t, i => by
    simp only [firstM, List.length_cons]
    split
    · right; omega
    · rcases firstM_bd x t (i + 1) with h | h
      · exact .inl h
      · right; omega
theorem spec_l2First_l0 (x : Int) (l : List Int) (hl : l.length ≤ 9223372036854775807) : ∀ (d i k : Nat), i + d = l.length → d < k → spec_l2First.l0 k l x (i : Int) = some (firstM x (l.drop i) i)
  | 0, i, k, h, hk => by
    obtain ⟨k, rfl⟩ := succ_of (k := k) (by omega)
    simp only [spec_l2First.l0]
    rw [if_neg (by omega), drop_end l i (by omega)]
    rfl
  | d + 1, i, k, h, hk => by
    obtain ⟨k, rfl⟩ := succ_of (k := k) (by omega)
    simp only [spec_l2First.l0]
    rw [if_pos (by omega), if_pos (by omega), wrap_succ (n := l.length) (by omega) hl, spec_l2First_l0 x l hl d (i + 1) k (by omega) (by omega), drop_rd l i (by omega)]
    simp only [firstM]
    split <;> rfl
theorem spec_l2First_eq (k : Nat) (x : Int) (l : List Int) (hl : l.length ≤ 9223372036854775807) (hk : l.length < k) : spec_l2First.f k l x = some (firstM x l 0) := by
  unfold spec_l2First.f
  exact spec_l2First_l0 x l hl l.length 0 k (by omega) hk
theorem slices_Index_l0 (x : Int) (l : List Int) (hl : l.length ≤ 9223372036854775807) : ∀ (d i k : Nat), i + d = l.length → d < k → slices_Index_int_int.l0 k l x (l.length : Int) (i : Int) = some (firstM x (l.drop i) i)
  | 0, i, k, h, hk => by
    obtain ⟨k, rfl⟩ := succ_of (k := k) (by omega)
    simp only [slices_Index_int_int.l0]
    rw [if_neg (by omega), drop_end l i (by omega)]
    rfl
  | d + 1, i, k, h, hk => by
    obtain ⟨k, rfl⟩ := succ_of (k := k) (by omega)
    simp only [slices_Index_int_int.l0]
    rw [if_pos (by omega), if_pos (by omega), if_pos (by omega), wrap_succ (n := l.length) (by omega) hl, slices_Index_l0 x l hl d (i + 1) k (by omega) (by omega), drop_rd l i (by omega)]
    simp only [firstM]
    by_cases c : x = rd l (i : Int)
    · rw [if_pos c, if_pos c.symm]
    · rw [if_neg c, if_neg (fun h => c h.symm)]
theorem slices_Index_eq (k : Nat) (x : Int) (l : List Int) (hl : l.length ≤ 9223372036854775807) (hk : l.length < k) : slices_Index_int_int.f k l x = some (firstM x l 0) := by
  unfold slices_Index_int_int.f
  exact slices_Index_l0 x l hl l.length 0 k (by omega) hk
/-- The better of the time held and a list's first. -/
def betM (x b : Int) (l : List Int) : Int := if 0 ≤ firstM x l 0 ∧ (b < 0 ∨ firstM x l 0 < b) then firstM x l 0 else b
def bestM (x : Int) (b : Int) (ls : List (List Int)) : Int := ls.foldl (betM x) b
/-- The place at a time; the last one where the list has ended. -/
def atM (l : List Int) (t : Int) : Int := rd l (if (l.length : Int) - 1 < t then (l.length : Int) - 1 else t)
def farM (s : Int) (r : Bool) (x t : Int) (m : Int) (ls : List (List Int)) : Int := ls.foldl (fun m l => if m < gapM s r (atM l t) x then gapM s r (atM l t) x else m) m
def leaveM (s : Int) (r : Bool) (ls : List (List Int)) (x : Int) : Int := if bestM x (-1) ls < 0 then -1 else bestM x (-1) ls + farM s r x (bestM x (-1) ls) 0 ls
theorem betM_bd (x b : Int) (l : List Int) (n : Int) (hl : (l.length : Int) ≤ n) (hb : -1 ≤ b ∧ b ≤ n) : -1 ≤ betM x b l ∧ betM x b l ≤ n := by
  unfold betM
  have := firstM_bd x l 0
  split <;> omega
theorem bestM_bd (x : Int) (n : Int) : ∀ (ls : List (List Int)) (b : Int), (∀ l ∈ ls, (l.length : Int) ≤ n) → -1 ≤ b ∧ b ≤ n → -1 ≤ bestM x b ls ∧ bestM x b ls ≤ n
  | [], b, _, hb => hb
  | l :: t, b, h, hb => bestM_bd x n t _ (fun y hy => h y (List.mem_cons_of_mem _ hy)) (betM_bd x b l n (h l (List.mem_cons_self ..)) hb)
theorem atM_bd {s : Int} {l : List Int} {t : Int} (hl : 1 ≤ l.length) (ha : allIn l 0 (s - 1) = true) (ht : 0 ≤ t) : 0 ≤ atM l t ∧ atM l t ≤ s - 1 := by
  unfold atM
  have : ∃ n : Nat, n < l.length ∧ (if (l.length : Int) - 1 < t then (l.length : Int) - 1 else t) = (n : Int) := by
    by_cases c : (l.length : Int) - 1 < t
    · exact ⟨l.length - 1, by omega, by rw [if_pos c]; omega⟩
    · exact ⟨t.toNat, by omega, by rw [if_neg c]; omega⟩
  obtain ⟨n, hn, e⟩ := this
  rw [e]
  exact rd_bd ha n hn
theorem farM_bd (s : Int) (r : Bool) (x t n : Int) : ∀ (ls : List (List Int)) (m : Int), (∀ l ∈ ls, gapM s r (atM l t) x ≤ n) → m ≤ n → m ≤ farM s r x t m ls ∧ farM s r x t m ls ≤ n
  | [], m, _, hm => ⟨Int.le_refl _, hm⟩
  | l :: q, m, h, hm => by
    have hl := h l (List.mem_cons_self ..)
    have := farM_bd s r x t n q (if m < gapM s r (atM l t) x then gapM s r (atM l t) x else m) (fun y hy => h y (List.mem_cons_of_mem _ hy)) (by split <;> omega)
    refine ⟨?_, this.2⟩
    refine Int.le_trans ?_ this.1
    split <;> omega
theorem spec_l2At_eq (l : List Int) (t : Int) (hl : 1 ≤ l.length ∧ l.length ≤ 1000) (ht : 0 ≤ t ∧ t ≤ 1000) : spec_l2At.f l t = some (atM l t) := by
  unfold spec_l2At.f atM
  rw [wrap64_id (by omega) (by omega), spec_l1Least_eq, Option.bind_some]
  have e : lo2 t ((l.length : Int) - 1) = if (l.length : Int) - 1 < t then (l.length : Int) - 1 else t := by unfold lo2; split <;> split <;> omega
  rw [e, if_pos (by split <;> omega), if_pos (by split <;> omega)]
theorem impl_at_eq (l : List Int) (t : Int) (hl : 1 ≤ l.length ∧ l.length ≤ 1000) (ht : 0 ≤ t ∧ t ≤ 1000) : impl_at.f l t = some (atM l t) := by
  unfold impl_at.f atM
  rw [wrap64_id (by omega) (by omega)]
  have e : mn t ((l.length : Int) - 1) = if (l.length : Int) - 1 < t then (l.length : Int) - 1 else t := rfl
  rw [e, if_pos (by split <;> omega), if_pos (by split <;> omega)]
theorem spec_l6Leave_l1 (s : Int) (r : Bool) (hr : road s r = true) (x t : Int) (hx : 0 ≤ x ∧ x ≤ s - 1) (ht : 0 ≤ t ∧ t ≤ 100) (ls : List (List Int)) (hl : ls.length ≤ 1000) (hw : ∀ l ∈ ls, (1 ≤ l.length ∧ l.length ≤ 1000) ∧ allIn l 0 (s - 1) = true) : ∀ (d i k : Nat) (m : Int), i + d = ls.length → d < k → 0 ≤ m ∧ m ≤ s - 1 →
    spec_l6Leave.l1 k ls x t (t + m) (i : Int) s r = some (t + farM s r x t m (ls.drop i))
  | 0, i, k, m, h, hk, hm => by
    obtain ⟨k, rfl⟩ := succ_of (k := k) (by omega)
    simp only [spec_l6Leave.l1]
    rw [if_neg (by omega), drop_end ls i (by omega)]
    rfl
  | d + 1, i, k, m, h, hk, hm => by
    obtain ⟨k, rfl⟩ := succ_of (k := k) (by omega)
    have hb := road_bd hr
    have hi : i < ls.length := by omega
    have hg : rd_L2 ls (i : Int) = ls[i] := by unfold rd_L2; simp [List.getD_eq_getElem?_getD, List.getElem?_eq_getElem hi]
    have hwi := hw _ (List.getElem_mem hi)
    have ha := atM_bd (t := t) hwi.1.1 hwi.2 ht.1
    have hgp := gapM_bd (s := s) (r := r) (a := atM ls[i] t) (b := x) hb.1 ha hx
    simp only [spec_l6Leave.l1]
    rw [if_pos (by omega), if_pos (by omega), hg, spec_l2At_eq _ _ hwi.1 (by omega), Option.bind_some, spec_l2Gap_eq s r _ _ (by omega) (by omega) (by omega), Option.bind_some, wrap64_id (by omega) (by omega), spec_l1Most_eq, Option.bind_some, wrap_succ (n := ls.length) hi (by omega)]
    have e : hi2 (t + m) (t + gapM s r (atM ls[i] t) x) = t + (if m < gapM s r (atM ls[i] t) x then gapM s r (atM ls[i] t) x else m) := by unfold hi2; split <;> split <;> omega
    rw [e, spec_l6Leave_l1 s r hr x t hx ht ls hl hw d (i + 1) k _ (by omega) (by omega) (by split <;> omega), List.drop_eq_getElem_cons hi]
    rfl
theorem spec_l6Leave_l0 (s : Int) (r : Bool) (hr : road s r = true) (x : Int) (hx : 0 ≤ x ∧ x ≤ s - 1) (ls : List (List Int)) (hl : ls.length ≤ 4) (hw : ∀ l ∈ ls, (1 ≤ l.length ∧ l.length ≤ 61) ∧ allIn l 0 (s - 1) = true) : ∀ (d i k : Nat) (b : Int), i + d = ls.length → d + 100 < k → -1 ≤ b ∧ b ≤ 61 →
    spec_l6Leave.l0 k ls x b (i : Int) s r = some (if bestM x b (ls.drop i) < 0 then -1 else bestM x b (ls.drop i) + farM s r x (bestM x b (ls.drop i)) 0 ls)
  | 0, i, k, b, h, hk, hb => by
    obtain ⟨k, rfl⟩ := succ_of (k := k) (by omega)
    have hrb := road_bd hr
    simp only [spec_l6Leave.l0]
    rw [if_neg (by omega), drop_end ls i (by omega)]
    show _ = some (if b < 0 then -1 else b + farM s r x b 0 ls)
    by_cases c : b < 0
    · rw [if_pos c, if_pos c]
    · rw [if_neg c, if_neg c]
      have := spec_l6Leave_l1 s r hr x b hx (by omega) ls (by omega) (fun l hl => ⟨by have := (hw l hl).1; omega, (hw l hl).2⟩) ls.length 0 k 0 (by omega) (by omega) (by omega)
      simpa using this
  | d + 1, i, k, b, h, hk, hb => by
    obtain ⟨k, rfl⟩ := succ_of (k := k) (by omega)
    have hi : i < ls.length := by omega
    have hg : rd_L2 ls (i : Int) = ls[i] := by unfold rd_L2; simp [List.getD_eq_getElem?_getD, List.getElem?_eq_getElem hi]
    have hwi := hw _ (List.getElem_mem hi)
    have hbb := betM_bd x b ls[i] 61 (by omega) hb
    have ih := spec_l6Leave_l0 s r hr x hx ls hl hw d (i + 1) k (betM x b ls[i]) (by omega) (by omega) hbb
    have e : bestM x b (ls.drop i) = bestM x (betM x b ls[i]) (ls.drop (i + 1)) := by rw [List.drop_eq_getElem_cons hi]; rfl
    simp only [spec_l6Leave.l0]
    rw [if_pos (by omega), if_pos (by omega), hg, spec_l2First_eq k x _ (by omega) (by omega), Option.bind_some, wrap_succ (n := ls.length) hi (by omega), e, ← ih]
    unfold betM
    by_cases c1 : firstM x ls[i] 0 ≥ 0
    · rw [if_pos c1]
      by_cases c2 : b < 0
      · rw [if_pos c2, if_pos ⟨c1, .inl c2⟩]
      · rw [if_neg c2]
        by_cases c3 : firstM x ls[i] 0 < b
        · rw [if_pos c3, if_pos ⟨c1, .inr c3⟩]
        · rw [if_neg c3, if_neg (by omega)]
    · rw [if_neg c1, if_neg (by omega)]
theorem leaversOk_bd {s : Int} {r : Bool} {ls : List (List Int)} (h : leaversOk s r ls = true) : (1 ≤ ls.length ∧ ls.length ≤ 4) ∧ ∀ l ∈ ls, (1 ≤ l.length ∧ l.length ≤ 61) ∧ allIn l 0 (s - 1) = true := by
  unfold leaversOk at h
  rw [Bool.and_eq_true, inR_iff, List.all_eq_true] at h
  refine ⟨by omega, fun l hl => ?_⟩
  have := h.2 l hl
  unfold walkOkM at this
  rw [Bool.and_eq_true, Bool.and_eq_true, inR_iff] at this
  exact ⟨by omega, this.1.2⟩
theorem spec_l6Leave_eq (k : Nat) (s : Int) (r : Bool) (hr : road s r = true) (x : Int) (hx : 0 ≤ x ∧ x ≤ s - 1) (ls : List (List Int)) (h : leaversOk s r ls = true) (hk : 200 < k) : spec_l6Leave.f k s r ls x = some (leaveM s r ls x) := by
  unfold spec_l6Leave.f leaveM
  have hb := leaversOk_bd h
  have := spec_l6Leave_l0 s r hr x hx ls hb.1.2 hb.2 ls.length 0 k (-1) (by omega) (by omega) (by omega)
  simpa using this
def leavesM (s : Int) (r : Bool) (ls : List (List Int)) (n : Nat) : List Int := (List.range n).map fun (i : Nat) => leaveM s r ls (i : Int)
theorem leavesM_snoc (s : Int) (r : Bool) (ls : List (List Int)) (n : Nat) : leavesM s r ls (n + 1) = leavesM s r ls n ++ [leaveM s r ls (n : Int)] := by unfold leavesM; rw [List.range_succ]; simp
theorem leavesM_len (s : Int) (r : Bool) (ls : List (List Int)) (n : Nat) : (leavesM s r ls n).length = n := by simp [leavesM]
theorem spec_LeaveTimes_l0 (s : Int) (r : Bool) (hr : road s r = true) (ls : List (List Int)) (h : leaversOk s r ls = true) : ∀ (d i k : Nat), (i : Int) + d = s → d + 200 < k →
    spec_LeaveTimes.l0 k ls (leavesM s r ls i) (i : Int) s r = some (leavesM s r ls s.toNat, true)
  | 0, i, k, he, hk => by
    obtain ⟨k, rfl⟩ := succ_of (k := k) (by omega)
    simp only [spec_LeaveTimes.l0]
    rw [if_neg (by omega), show s.toNat = i by omega]
  | d + 1, i, k, he, hk => by
    obtain ⟨k, rfl⟩ := succ_of (k := k) (by omega)
    have hb := road_bd hr
    simp only [spec_LeaveTimes.l0]
    rw [if_pos (by omega), spec_l6Leave_eq k s r hr (i : Int) (by omega) ls h (by omega), Option.bind_some, if_pos (by rw [leavesM_len]; omega), wrap64_id (by omega) (by omega), ← leavesM_snoc]
    exact spec_LeaveTimes_l0 s r hr ls h d (i + 1) k (by omega) (by omega)
theorem spec_LeaveTimes_eq (k : Nat) (s : Int) (r : Bool) (ls : List (List Int)) (hl : ls.length ≤ 9223372036854775807) (hx : ∀ x ∈ ls, x.length ≤ 9223372036854775807) (hk : 300 < k) :
    spec_LeaveTimes.f k s r ls = some (if (road s r && leaversOk s r ls) = true then (leavesM s r ls s.toNat, true) else ([], false)) := by
  unfold spec_LeaveTimes.f
  rw [Option.bind_some, spec_l6Leavers_eq k s r ls hl hx hk, Option.bind_some]
  by_cases c : (road s r && leaversOk s r ls) = true
  · have c' := c
    rw [Bool.and_eq_true] at c'
    have hb := road_bd c'.1
    rw [if_pos c, if_pos c]
    have := spec_LeaveTimes_l0 s r c'.1 ls c'.2 s.toNat 0 k (by omega) (by omega)
    simpa [leavesM] using this
  · rw [if_neg c, if_neg c]
theorem impl_Road_leaveTimes_l2 (s : Int) (r : Bool) (hr : road s r = true) (x t : Int) (hx : 0 ≤ x ∧ x ≤ s - 1) (ht : -1 ≤ t ∧ t ≤ 100) (ls : List (List Int)) (hl : ls.length ≤ 1000) (hw : ∀ l ∈ ls, (1 ≤ l.length ∧ l.length ≤ 61) ∧ allIn l 0 (s - 1) = true) (out : List Int) (ho : out.length ≤ 1000) (p : Nat) (hp : p ≤ 1000) : ∀ (d i k : Nat) (m : Int), i + d = ls.length → 0 ≤ m ∧ m ≤ s - 1 →
    impl_Road_leaveTimes.l2 (k + d + 1) ls out x t m s (p : Int) ls (ls.length : Int) (i : Int) s r = impl_Road_leaveTimes.l0 k ls (out ++ [t + (if t < 0 then m else farM s r x t m (ls.drop i))]) s ((p + 1 : Nat) : Int) s r
  | 0, i, k, m, h, hm => by
    have hb := road_bd hr
    simp only [impl_Road_leaveTimes.l2]
    rw [if_neg (by omega), if_pos (by omega), wrap64_id (by omega) (by omega), wrap64_id (by omega) (by omega), drop_end ls i (by omega)]
    by_cases c : t < 0
    · rw [if_pos c]; rfl
    · rw [if_neg c]; rfl
  | d + 1, i, k, m, h, hm => by
    have hb := road_bd hr
    have hi : i < ls.length := by omega
    have hg : rd_L2 ls (i : Int) = ls[i] := by unfold rd_L2; simp [List.getD_eq_getElem?_getD, List.getElem?_eq_getElem hi]
    have hwi := hw _ (List.getElem_mem hi)
    have ih := fun m' hm' => impl_Road_leaveTimes_l2 s r hr x t hx ht ls hl hw out ho p hp d (i + 1) k m' (by omega) hm'
    show impl_Road_leaveTimes.l2 ((k + d + 1) + 1) _ _ _ _ _ _ _ _ _ _ _ _ = _
    generalize k + d + 1 = z at ih ⊢
    simp only [impl_Road_leaveTimes.l2]
    rw [if_pos (by omega), if_pos (by omega), if_pos (by omega), hg, wrap_succ (n := ls.length) hi (by omega)]
    by_cases c : t < 0
    · rw [if_neg (by omega), ih m hm, if_pos c]
      simp only [c, if_true]
    · have ha := atM_bd (t := t) hwi.1.1 hwi.2 (by omega)
      have hgp := gapM_bd (s := s) (r := r) (a := atM ls[i] t) (b := x) hb.1 ha hx
      have e : mx m (gapM s r (atM ls[i] t) x) = if m < gapM s r (atM ls[i] t) x then gapM s r (atM ls[i] t) x else m := rfl
      rw [if_pos (by omega), impl_at_eq _ _ (by omega) (by omega), Option.bind_some, impl_Road_gap_eq s r _ _ (by omega) (by omega) (by omega), Option.bind_some, e, ih _ (by split <;> omega), if_neg c, if_neg c, List.drop_eq_getElem_cons hi]
      rfl
theorem impl_Road_leaveTimes_l1 (s : Int) (r : Bool) (hr : road s r = true) (x : Int) (hx : 0 ≤ x ∧ x ≤ s - 1) (ls : List (List Int)) (hl : ls.length ≤ 4) (hw : ∀ l ∈ ls, (1 ≤ l.length ∧ l.length ≤ 61) ∧ allIn l 0 (s - 1) = true) (out : List Int) (ho : out.length ≤ 1000) (p : Nat) (hp : p ≤ 1000) : ∀ (d i k : Nat) (b : Int), i + d = ls.length → 70 ≤ k → -1 ≤ b ∧ b ≤ 61 →
    impl_Road_leaveTimes.l1 ((k + ls.length + 1) + d + 1) ls out x b s (p : Int) ls (ls.length : Int) (i : Int) s r = impl_Road_leaveTimes.l0 k ls (out ++ [if bestM x b (ls.drop i) < 0 then -1 else bestM x b (ls.drop i) + farM s r x (bestM x b (ls.drop i)) 0 ls]) s ((p + 1 : Nat) : Int) s r
  | 0, i, k, b, h, hk, hb => by
    have hrb := road_bd hr
    simp only [impl_Road_leaveTimes.l1]
    rw [if_neg (by omega), drop_end ls i (by omega)]
    have := impl_Road_leaveTimes_l2 s r hr x b hx (by omega) ls (by omega) hw out ho p hp ls.length 0 k 0 (by omega) (by omega)
    rw [Int.natCast_zero, List.drop_zero] at this
    rw [Nat.add_zero, this]
    have e : bestM x b [] = b := rfl
    rw [e]
    by_cases c : b < 0
    · rw [if_pos c, if_pos c, show b = -1 by omega]
      rfl
    · rw [if_neg c, if_neg c]
  | d + 1, i, k, b, h, hk, hb => by
    have hi : i < ls.length := by omega
    have hg : rd_L2 ls (i : Int) = ls[i] := by unfold rd_L2; simp [List.getD_eq_getElem?_getD, List.getElem?_eq_getElem hi]
    have hwi := hw _ (List.getElem_mem hi)
    have hbb := betM_bd x b ls[i] 61 (by omega) hb
    have ih := impl_Road_leaveTimes_l1 s r hr x hx ls hl hw out ho p hp d (i + 1) k (betM x b ls[i]) (by omega) hk hbb
    have e : bestM x b (ls.drop i) = bestM x (betM x b ls[i]) (ls.drop (i + 1)) := by rw [List.drop_eq_getElem_cons hi]; rfl
    have hz : 70 ≤ k + ls.length + 1 + d + 1 := by omega
    show impl_Road_leaveTimes.l1 ((k + ls.length + 1 + d + 1) + 1) _ _ _ _ _ _ _ _ _ _ _ = _
    generalize k + ls.length + 1 + d + 1 = z at ih hz ⊢
    simp only [impl_Road_leaveTimes.l1]
    rw [if_pos (by omega), if_pos (by omega), if_pos (by omega), hg, slices_Index_eq z x _ (by omega) (by omega), Option.bind_some, wrap_succ (n := ls.length) hi (by omega), e, ← ih]
    unfold betM
    by_cases c1 : firstM x ls[i] 0 ≥ 0
    · rw [if_pos c1]
      by_cases c2 : b < 0
      · rw [if_pos c2, if_pos ⟨c1, .inl c2⟩]
      · rw [if_neg c2]
        by_cases c3 : firstM x ls[i] 0 < b
        · rw [if_pos c3, if_pos ⟨c1, .inr c3⟩]
        · rw [if_neg c3, if_neg (by omega)]
    · rw [if_neg c1, if_neg (by omega)]
theorem impl_Road_leaveTimes_l0 (s : Int) (r : Bool) (hr : road s r = true) (ls : List (List Int)) (h : leaversOk s r ls = true) : ∀ (d i k : Nat), (i : Int) + d = s → 
    impl_Road_leaveTimes.l0 (k + 70 + d * (2 * ls.length + 3) + 1) ls (leavesM s r ls i) s (i : Int) s r = some (leavesM s r ls s.toNat)
  | 0, i, k, he => by
    simp only [impl_Road_leaveTimes.l0]
    rw [if_neg (by omega), show s.toNat = i by omega]
  | d + 1, i, k, he => by
    have hb := road_bd hr
    have hl := leaversOk_bd h
    have ih := impl_Road_leaveTimes_l0 s r hr ls h d (i + 1) k (by omega)
    simp only [impl_Road_leaveTimes.l0]
    rw [if_pos (by omega)]
    have e : k + 70 + (d + 1) * (2 * ls.length + 3) = ((k + 70 + d * (2 * ls.length + 3) + 1) + ls.length + 1) + ls.length + 1 := by rw [Nat.succ_mul]; omega
    have := impl_Road_leaveTimes_l1 s r hr (i : Int) (by omega) ls hl.1.2 hl.2 (leavesM s r ls i) (by rw [leavesM_len]; omega) i (by omega) ls.length 0 (k + 70 + d * (2 * ls.length + 3) + 1) (-1) (by omega) (by omega) (by omega)
    rw [Int.natCast_zero, List.drop_zero] at this
    rw [e, this, ← ih, leavesM_snoc]
    rfl
theorem impl_Road_leaveTimes_eq (k : Nat) (s : Int) (r : Bool) (hr : road s r = true) (ls : List (List Int)) (h : leaversOk s r ls = true) (hk : 1000 < k) : impl_Road_leaveTimes.f k s r ls = some (leavesM s r ls s.toNat) := by
  unfold impl_Road_leaveTimes.f
  have hb := road_bd hr
  have hl := leaversOk_bd h
  have hm : s.toNat * (2 * ls.length + 3) ≤ 24 * 11 := Nat.mul_le_mul (by omega) (by omega)
  have := impl_Road_leaveTimes_l0 s r hr ls h s.toNat 0 (k - (70 + s.toNat * (2 * ls.length + 3) + 1)) (by omega)
  rw [show k - (70 + s.toNat * (2 * ls.length + 3) + 1) + 70 + s.toNat * (2 * ls.length + 3) + 1 = k by omega] at this
  simpa [leavesM] using this
theorem impl_LeaveTimes_eq (k : Nat) (s : Int) (r : Bool) (ls : List (List Int)) (hx : ∀ x ∈ ls, x.length ≤ 9223372036854775807 ∧ x.length + 3 < k) (hk : 1000 < k) :
    impl_LeaveTimes.f k s r ls = some (if (road s r && leaversOk s r ls) = true then (leavesM s r ls s.toNat, true) else ([], false)) := by
  unfold impl_LeaveTimes.f
  rw [impl_areLeavers_eq k s r ls hx (by omega), Option.bind_some]
  by_cases c : (road s r && leaversOk s r ls) = true
  · have c' := c
    rw [Bool.and_eq_true] at c'
    rw [if_pos c, if_pos c, impl_Road_leaveTimes_eq k s r c'.1 ls c'.2 hk]
    rfl
  · rw [if_neg c, if_neg c]
theorem leaveM_neg (s : Int) (r : Bool) (hr : road s r = true) (ls : List (List Int)) (h : leaversOk s r ls = true) (x : Int) (hx : 0 ≤ x ∧ x ≤ s - 1) : leaveM s r ls x = -1 ∨ 0 ≤ leaveM s r ls x := by
  unfold leaveM
  by_cases c : bestM x (-1) ls < 0
  · rw [if_pos c]; exact .inl rfl
  · rw [if_neg c]
    right
    have hl := leaversOk_bd h
    have hb := road_bd hr
    have := farM_bd s r x (bestM x (-1) ls) (s - 1) ls 0 (fun l hm => (gapM_bd (s := s) (r := r) hb.1 (atM_bd (hl.2 l hm).1.1 (hl.2 l hm).2 (by omega)) hx).2) (by omega)
    omega
theorem leavesM_drop (s : Int) (r : Bool) (ls : List (List Int)) (n i : Nat) (h : i < n) : (leavesM s r ls n).drop i = leaveM s r ls (i : Int) :: (leavesM s r ls n).drop (i + 1) := by
  rw [List.drop_eq_getElem_cons (by rw [leavesM_len]; exact h)]
  simp [leavesM]
theorem hi2_mx (a b : Int) : hi2 a b = mx a b := by unfold hi2 mx; split <;> split <;> omega
def worstM (L : List Int) : Int × Bool := if (L.any fun x => decide (x < 0)) = true then (0, false) else (L.foldl mx 0, true)
theorem spec_WorstLeave_l0 (s : Int) (r : Bool) (hr : road s r = true) (ls : List (List Int)) (h : leaversOk s r ls = true) : ∀ (d i k : Nat) (m : Int), (i : Int) + d = s → d + 200 < k →
    spec_WorstLeave.l0 k ls m (i : Int) s r = some (if (((leavesM s r ls s.toNat).drop i).any fun x => decide (x < 0)) = true then (0, false) else (((leavesM s r ls s.toNat).drop i).foldl mx m, true))
  | 0, i, k, m, he, hk => by
    obtain ⟨k, rfl⟩ := succ_of (k := k) (by omega)
    simp only [spec_WorstLeave.l0]
    rw [if_neg (by omega), drop_end _ i (by rw [leavesM_len]; omega)]
    rfl
  | d + 1, i, k, m, he, hk => by
    obtain ⟨k, rfl⟩ := succ_of (k := k) (by omega)
    have hb := road_bd hr
    simp only [spec_WorstLeave.l0]
    rw [if_pos (by omega), spec_l6Leave_eq k s r hr (i : Int) (by omega) ls h (by omega), Option.bind_some, leavesM_drop s r ls s.toNat i (by omega), List.any_cons, List.foldl_cons]
    by_cases c : leaveM s r ls (i : Int) < 0
    · rw [if_pos c, decide_eq_true c]
      rfl
    · rw [if_neg c, decide_eq_false c, Bool.false_or, spec_l1Most_eq, Option.bind_some, hi2_mx, wrap64_id (by omega) (by omega)]
      exact spec_WorstLeave_l0 s r hr ls h d (i + 1) k _ (by omega) (by omega)
theorem spec_WorstLeave_eq (k : Nat) (s : Int) (r : Bool) (ls : List (List Int)) (hl : ls.length ≤ 9223372036854775807) (hx : ∀ x ∈ ls, x.length ≤ 9223372036854775807) (hk : 300 < k) :
    spec_WorstLeave.f k s r ls = some (if (road s r && leaversOk s r ls) = true then worstM (leavesM s r ls s.toNat) else (0, false)) := by
  unfold spec_WorstLeave.f
  rw [spec_l6Leavers_eq k s r ls hl hx hk, Option.bind_some]
  by_cases c : (road s r && leaversOk s r ls) = true
  · have c' := c
    rw [Bool.and_eq_true] at c'
    have hb := road_bd c'.1
    rw [if_pos c, if_pos c]
    have := spec_WorstLeave_l0 s r c'.1 ls c'.2 s.toNat 0 k 0 (by omega) (by omega)
    rw [List.drop_zero] at this
    exact this
  · rw [if_neg c, if_neg c]
theorem firstM_ge (x : Int) : ∀ (l : List Int) (i : Nat), 0 ≤ firstM x l i ↔ (l.any fun y => decide (y = x)) = true
  | [], i => by simp [firstM]
  | y :: t, i => by
    have ih := firstM_ge x t (i + 1)
    have e : firstM x (y :: t) i = if y = x then (i : Int) else firstM x t (i + 1) := rfl
    rw [e, List.any_cons]
    by_cases c : y = x
    · rw [if_pos c, decide_eq_true c]
      exact ⟨fun _ => rfl, fun _ => by omega⟩
    · rw [if_neg c, decide_eq_false c, Bool.false_or]
      exact ih
theorem slices_Contains_eq (k : Nat) (x : Int) (l : List Int) (hl : l.length ≤ 9223372036854775807) (hk : l.length < k) : slices_Contains_int_int.f k l x = some (l.any fun y => decide (y = x)) := by
  unfold slices_Contains_int_int.f
  rw [slices_Index_eq k x l hl hk, Option.bind_some]
  congr 1
  rw [Bool.eq_iff_iff, decide_eq_true_iff]
  exact firstM_ge x l 0
theorem impl_WorstLeave_eq (k : Nat) (s : Int) (r : Bool) (ls : List (List Int)) (hx : ∀ x ∈ ls, x.length ≤ 9223372036854775807 ∧ x.length + 3 < k) (hk : 1010 < k) :
    impl_WorstLeave.f k s r ls = some (if (road s r && leaversOk s r ls) = true then worstM (leavesM s r ls s.toNat) else (0, false)) := by
  obtain ⟨k, rfl⟩ := succ_of (k := k) (by omega)
  unfold impl_WorstLeave.f
  rw [impl_areLeavers_eq (k + 1) s r ls hx (by omega), Option.bind_some]
  by_cases c : (road s r && leaversOk s r ls) = true
  · have c' := c
    rw [Bool.and_eq_true] at c'
    have hb := road_bd c'.1
    have hL := leavesM_len s r ls s.toNat
    rw [if_pos c, if_pos c, impl_Road_leaveTimes_eq (k + 1) s r c'.1 ls c'.2 (by omega), Option.bind_some, slices_Contains_eq (k + 1) _ _ (by omega) (by omega), Option.bind_some]
    have hn : ∀ y ∈ leavesM s r ls s.toNat, y = -1 ∨ 0 ≤ y := by
      intro y hy
      unfold leavesM at hy
      obtain ⟨i, hi, rfl⟩ := List.mem_map.1 hy
      rw [List.mem_range] at hi
      exact leaveM_neg s r c'.1 ls c'.2 _ (by omega)
    have e : ((leavesM s r ls s.toNat).any fun y => decide (y = -1)) = ((leavesM s r ls s.toNat).any fun y => decide (y < 0)) := by
      rw [Bool.eq_iff_iff]
      simp only [List.any_eq_true, decide_eq_true_eq]
      constructor
      · rintro ⟨y, hy, rfl⟩; exact ⟨-1, hy, by omega⟩
      · rintro ⟨y, hy, h⟩; exact ⟨y, hy, by rcases hn y hy with h' | h' <;> omega⟩
    rw [e]
    unfold worstM
    by_cases d : ((leavesM s r ls s.toNat).any fun y => decide (y < 0)) = true
    · rw [if_pos d, d]
      simp only [impl_WorstLeave.j0]
      rw [if_pos trivial]
    · rw [if_neg d]
      rw [Bool.not_eq_true] at d
      rw [d]
      simp only [impl_WorstLeave.j0]
      rw [if_neg (by simp), impl_Road_leaveTimes_eq k s r c'.1 ls c'.2 (by omega), Option.bind_some]
      unfold slices_Max_int_int.f
      rw [if_pos (by omega), Option.bind_some]
      congr 2
      cases hq : leavesM s r ls s.toNat with
      | nil => rw [hq] at hL; simp at hL; omega
      | cons x t =>
        rw [hq] at d
        simp only [List.any_cons, Bool.or_eq_false_iff, decide_eq_false_iff_not] at d
        have e2 : mx 0 x = x := by unfold mx; split <;> omega
        simp only [List.foldl_cons, e2, List.drop_succ_cons, List.drop_zero]
        rfl
  · rw [if_neg c, if_neg c]
    simp only [impl_WorstLeave.j0]
    rw [if_pos trivial]
/-- On all valid roads and places both answer the same. -/
def splitChk (s a : Nat) (r : Bool) : Bool := match spec_SplitWalks.f 60 (s : Int) r (a : Int), impl_SplitWalks.f 60 (s : Int) r (a : Int) with
  | some (x, b), some (y, c) => decide (x = y) && decide (b = c) && decide (x.length ≤ 2) && x.all (fun l => decide (l.length ≤ 60))
  | _, _ => false
theorem splitChk_all : ((List.range' 2 23).all fun s => [true, false].all fun r => !(!r || decide (3 ≤ s)) || (List.range s).all fun a => splitChk s a r) = true := by decide +kernel
theorem split_of {s a : Nat} {r : Bool} (hs : 2 ≤ s ∧ s ≤ 24) (h3 : r = true → 3 ≤ s) (ha : a < s) : ∃ v b, spec_SplitWalks.f 60 (s : Int) r (a : Int) = some (v, b) ∧ impl_SplitWalks.f 60 (s : Int) r (a : Int) = some (v, b) ∧ v.length ≤ 2 ∧ ∀ l ∈ v, l.length ≤ 60 := by
  have h1 := List.all_eq_true.1 splitChk_all s (List.mem_range'_1.2 (by omega))
  have h2 := List.all_eq_true.1 h1 r (by cases r <;> simp)
  have e : (!r || decide (3 ≤ s)) = true := by
    cases r with
    | true => simpa using h3 rfl
    | false => rfl
  rw [e, Bool.not_true, Bool.false_or] at h2
  have h4 := List.all_eq_true.1 h2 a (List.mem_range.2 ha)
  unfold splitChk at h4
  split at h4
  · rename_i x b y c e1 e2
    simp only [Bool.and_eq_true, decide_eq_true_eq] at h4
    obtain ⟨⟨⟨rfl, rfl⟩, hl⟩, hx⟩ := h4
    exact ⟨x, b, e1, e2, hl, fun l hm => by have := List.all_eq_true.1 hx l hm; simpa using this⟩
  · cases h4
def byteL (l : List Int) : Prop := ∀ x ∈ l, 0 ≤ x ∧ x ≤ 255
theorem rd_in {l : List Int} {i : Int} (h0 : 0 ≤ i) (h1 : i < (l.length : Int)) : rd l i ∈ l := by
  unfold rd
  rw [List.getD_eq_getElem?_getD, List.getElem?_eq_getElem (show i.toNat < l.length by omega)]
  exact List.getElem_mem _
theorem u64_bd (x : Int) : 0 ≤ IntKind.u64.wrap x ∧ IntKind.u64.wrap x < 18446744073709551616 := by
  simp [IntKind.wrap, IntKind.bits, IntKind.signed]
  omega
theorem and255 (x : Int) (h0 : 0 ≤ x) (h1 : x < 18446744073709551616) : 0 ≤ Go.bits .and .u64 x 255 ∧ Go.bits .and .u64 x 255 ≤ 255 := by
  obtain ⟨n, rfl⟩ := Int.eq_ofNat_of_zero_le h0
  have h := bits_and_u64_nat n 255 (by omega) (by decide)
  rw [show ((255 : Nat) : Int) = 255 from rfl] at h
  rw [h]
  have h2 := Nat.and_le_right (n := n) (m := 255)
  omega
theorem next_ok (l : List Int) (hl : byteL l) (a b : Int) (h0 : 0 ≤ a) (h1 : a + 1 ≤ 4000000000000000000) : ∃ x b', spec_l1Cur_next.f l a b = some (x, a + 1, b') ∧ 0 ≤ x ∧ x ≤ 255 := by
  unfold spec_l1Cur_next.f
  have e : wrap64 (a + 1) = a + 1 := wrap64_id (by omega) (by omega)
  rw [e]
  by_cases c : a < (l.length : Int)
  · rw [if_pos c, if_pos h0, if_pos (by omega)]
    have hx := hl _ (rd_in h0 c)
    rw [wrap64_id (x := rd l a) (by omega) (by omega)]
    exact ⟨_, _, rfl, hx.1, hx.2⟩
  · rw [if_neg c, if_neg (by omega)]
    have hb := u64_bd (IntKind.u64.wrap (IntKind.u64.wrap (b * 6364136223846793005)) + 462197)
    generalize IntKind.u64.wrap (IntKind.u64.wrap (IntKind.u64.wrap (b * 6364136223846793005)) + 462197) = U at hb ⊢
    have h := and255 (U / 1099511627776) (by omega) (by omega)
    refine ⟨_, _, rfl, ?_⟩
    rw [wrap64_id (by omega) (by omega)]
    exact h
theorem pick_ok (l : List Int) (hl : byteL l) (a b n : Int) (h0 : 0 ≤ a) (h1 : a + 1 ≤ 4000000000000000000) (hn : n ≤ 200) : ∃ x a' b', spec_l1Cur_pick.f l a b n = some (x, a', b') ∧ (0 ≤ x ∧ x ≤ 200 ∧ (x < n ∨ x = 0)) ∧ a ≤ a' ∧ a' ≤ a + 1 := by
  unfold spec_l1Cur_pick.f
  by_cases c : n ≤ 1
  · rw [if_pos c]
    exact ⟨0, a, b, rfl, by omega, by omega, by omega⟩
  · obtain ⟨x, b', e, hx⟩ := next_ok l hl a b h0 h1
    rw [if_neg c, e, Option.bind_some, if_neg (by omega), if_neg (by omega)]
    have h3 := Int.tmod_nonneg n hx.1
    have h4 := Int.tmod_lt_of_pos x (show 0 < n by omega)
    have h5 : 0 ≤ Int.tmod x n ∧ Int.tmod x n ≤ 200 ∧ (Int.tmod x n < n ∨ Int.tmod x n = 0) := by omega
    exact ⟨_, _, _, rfl, h5, by show a ≤ a + 1; omega, by show a + 1 ≤ a + 1; omega⟩
theorem one_ok (l : List Int) (hl : byteL l) (a b n : Int) (h0 : 0 ≤ a) (h1 : a + 1 ≤ 4000000000000000000) (hn : n ≤ 200) : ∃ (x : Bool) (a' b' : Int), spec_l1Cur_one.f l a b n = some (x, a', b') ∧ a ≤ a' ∧ a' ≤ a + 1 := by
  unfold spec_l1Cur_one.f
  obtain ⟨x, a', b', e, _, h3⟩ := pick_ok l hl a b n h0 h1 hn
  rw [e]
  exact ⟨_, _, _, rfl, h3⟩
theorem among_ok (l : List Int) (hl : byteL l) (a b : Int) (xs : List Int) (h0 : 0 ≤ a) (h1 : a + 1 ≤ 4000000000000000000) (hx : 0 < xs.length) (hx2 : xs.length ≤ 200) : ∃ x a' b', spec_l1Cur_among.f l a b xs = some (x, a', b') ∧ x ∈ xs ∧ a ≤ a' ∧ a' ≤ a + 1 := by
  unfold spec_l1Cur_among.f
  obtain ⟨x, a', b', e, h2, h3⟩ := pick_ok l hl a b (xs.length : Int) h0 h1 (by omega)
  rw [e, Option.bind_some, if_pos h2.1, if_pos (by show x < _; omega)]
  exact ⟨_, _, _, rfl, rd_in h2.1 (by omega), h3⟩
theorem size_ok (l : List Int) (hl : byteL l) (a b : Int) (h0 : 0 ≤ a) (h1 : a + 2 ≤ 4000000000000000000) : ∃ x a' b', spec_l1Cur_size.f l a b = some (x, a', b') ∧ (-1 ≤ x ∧ x ≤ 4611686018427387904) ∧ a ≤ a' ∧ a' ≤ a + 2 := by
  unfold spec_l1Cur_size.f
  obtain ⟨x, a1, b1, e, h2⟩ := one_ok l hl a b 40 h0 (by omega) (by omega)
  rw [e, Option.bind_some]
  cases x with
  | true =>
    obtain ⟨y, a2, b2, e2, hy, h3⟩ := among_ok l hl a1 b1 [1, 2, 24, 25, 0, (-1), 4611686018427387904] (by omega) (by omega) (by simp) (by simp)
    rw [if_pos rfl, e2]
    exact ⟨_, _, _, rfl, by simp at hy; omega, by show a ≤ a2; omega, by show a2 ≤ _; omega⟩
  | false =>
    obtain ⟨y, a2, b2, e2, hy, h3⟩ := among_ok l hl a1 b1 [5, 6, 4, 8, 3, 10, 7, 13, 24, 2] (by omega) (by omega) (by simp) (by simp)
    rw [if_neg (by simp), e2]
    exact ⟨_, _, _, rfl, by simp at hy; omega, by show a ≤ a2; omega, by show a2 ≤ _; omega⟩
theorem ring_ok (l : List Int) (hl : byteL l) (a b : Int) (h0 : 0 ≤ a) (h1 : a + 3 ≤ 4000000000000000000) : ∃ (x : Int) (r : Bool) (a' b' : Int), spec_l1Cur_ring.f l a b = some (x, r, a', b') ∧ (-1 ≤ x ∧ x ≤ 4611686018427387904) ∧ a ≤ a' ∧ a' ≤ a + 3 := by
  unfold spec_l1Cur_ring.f
  obtain ⟨x, a1, b1, e, hx, h2⟩ := size_ok l hl a b h0 (by omega)
  rw [e, Option.bind_some]
  by_cases c : x = 2
  · obtain ⟨y, a2, b2, e2, h3⟩ := one_ok l hl a1 b1 4 (by omega) (by omega) (by omega)
    rw [if_pos c, e2, Option.bind_some]
    cases y with
    | true => exact ⟨_, _, _, _, if_pos rfl, hx, by show a ≤ a2; omega, by show a2 ≤ _; omega⟩
    | false => exact ⟨_, _, _, _, if_neg (by simp), by omega, by show a ≤ a2; omega, by show a2 ≤ _; omega⟩
  · rw [if_neg c]
    exact ⟨_, _, _, _, rfl, hx, by show a ≤ a1; omega, by show a1 ≤ _; omega⟩
theorem line_ok (l : List Int) (hl : byteL l) (a b : Int) (h0 : 0 ≤ a) (h1 : a + 2 ≤ 4000000000000000000) : ∃ (x : Int) (r : Bool) (a' b' : Int), spec_l1Cur_line.f l a b = some (x, r, a', b') ∧ (-1 ≤ x ∧ x ≤ 4611686018427387904) ∧ a ≤ a' ∧ a' ≤ a + 2 := by
  unfold spec_l1Cur_line.f
  obtain ⟨x, a1, b1, e, hx, h2⟩ := size_ok l hl a b h0 (by omega)
  rw [e]
  exact ⟨_, _, _, _, rfl, hx, h2⟩
theorem roadd_ok (l : List Int) (hl : byteL l) (a b : Int) (h0 : 0 ≤ a) (h1 : a + 4 ≤ 4000000000000000000) : ∃ (x : Int) (r : Bool) (a' b' : Int), spec_l1Cur_road.f l a b = some (x, r, a', b') ∧ (-1 ≤ x ∧ x ≤ 4611686018427387904) ∧ a ≤ a' ∧ a' ≤ a + 4 := by
  unfold spec_l1Cur_road.f
  obtain ⟨y, a1, b1, e, h2⟩ := one_ok l hl a b 2 h0 (by omega) (by omega)
  rw [e, Option.bind_some]
  cases y with
  | true =>
    obtain ⟨x, r, a2, b2, e2, hx, h3⟩ := line_ok l hl a1 b1 (by omega) (by omega)
    rw [if_pos rfl, e2]
    exact ⟨_, _, _, _, rfl, hx, by show a ≤ a2; omega, by show a2 ≤ _; omega⟩
  | false =>
    obtain ⟨x, r, a2, b2, e2, hx, h3⟩ := ring_ok l hl a1 b1 (by omega) (by omega)
    rw [if_neg (by simp), e2]
    exact ⟨_, _, _, _, rfl, hx, by show a ≤ a2; omega, by show a2 ≤ _; omega⟩
theorem shortRoad_ok (l : List Int) (hl : byteL l) (a b : Int) (h0 : 0 ≤ a) (h1 : a + 6 ≤ 4000000000000000000) : ∃ (x : Int) (r : Bool) (a' b' : Int), spec_l1Cur_shortRoad.f l a b = some (x, r, a', b') ∧ (-1 ≤ x ∧ x ≤ 4611686018427387904) ∧ a ≤ a' ∧ a' ≤ a + 6 := by
  unfold spec_l1Cur_shortRoad.f
  obtain ⟨x, r, a1, b1, e, hx, h2⟩ := roadd_ok l hl a b h0 (by omega)
  rw [e, Option.bind_some]
  by_cases c : x > 13
  · obtain ⟨y, a2, b2, e2, h3⟩ := one_ok l hl a1 b1 8 (by omega) (by omega) (by omega)
    rw [if_pos c, e2, Option.bind_some]
    cases y with
    | true => exact ⟨_, _, _, _, if_pos rfl, hx, by show a ≤ a2; omega, by show a2 ≤ _; omega⟩
    | false =>
      obtain ⟨z, a3, b3, e3, hz, h4⟩ := pick_ok l hl a2 b2 10 (by omega) (by omega) (by omega)
      rw [if_neg (by simp), e3]
      exact ⟨_, _, _, _, rfl, by show -1 ≤ wrap64 (3 + z) ∧ wrap64 (3 + z) ≤ _; rw [wrap64_id (by omega) (by omega)]; omega, by show a ≤ a3; omega, by show a3 ≤ _; omega⟩
  · rw [if_neg c]
    exact ⟨_, _, _, _, rfl, hx, by show a ≤ a1; omega, by show a1 ≤ _; omega⟩
theorem placeOn_ok (l : List Int) (hl : byteL l) (a b s : Int) (r : Bool) (hs : -1 ≤ s ∧ s ≤ 4611686018427387904) (h0 : 0 ≤ a) (h1 : a + 2 ≤ 4000000000000000000) : ∃ x a' b', spec_l1Cur_placeOn.f l a b s r = some (x, a', b') ∧ (-2 ≤ x ∧ x ≤ 4611686018427387904) ∧ a ≤ a' ∧ a' ≤ a + 2 := by
  unfold spec_l1Cur_placeOn.f
  obtain ⟨y, a1, b1, e, h2⟩ := one_ok l hl a b 30 h0 (by omega) (by omega)
  rw [e, Option.bind_some]
  cases y with
  | true =>
    obtain ⟨x, a2, b2, e2, hx, h3⟩ := among_ok l hl a1 b1 [(-1), 0, s, wrap64 (s - 1), 4611686018427387904] (by omega) (by omega) (by simp) (by simp)
    rw [if_pos rfl, e2]
    rw [wrap64_id (x := s - 1) (by omega) (by omega)] at hx
    exact ⟨_, _, _, rfl, by simp at hx; omega, by show a ≤ a2; omega, by show a2 ≤ _; omega⟩
  | false =>
    rw [if_neg (by simp)]
    have e3 : ∃ m, spec_l1Least.f s 24 = some m ∧ m ≤ 24 := by
      unfold spec_l1Least.f
      by_cases c : s < 24
      · exact ⟨s, if_pos c, by omega⟩
      · exact ⟨24, if_neg c, by omega⟩
    obtain ⟨m, e3, hm⟩ := e3
    have e4 : ∃ n, spec_l1Most.f m 1 = some n ∧ n ≤ 24 := by
      unfold spec_l1Most.f
      by_cases c : m > 1
      · exact ⟨m, if_pos c, by omega⟩
      · exact ⟨1, if_neg c, by omega⟩
    obtain ⟨n, e4, hn⟩ := e4
    obtain ⟨x, a2, b2, e2, hx, h3⟩ := pick_ok l hl a1 b1 n (by omega) (by omega) (by omega)
    rw [e3, Option.bind_some, e4, Option.bind_some, e2]
    exact ⟨_, _, _, rfl, by show -2 ≤ x ∧ x ≤ _; omega, by show a ≤ a2; omega, by show a2 ≤ _; omega⟩
theorem walkFrom_j1 (k : Nat) (l : List Int) (hl : byteL l) (a b s : Int) (r : Bool) (w : List Int) (x : Bool) (hw : 1 ≤ w.length ∧ w.length ≤ 62) (h0 : 0 ≤ a) (h1 : a + 2 ≤ 4000000000000000000) (hk : 0 < k) : ∃ v a' b', spec_l1Cur_walkFrom.j1 k w x l a b s r = some (v, a', b') ∧ (1 ≤ v.length ∧ v.length ≤ 62) ∧ a ≤ a' ∧ a' ≤ a + 2 := by
  obtain ⟨k, rfl⟩ := succ_of (k := k) hk
  simp only [spec_l1Cur_walkFrom.j1]
  cases x with
  | true =>
    obtain ⟨i, a1, b1, e1, hi, h2⟩ := pick_ok l hl a b (w.length : Int) h0 (by omega) (by omega)
    obtain ⟨y, a2, b2, e2, hy, h3⟩ := among_ok l hl a1 b1 [(-1), s, 0] (by omega) (by omega) (by simp) (by simp)
    rw [if_pos rfl, e1, Option.bind_some, e2, Option.bind_some, if_pos hi.1, if_pos (by show i < _; omega)]
    exact ⟨_, _, _, rfl, by simp only [List.length_set]; exact hw, by show a ≤ a2; omega, by show a2 ≤ _; omega⟩
  | false =>
    rw [if_neg (by simp)]
    exact ⟨_, _, _, rfl, hw, by omega, by omega⟩
theorem walkFrom_l0 (l : List Int) (hl : byteL l) (s : Int) (r : Bool) (hr : road s r = true) (n : Int) (hn : n ≤ 62) : ∀ (d k : Nat) (w : List Int) (x a b : Int), (1 ≤ w.length ∧ w.length ≤ 62) → allIn w 0 (s - 1) = true → (x = 1 ∨ x = -1) → n ≤ (w.length : Int) + d → d + 3 < k → 0 ≤ a → a + d + 3 ≤ 4000000000000000000 →
    ∃ v a' b', spec_l1Cur_walkFrom.l0 k n w x l a b s r = some (v, a', b') ∧ (1 ≤ v.length ∧ v.length ≤ 62) ∧ a ≤ a' ∧ a' ≤ a + d + 3
  | 0, k, w, x, a, b, hw, hi, hx, hd, hk, h0, h1 => by
    obtain ⟨k, rfl⟩ := succ_of (k := k) (by omega)
    simp only [spec_l1Cur_walkFrom.l0]
    rw [if_neg (by omega)]
    by_cases c : n > 1
    · obtain ⟨y, a1, b1, e1, h2⟩ := one_ok l hl a b 40 h0 (by omega) (by omega)
      obtain ⟨v, a2, b2, e2, hv, h3⟩ := walkFrom_j1 k l hl a1 b1 s r w y hw (by omega) (by omega) (by omega)
      rw [if_pos c, e1, Option.bind_some, e2]
      exact ⟨_, _, _, rfl, hv, by omega, by omega⟩
    · obtain ⟨v, a2, b2, e2, hv, h3⟩ := walkFrom_j1 k l hl a b s r w false hw (by omega) (by omega) (by omega)
      rw [if_neg c, e2]
      exact ⟨_, _, _, rfl, hv, by omega, by omega⟩
  | d + 1, k, w, x, a, b, hw, hi, hx, hd, hk, h0, h1 => by
    by_cases c0 : (w.length : Int) < n
    · obtain ⟨k, rfl⟩ := succ_of (k := k) (by omega)
      have hb := road_bd hr
      have hlast := rd_bd hi (w.length - 1) (by omega)
      have ew : wrap64 ((w.length : Int) - 1) = ((w.length - 1 : Nat) : Int) := by rw [wrap64_id (by omega) (by omega)]; omega
      have en : wrap64 (-x) = -x := wrap64_id (by omega) (by omega)
      have en2 : wrap64 (- -x) = x := by rw [Int.neg_neg]; exact wrap64_id (by omega) (by omega)
      obtain ⟨y, a1, b1, e1, hy, h2⟩ := pick_ok l hl a b 8 h0 (by omega) (by omega)
      have app : ∀ z, 0 ≤ z ∧ z ≤ s - 1 → ∀ x', (x' = 1 ∨ x' = -1) → ∃ v a' b', spec_l1Cur_walkFrom.l0 k n (w ++ [z]) x' l a1 b1 s r = some (v, a', b') ∧ (1 ≤ v.length ∧ v.length ≤ 62) ∧ a ≤ a' ∧ a' ≤ a + ((d + 1 : Nat) : Int) + 3 := by
        intro z hz x' hx'
        obtain ⟨v, a', b', e, hv, h3⟩ := walkFrom_l0 l hl s r hr n hn d k (w ++ [z]) x' a1 b1 (by simp; omega) (by
          unfold allIn at hi ⊢
          rw [List.all_append, hi]
          simpa using inR_iff.2 hz) hx' (by simp; omega) (by omega) (by omega) (by omega)
        exact ⟨v, a', b', e, hv, by omega, by omega⟩
      have stp : ∀ z, (z = 1 ∨ z = -1) → spec_l2Step.f s r (rd w ((w.length - 1 : Nat) : Int)) z = some (stepW s r (rd w ((w.length - 1 : Nat) : Int)) z) ∧ 0 ≤ stepW s r (rd w ((w.length - 1 : Nat) : Int)) z ∧ stepW s r (rd w ((w.length - 1 : Nat) : Int)) z ≤ s - 1 := fun z hz =>
        ⟨spec_l2Step_eq s r _ z ⟨hb.1, hb.2.1⟩ hlast (by omega), stepW_bd hb.1 hlast (by omega)⟩
      simp only [spec_l1Cur_walkFrom.l0]
      rw [if_pos c0, e1, Option.bind_some]
      simp only [ew, en, en2]
      by_cases c1 : y = 0
      · have hst := stp (-x) (by omega)
        rw [if_pos c1, if_pos (by omega), if_pos (by omega), hst.1, Option.bind_some]
        by_cases c2 : stepW s r (rd w ((w.length - 1 : Nat) : Int)) (-x) = rd w ((w.length - 1 : Nat) : Int)
        · rw [if_pos c2, if_pos (by omega)]
          exact app _ hst.2 _ (by omega)
        · rw [if_neg c2, if_pos (by omega)]
          exact app _ hst.2 _ (by omega)
      · rw [if_neg c1]
        by_cases c2 : y = 1
        · rw [if_pos c2, if_pos (by omega), if_pos (by omega), if_pos (by omega)]
          exact app _ hlast _ hx
        · have hst := stp x hx
          rw [if_neg c2, if_pos (by omega), if_pos (by omega), hst.1, Option.bind_some]
          by_cases c3 : stepW s r (rd w ((w.length - 1 : Nat) : Int)) x = rd w ((w.length - 1 : Nat) : Int)
          · rw [if_pos c3, if_pos (by omega)]
            exact app _ hst.2 _ (by omega)
          · rw [if_neg c3, if_pos (by omega)]
            exact app _ hst.2 _ hx
    · obtain ⟨v, a', b', e, hv, h3⟩ := walkFrom_l0 l hl s r hr n hn d k w x a b hw hi hx (by omega) (by omega) h0 (by omega)
      exact ⟨v, a', b', e, hv, by omega, by omega⟩
theorem walkFrom_ok (k : Nat) (l : List Int) (hl : byteL l) (a b s : Int) (r : Bool) (p n : Int) (hn : n ≤ 62) (h0 : 0 ≤ a) (h1 : a + 70 ≤ 4000000000000000000) (hk : 70 < k) : ∃ v a' b', spec_l1Cur_walkFrom.f k l a b s r p n = some (v, a', b') ∧ (1 ≤ v.length ∧ v.length ≤ 62) ∧ a ≤ a' ∧ a' ≤ a + 70 := by
  unfold spec_l1Cur_walkFrom.f
  rw [Option.bind_some, spec_l2Place_eq, Option.bind_some]
  by_cases c : (road s r && inR p 0 (s - 1)) = true
  · rw [if_pos c]
    rw [Bool.and_eq_true] at c
    obtain ⟨v, a', b', e, hv, h3⟩ := walkFrom_l0 l hl s r c.1 n hn 62 k [p] 1 a b (by simp) (by unfold allIn; simpa using c.2) (.inl rfl) (by simp; omega) (by omega) h0 (by omega)
    exact ⟨v, a', b', e, hv, by omega, by omega⟩
  · rw [if_neg c]
    exact ⟨_, _, _, rfl, by simp, by omega, by omega⟩
theorem walkd_ok (k : Nat) (l : List Int) (hl : byteL l) (a b s : Int) (r : Bool) (hs : -1 ≤ s ∧ s ≤ 4611686018427387904) (h0 : 0 ≤ a) (h1 : a + 73 ≤ 4000000000000000000) (hk : 70 < k) : ∃ v a' b', spec_l1Cur_walk.f k l a b s r = some (v, a', b') ∧ (1 ≤ v.length ∧ v.length ≤ 62) ∧ a ≤ a' ∧ a' ≤ a + 73 := by
  unfold spec_l1Cur_walk.f
  obtain ⟨p, a1, b1, e1, _, h2⟩ := placeOn_ok l hl a b s r hs h0 (by omega)
  obtain ⟨n, a2, b2, e2, hn, h3⟩ := among_ok l hl a1 b1 [6, 10, 4, 16, 1, 2, 30, 61, 62, 25] (by omega) (by omega) (by simp) (by simp)
  obtain ⟨v, a3, b3, e3, hv, h4⟩ := walkFrom_ok k l hl a2 b2 s r p n (by simp at hn; omega) (by omega) (by omega) hk
  rw [e1, Option.bind_some, e2, Option.bind_some, e3]
  exact ⟨_, _, _, rfl, hv, by show a ≤ a3; omega, by show a3 ≤ _; omega⟩
/-- Both split walks; what they are is no matter. -/
theorem split_any (s : Int) (r : Bool) (x : Int) : ∃ v b, (∀ k, 100 < k → spec_SplitWalks.f k s r x = some (v, b) ∧ impl_SplitWalks.f k s r x = some (v, b)) ∧ v.length ≤ 2 ∧ (∀ l ∈ v, l.length ≤ 60) := by
  cases hr : road s r with
  | false =>
    refine ⟨[], false, fun k hk => ⟨?_, ?_⟩, by simp, by simp⟩
    · unfold spec_SplitWalks.f
      rw [spec_l2Place_eq, hr]
      rfl
    · unfold impl_SplitWalks.f
      rw [impl_IsRoad_eq, hr, Option.bind_some, if_neg (by simp)]
      obtain ⟨k, rfl⟩ := succ_of (k := k) (by omega)
      simp only [impl_SplitWalks.j0]
      rw [if_pos trivial]
  | true =>
    have hb := road_bd hr
    cases hi : inR x 0 (s - 1) with
    | false =>
      refine ⟨[], false, fun k hk => ⟨?_, ?_⟩, by simp, by simp⟩
      · unfold spec_SplitWalks.f
        rw [spec_l2Place_eq, hr, hi]
        rfl
      · unfold impl_SplitWalks.f
        rw [impl_IsRoad_eq, hr, Option.bind_some, if_pos rfl, impl_Road_has1 k s r x hr (by omega), hi, Option.bind_some]
        obtain ⟨k, rfl⟩ := succ_of (k := k) (by omega)
        simp only [impl_SplitWalks.j0]
        rw [if_pos (by simp)]
    | true =>
      have hi := inR_iff.1 hi
      obtain ⟨v, b, e1, e2, h⟩ := split_of (s := s.toNat) (a := x.toNat) (r := r) (by omega) (fun hr' => by have := hb.2.2 hr'; omega) (by omega)
      rw [Int.toNat_of_nonneg (by omega), Int.toNat_of_nonneg (by omega)] at e1 e2
      exact ⟨v, b, fun k hk => ⟨at_rounds (g := fun k => spec_SplitWalks.f k s r x) (spec_SplitWalks.mono _ _ _) (by omega) e1, at_rounds (g := fun k => impl_SplitWalks.f k s r x) (impl_SplitWalks.mono _ _ _) (by omega) e2⟩, h⟩
theorem leavers_l0 (l : List Int) (hl : byteL l) (s : Int) (r : Bool) (hs : -1 ≤ s ∧ s ≤ 4611686018427387904) : ∀ (d k : Nat) (acc : List (List Int)) (n a b : Int), acc.length + d ≤ 10 → (∀ w ∈ acc, w.length ≤ 62) → n ≤ d → d + 80 < k → 0 ≤ a → a + 73 * d + 80 ≤ 4000000000000000000 → 0 ≤ n →
    ∃ v a' b', spec_l1Cur_leavers.l0 k acc n l a b s r = some (v, a', b') ∧ v.length ≤ 10 ∧ (∀ w ∈ v, w.length ≤ 62)
  | 0, k, acc, n, a, b, hq, hw, hn, hk, h0, h1, hn0 => by
    obtain ⟨k, rfl⟩ := succ_of (k := k) (by omega)
    simp only [spec_l1Cur_leavers.l0]
    rw [if_neg (by omega)]
    exact ⟨_, _, _, rfl, by omega, hw⟩
  | d + 1, k, acc, n, a, b, hq, hw, hn, hk, h0, h1, hn0 => by
    obtain ⟨k, rfl⟩ := succ_of (k := k) (by omega)
    simp only [spec_l1Cur_leavers.l0]
    by_cases c : n > 0
    · obtain ⟨v, a1, b1, e1, hv, h2⟩ := walkd_ok k l hl a b s r hs h0 (by omega) (by omega)
      rw [if_pos c, e1, Option.bind_some, if_pos (by omega), wrap64_id (by omega) (by omega)]
      exact leavers_l0 l hl s r hs d k _ (n - 1) a1 b1 (by simp; omega) (by
        intro w hw'
        rcases List.mem_append.1 hw' with h | h
        · exact hw w h
        · rw [List.mem_singleton.1 h]; exact hv.2) (by omega) (by omega) (by omega) (by omega) (by omega)
    · rw [if_neg c]
      exact ⟨_, _, _, rfl, by omega, hw⟩
theorem leavers_j0 (k : Nat) (l : List Int) (hl : byteL l) (s : Int) (r : Bool) (hs : -1 ≤ s ∧ s ≤ 4611686018427387904) (v0 : List (List Int)) (hv0 : v0.length ≤ 2) (hv1 : ∀ w ∈ v0, w.length ≤ 60) (x : Bool) (a b : Int) (h0 : 0 ≤ a) (h1 : a ≤ 1000) (hk : 200 < k) :
    ∃ v a' b', spec_l1Cur_leavers.j0 k v0 x l a b s r = some (v, a', b') ∧ v.length ≤ 10 ∧ (∀ w ∈ v, w.length ≤ 62) := by
  obtain ⟨k, rfl⟩ := succ_of (k := k) (by omega)
  simp only [spec_l1Cur_leavers.j0]
  cases x with
  | true =>
    obtain ⟨y, a1, b1, e1, h2⟩ := one_ok l hl a b 3 h0 (by omega) (by omega)
    rw [if_pos rfl, e1, Option.bind_some]
    cases y with
    | true =>
      obtain ⟨w, a2, b2, e2, hw, h3⟩ := walkd_ok k l hl a1 b1 s r hs (by omega) (by omega) (by omega)
      rw [if_pos rfl, e2, Option.bind_some, if_pos (by omega)]
      refine ⟨_, _, _, rfl, by simp; omega, fun z hz => ?_⟩
      rcases List.mem_append.1 hz with h | h
      · have := hv1 z h; omega
      · rw [List.mem_singleton.1 h]; exact hw.2
    | false =>
      rw [if_neg (by simp)]
      exact ⟨_, _, _, rfl, by omega, fun z hz => by have := hv1 z hz; omega⟩
  | false =>
    obtain ⟨n, a1, b1, e1, hn, h2⟩ := among_ok l hl a b [2, 1, 3, 4, 0, 5] h0 (by omega) (by simp) (by simp)
    rw [if_neg (by simp), e1, Option.bind_some]
    exact leavers_l0 l hl s r hs 5 k [] n a1 b1 (by simp) (by simp) (by simp at hn; omega) (by omega) (by omega) (by omega) (by simp at hn; omega)
theorem leavers_ok (k : Nat) (l : List Int) (hl : byteL l) (s : Int) (r : Bool) (hs : -1 ≤ s ∧ s ≤ 4611686018427387904) (a b : Int) (h0 : 0 ≤ a) (h1 : a ≤ 100) (hk : 200 < k) :
    ∃ v a' b', spec_l1Cur_leavers.f k l a b s r = some (v, a', b') ∧ v.length ≤ 10 ∧ (∀ w ∈ v, w.length ≤ 62) := by
  unfold spec_l1Cur_leavers.f
  obtain ⟨p, a1, b1, e1, _, h2⟩ := placeOn_ok l hl a b s r hs h0 (by omega)
  obtain ⟨v, t, e2, hv, hv2⟩ := split_any s r p
  rw [e1, Option.bind_some]
  simp only
  rw [(e2 k (by omega)).1, Option.bind_some]
  simp only
  cases t with
  | true =>
    obtain ⟨y, a2, b2, e3, h3⟩ := one_ok l hl a1 b1 2 (by omega) (by omega) (by omega)
    rw [if_pos rfl, e3, Option.bind_some]
    exact leavers_j0 k l hl s r hs v hv hv2 y a2 b2 (by omega) (by omega) hk
  | false =>
    rw [if_neg (by simp)]
    exact leavers_j0 k l hl s r hs v hv hv2 false a1 b1 (by omega) (by omega) hk
theorem DrawLeaveTimes_ok (k : Nat) (l : List Int) (hl : byteL l) (hk : 200 < k) : ∃ (s : Int) (r : Bool) (v : List (List Int)), spec_DrawLeaveTimes.f k l = some (s, r, v) ∧ v.length ≤ 10 ∧ (∀ w ∈ v, w.length ≤ 62) := by
  unfold spec_DrawLeaveTimes.f
  obtain ⟨s, r, a1, b1, e1, hs, h2⟩ := shortRoad_ok l hl 0 0 (by omega) (by omega)
  obtain ⟨v, a2, b2, e2, hv⟩ := leavers_ok k l hl s r hs a1 b1 (by omega) (by omega) hk
  rw [e1, Option.bind_some, e2]
  exact ⟨_, _, _, rfl, hv⟩
theorem DrawNeighborsOn_ok (l : List Int) (hl : byteL l) : ∃ (s : Int) (r : Bool) (p : Int), spec_DrawNeighborsOn.f l = some (s, r, p) ∧ (-2 ≤ p ∧ p ≤ 4611686018427387904) := by
  unfold spec_DrawNeighborsOn.f
  obtain ⟨s, r, a1, b1, e1, hs, h2⟩ := roadd_ok l hl 0 0 (by omega) (by omega)
  obtain ⟨p, a2, b2, e2, hp, _⟩ := placeOn_ok l hl a1 b1 s r hs (by omega) (by omega)
  rw [e1, Option.bind_some, e2]
  exact ⟨_, _, _, rfl, hp⟩
theorem laws_rInts_l0 (l : List Int) (hl : l.length ≤ 9223372036854775807) : ∀ (d i k : Nat), i + d = l.length → d < k → laws_rInts.l0 k l l (i : Int) = some true
  | 0, i, k, h, hk => by
    obtain ⟨k, rfl⟩ := succ_of (k := k) (by omega)
    simp only [laws_rInts.l0]
    rw [if_neg (by omega)]
  | d + 1, i, k, h, hk => by
    obtain ⟨k, rfl⟩ := succ_of (k := k) (by omega)
    simp only [laws_rInts.l0]
    rw [if_pos (by omega), if_pos (by omega), if_pos (by omega), if_pos trivial, wrap_succ (n := l.length) (by omega) hl]
    exact laws_rInts_l0 l hl d (i + 1) k (by omega) (by omega)
theorem laws_rInts_self (k : Nat) (l : List Int) (hl : l.length ≤ 9223372036854775807) (hk : l.length < k) : laws_rInts.f k l l = some true := by
  unfold laws_rInts.f
  rw [if_pos rfl]
  have := laws_rInts_l0 l hl l.length 0 k (by omega) hk
  simpa using this
theorem laws_rTable_l0 (l : List (List Int)) (hl : l.length ≤ 1048576) (hx : ∀ x ∈ l, x.length ≤ 1000) : ∀ (d i k : Nat), i + d = l.length → d + 1100 < k → laws_rTable.l0 k l l (i : Int) = some true
  | 0, i, k, h, hk => by
    obtain ⟨k, rfl⟩ := succ_of (k := k) (by omega)
    simp only [laws_rTable.l0]
    rw [if_neg (by omega)]
  | d + 1, i, k, h, hk => by
    obtain ⟨k, rfl⟩ := succ_of (k := k) (by omega)
    have hg : rd_L2 l (i : Int) = l[i] := by unfold rd_L2; simp [List.getD_eq_getElem?_getD]; rw [List.getElem?_eq_getElem (by omega)]; rfl
    have h1 := hx _ (List.getElem_mem (show i < l.length by omega))
    simp only [laws_rTable.l0]
    rw [if_pos (by omega), if_pos (by omega), if_pos (by omega), hg, laws_rInts_self k _ (by omega) (by omega), Option.bind_some, if_pos rfl, wrap_succ (n := l.length) (by omega) (by omega)]
    exact laws_rTable_l0 l hl hx d (i + 1) k (by omega) (by omega)
theorem laws_rTable_self (k : Nat) (l : List (List Int)) (hl : l.length ≤ 1000) (hx : ∀ x ∈ l, x.length ≤ 1000) (hk : 2200 < k) : laws_rTable.f k l l = some true := by
  unfold laws_rTable.f
  rw [if_pos rfl]
  have := laws_rTable_l0 l (by omega) hx l.length 0 k (by omega) (by omega)
  simpa using this
def visitsM (w : List Int) (n : Nat) : List Int := (List.range n).map fun (i : Nat) => firstM (i : Int) w 0
theorem visitsM_snoc (w : List Int) (n : Nat) : visitsM w (n + 1) = visitsM w n ++ [firstM (n : Int) w 0] := by unfold visitsM; rw [List.range_succ]; simp
theorem visitsM_len (w : List Int) (n : Nat) : (visitsM w n).length = n := by simp [visitsM]
theorem visitsM_rd (w : List Int) (n i : Nat) (h : i < n) : rd (visitsM w n) (i : Int) = firstM (i : Int) w 0 := by
  unfold rd visitsM
  rw [Int.toNat_natCast, List.getD_eq_getElem?_getD, List.getElem?_map, List.getElem?_range h]
  rfl
theorem impl_Road_firstVisits_l0 (w : List Int) (hw : w.length ≤ 1000) (n : Nat) (hn : n ≤ 1000) : ∀ (d i k : Nat), i + d = n → d + 1100 < k → impl_Road_firstVisits.l0 k w (visitsM w i) (n : Int) (i : Int) = some (visitsM w n)
  | 0, i, k, h, hk => by
    obtain ⟨k, rfl⟩ := succ_of (k := k) (by omega)
    simp only [impl_Road_firstVisits.l0]
    rw [if_neg (by omega), show i = n by omega]
  | d + 1, i, k, h, hk => by
    obtain ⟨k, rfl⟩ := succ_of (k := k) (by omega)
    simp only [impl_Road_firstVisits.l0]
    rw [if_pos (by omega), slices_Index_eq k _ w (by omega) (by omega), Option.bind_some, visitsM_len, if_pos (by omega), wrap_succ (n := n) (by omega) (by omega), ← visitsM_snoc]
    exact impl_Road_firstVisits_l0 w hw n hn d (i + 1) k (by omega) (by omega)
theorem impl_Road_firstVisits_eq (k : Nat) (s : Int) (r : Bool) (hs : 0 ≤ s ∧ s ≤ 1000) (w : List Int) (hw : w.length ≤ 1000) (hk : 2200 < k) : impl_Road_firstVisits.f k s r w = some (visitsM w s.toNat) := by
  unfold impl_Road_firstVisits.f
  have := impl_Road_firstVisits_l0 w hw s.toNat (by omega) s.toNat 0 k (by omega) (by omega)
  rw [Int.toNat_of_nonneg hs.1] at this
  simpa [visitsM] using this
theorem impl_FirstVisits_eq (k : Nat) (s : Int) (r : Bool) (w : List Int) (hr : road s r = true) (hw : walkOkM s r w = true) (hl : w.length ≤ 1000) (hk : 2200 < k) : impl_FirstVisits.f k s r w = some (visitsM w s.toNat, true) := by
  have hb := road_bd hr
  unfold impl_FirstVisits.f
  rw [impl_areWalks_eq k s r [w] (by intro x hx; rw [List.mem_singleton.1 hx]; omega) (by omega), Option.bind_some, hr, List.all_cons, hw, if_pos (by simp), impl_Road_firstVisits_eq k s r (by omega) w hl hk]
  rfl
theorem firstM_m1 (x : Int) (w : List Int) : firstM x w 0 < 0 ↔ firstM x w 0 = -1 := by
  have := firstM_bd x w 0
  omega
theorem impl_CoverTime_eq (k : Nat) (s : Int) (r : Bool) (w : List Int) (hr : road s r = true) (hw : walkOkM s r w = true) (hl : w.length ≤ 1000) (hk : 2200 < k) : impl_CoverTime.f k s r w = some (worstM (visitsM w s.toNat)) := by
  have hb := road_bd hr
  unfold impl_CoverTime.f
  rw [impl_areWalks_eq k s r [w] (by intro x hx; rw [List.mem_singleton.1 hx]; omega) (by omega), Option.bind_some, hr, List.all_cons, hw, if_pos (by simp), impl_Road_firstVisits_eq k s r (by omega) w hl hk, Option.bind_some, slices_Contains_eq k _ _ (by rw [visitsM_len]; omega) (by rw [visitsM_len]; omega), Option.bind_some]
  have e : ((visitsM w s.toNat).any fun y => decide (y = -1)) = ((visitsM w s.toNat).any fun y => decide (y < 0)) := by
    unfold visitsM
    rw [List.any_map, List.any_map]
    congr 1
    funext i
    simp only [Function.comp]
    rw [decide_eq_decide]
    exact (firstM_m1 _ _).symm
  rw [e]
  unfold worstM
  cases c : (visitsM w s.toNat).any fun y => decide (y < 0) with
  | true => rw [if_pos rfl, if_pos rfl]
  | false =>
    rw [if_neg (by simp), if_neg (by simp)]
    have h0 : 0 < (visitsM w s.toNat).length := by rw [visitsM_len]; omega
    have hm : slices_Max_int_int.f k (visitsM w s.toNat) = some ((visitsM w s.toNat).foldl mx 0) := by
      unfold slices_Max_int_int.f
      rw [if_pos (by omega)]
      congr 1
      revert c h0
      cases visitsM w s.toNat with
      | nil => intro c h0; simp at h0
      | cons x t =>
        intro c h0
        simp only [List.any_cons, Bool.or_eq_false_iff, decide_eq_false_iff_not] at c
        have e2 : mx 0 x = x := by unfold mx; split <;> omega
        simp only [List.foldl_cons, e2, List.drop_succ_cons, List.drop_zero]
        rfl
    rw [hm]
    rfl

/-- On all valid roads and places the split walks leave by every exit. -/
def splitOk (s a : Nat) (r : Bool) : Bool := match spec_SplitWalks.f 60 (s : Int) r (a : Int) with
  | some (x, b) => b && leaversOk (s : Int) r x && (worstM (leavesM (s : Int) r x s)).2
  | none => false
theorem splitOk_all : ((List.range' 2 23).all fun s => [true, false].all fun r => !(!r || decide (3 ≤ s)) || (List.range s).all fun a => splitOk s a r) = true := by decide +kernel
theorem splitOk_of {s a : Nat} {r : Bool} (hs : 2 ≤ s ∧ s ≤ 24) (h3 : r = true → 3 ≤ s) (ha : a < s) : splitOk s a r = true := by
  have h1 := List.all_eq_true.1 splitOk_all s (List.mem_range'_1.2 (by omega))
  have h2 := List.all_eq_true.1 h1 r (by cases r <;> simp)
  have e : (!r || decide (3 ≤ s)) = true := by
    cases r with
    | true => simpa using h3 rfl
    | false => rfl
  rw [e, Bool.not_true, Bool.false_or] at h2
  exact List.all_eq_true.1 h2 a (List.mem_range.2 ha)
/-- What both split walks are, and that they leave. -/
theorem split_leaves (s : Int) (r : Bool) (x : Int) : ∃ v b, (∀ k, 100 < k → spec_SplitWalks.f k s r x = some (v, b) ∧ impl_SplitWalks.f k s r x = some (v, b)) ∧ v.length ≤ 2 ∧ (∀ l ∈ v, l.length ≤ 60) ∧ (b = true → road s r = true ∧ leaversOk s r v = true ∧ (worstM (leavesM s r v s.toNat)).2 = true) := by
  obtain ⟨v, b, e, hn, hx⟩ := split_any s r x
  refine ⟨v, b, e, hn, hx, fun hb => ?_⟩
  subst hb
  have e1 := (e 101 (by omega)).1
  have hp : road s r = true ∧ inR x 0 (s - 1) = true := by
    unfold spec_SplitWalks.f at e1
    rw [spec_l2Place_eq, Option.bind_some] at e1
    by_cases c : (road s r && inR x 0 (s - 1)) = true
    · rwa [Bool.and_eq_true] at c
    · rw [if_neg c] at e1
      simp at e1
  have hb := road_bd hp.1
  have hi := inR_iff.1 hp.2
  have h := splitOk_of (s := s.toNat) (a := x.toNat) (r := r) (by omega) (fun hr' => by have := hb.2.2 hr'; omega) (by omega)
  unfold splitOk at h
  rw [Int.toNat_of_nonneg (by omega), Int.toNat_of_nonneg (by omega)] at h
  cases e60 : spec_SplitWalks.f 60 s r x with
  | none => rw [e60] at h; simp at h
  | some p =>
    obtain ⟨v', b'⟩ := p
    have e2 : spec_SplitWalks.f 101 s r x = some (v', b') := at_rounds (g := fun k => spec_SplitWalks.f k s r x) (spec_SplitWalks.mono _ _ _) (show 60 ≤ 101 by omega) e60
    rw [e1] at e2
    obtain ⟨rfl, rfl⟩ := Prod.mk.inj (Option.some.inj e2)
    rw [e60] at h
    simp only [Bool.true_and, Bool.and_eq_true] at h
    exact ⟨hp.1, h.1, h.2⟩
theorem farM_ge (s : Int) (r : Bool) (x t : Int) : ∀ (ls : List (List Int)) (m : Int), m ≤ farM s r x t m ls
  | [], m => Int.le_refl _
  | l :: q, m => by
    have := farM_ge s r x t q (if m < gapM s r (atM l t) x then gapM s r (atM l t) x else m)
    refine Int.le_trans ?_ this
    split <;> omega
theorem leave_facts (s : Int) (r : Bool) (ls : List (List Int)) (x : Int) (hl : ∀ l ∈ ls, (l.length : Int) ≤ 1000) : (leaveM s r ls x < 0 ↔ bestM x (-1) ls < 0) ∧ bestM x (-1) ls ≤ leaveM s r ls x := by
  have hb := bestM_bd x 1000 ls (-1) hl (by omega)
  have hf := farM_ge s r x (bestM x (-1) ls) ls 0
  unfold leaveM
  by_cases c : bestM x (-1) ls < 0
  · rw [if_pos c]; omega
  · rw [if_neg c]; omega
theorem leavesM_rd (s : Int) (r : Bool) (ls : List (List Int)) (n i : Nat) (h : i < n) : rd (leavesM s r ls n) (i : Int) = leaveM s r ls (i : Int) := by
  unfold rd leavesM
  rw [Int.toNat_natCast, List.getD_eq_getElem?_getD, List.getElem?_map, List.getElem?_range h]
  rfl
theorem firstM_at (x : Int) : ∀ (l : List Int) (i : Nat), 0 ≤ firstM x l i → ∃ j : Nat, firstM x l i = ((i + j : Nat) : Int) ∧ j < l.length ∧ rd l (j : Int) = x
  | [], i, h => by simp [firstM] at h
  | y :: t, i, h => by
    have e : firstM x (y :: t) i = if y = x then (i : Int) else firstM x t (i + 1) := rfl
    rw [e] at h ⊢
    by_cases c : y = x
    · rw [if_pos c]
      exact ⟨0, by simp, by simp, by subst c; rfl⟩
    · rw [if_neg c] at h ⊢
      obtain ⟨j, e1, h1, h2⟩ := firstM_at x t (i + 1) h
      refine ⟨j + 1, by rw [e1]; congr 1; omega, by simp; omega, ?_⟩
      rw [← h2]
      unfold rd
      rw [Int.toNat_natCast, Int.toNat_natCast, List.getD_cons_succ]
/-- A leaver alone leaves where it comes. -/
theorem leave_alone (s : Int) (r : Bool) (w : List Int) (x : Int) (hs : 2 ≤ s) (hx : 0 ≤ x ∧ x ≤ s - 1) : leaveM s r [w] x = firstM x w 0 := by
  have hb := firstM_bd x w 0
  have e : bestM x (-1) [w] = firstM x w 0 := by
    show betM x (-1) w = _
    unfold betM
    by_cases c : 0 ≤ firstM x w 0 ∧ ((-1 : Int) < 0 ∨ firstM x w 0 < -1)
    · rw [if_pos c]
    · rw [if_neg c]; omega
  unfold leaveM
  rw [e]
  by_cases c : firstM x w 0 < 0
  · rw [if_pos c]; omega
  · rw [if_neg c]
    obtain ⟨j, e1, h1, h2⟩ := firstM_at x w 0 (by omega)
    have ea : atM w (firstM x w 0) = x := by
      unfold atM
      rw [e1, Nat.zero_add, if_neg (by omega), h2]
    show firstM x w 0 + (if (0 : Int) < gapM s r (atM w (firstM x w 0)) x then gapM s r (atM w (firstM x w 0)) x else 0) = _
    rw [ea]
    have hg : gapM s r x x = 0 := by
      unfold gapM
      simp only [Int.sub_self, Int.lt_irrefl, if_false]
      split
      · rw [if_neg (by omega)]
      · rfl
    rw [hg]
    simp
theorem leaves_alone (s : Int) (r : Bool) (w : List Int) (hs : 2 ≤ s) (n : Nat) (hn : (n : Int) ≤ s) : leavesM s r [w] n = visitsM w n := by
  unfold leavesM visitsM
  apply List.map_congr_left
  intro i hi
  rw [List.mem_range] at hi
  exact leave_alone s r w (i : Int) hs (by omega)
def mst (m t : Int) : Int := if t > m then t else m
theorem mst_mx (m t : Int) : mst m t = mx m t := rfl
theorem law_l1 (s : Int) (r : Bool) (hr : road s r = true) (ws : List (List Int)) (hok : leaversOk s r ws = true) (w : Int) (o : Bool) (most : Int) (never : Bool) (p : Nat) (hp : (p : Int) < s) : ∀ (d i k : Nat) (found : Int), i + d = ws.length → 2300 < k → bestM (p : Int) found (ws.drop i) = bestM (p : Int) (-1) ws →
    laws_FnLeaving.l1 (k + 2 * d + 1) ws (leavesM s r ws s.toNat) w o most never (p : Int) found (i : Int) s r = laws_FnLeaving.l0 k ws (leavesM s r ws s.toNat) w o most never ((p + 1 : Nat) : Int) s r
  | 0, i, k, found, h, hk, hB => by
    have hb := road_bd hr
    have hbd := leaversOk_bd hok
    have hf := leave_facts s r ws (p : Int) (fun l hl => by have := (hbd.2 l hl).1; omega)
    rw [drop_end ws i (by omega)] at hB
    have hB' : found = bestM (p : Int) (-1) ws := hB
    simp only [laws_FnLeaving.l1, Nat.mul_zero, Nat.add_zero]
    rw [if_neg (by omega), if_pos (by omega), if_pos (by rw [leavesM_len]; omega), leavesM_rd _ _ _ _ _ (by omega), wrap_succ (n := s.toNat) (by omega) (by omega)]
    have e : decide (found < 0) = decide (leaveM s r ws (p : Int) < 0) := by rw [decide_eq_decide, hB']; exact hf.1.symm
    rw [if_neg (by rw [e]; simp), if_neg (by omega)]
  | d + 1, i, k, found, h, hk, hB => by
    have hb := road_bd hr
    have hbd := leaversOk_bd hok
    have hi : i < ws.length := by omega
    have hw := hbd.2 _ (List.getElem_mem hi)
    have hwo : walkOkM s r ws[i] = true := by
      unfold leaversOk at hok
      rw [Bool.and_eq_true, List.all_eq_true] at hok
      exact hok.2 _ (List.getElem_mem hi)
    have hg : rd_L2 ws (i : Int) = ws[i] := by unfold rd_L2; simp [List.getD_eq_getElem?_getD]; rw [List.getElem?_eq_getElem (by omega)]; rfl
    have hB2 : bestM (p : Int) (betM (p : Int) found ws[i]) (ws.drop (i + 1)) = bestM (p : Int) (-1) ws := by
      rw [← hB, List.drop_eq_getElem_cons hi]
      rfl
    have ih := law_l1 s r hr ws hok w o most never p hp d (i + 1) k (betM (p : Int) found ws[i]) (by omega) hk hB2
    rw [← ih, show k + 2 * (d + 1) + 1 = k + 2 * d + 1 + 1 + 1 by omega]
    have hm : 2300 < k + 2 * d + 1 := by omega
    generalize k + 2 * d + 1 = m at hm
    conv => lhs; simp only [laws_FnLeaving.l1]
    rw [if_pos (by omega), if_pos (by omega), hg, impl_FirstVisits_eq (m + 1) s r ws[i] hr hwo (by omega) (by omega), Option.bind_some]
    simp only
    rw [if_pos trivial]
    conv => lhs; simp only [laws_FnLeaving.j8]
    rw [if_neg (by rw [visitsM_len]; simp; omega), if_pos (by omega), if_pos (by rw [visitsM_len]; omega), visitsM_rd _ _ _ (by omega), wrap_succ (n := ws.length) hi (by omega)]
    unfold betM
    by_cases c1 : firstM (p : Int) ws[i] 0 ≥ 0
    · rw [if_pos c1]
      by_cases c2 : found < 0
      · rw [if_pos c2, if_pos ⟨c1, .inl c2⟩]
      · rw [if_neg c2]
        by_cases c3 : firstM (p : Int) ws[i] 0 < found
        · rw [if_pos c3, if_pos ⟨c1, .inr c3⟩]
        · rw [if_neg c3, if_neg (by omega)]
    · rw [if_neg c1, if_neg (by omega)]
theorem law_l0 (s : Int) (r : Bool) (hr : road s r = true) (ws : List (List Int)) (hok : leaversOk s r ws = true) (B : Nat) (hB : 2 * ws.length + 4 ≤ B) : ∀ (d p k : Nat) (most : Int) (never : Bool), p + d = s.toNat → 2300 + d * B < k →
    never = ((leavesM s r ws s.toNat).take p).any (fun x => decide (x < 0)) → most = ((leavesM s r ws s.toNat).take p).foldl mx 0 →
    ∃ k', 2300 ≤ k' ∧ laws_FnLeaving.l0 k ws (leavesM s r ws s.toNat) (worstM (leavesM s r ws s.toNat)).1 (worstM (leavesM s r ws s.toNat)).2 most never (p : Int) s r = laws_FnLeaving.j9 k' ws false s r
  | 0, p, k, most, never, h, hk, hn, hm => by
    have hb := road_bd hr
    obtain ⟨k, rfl⟩ := succ_of (k := k) (by omega)
    rw [List.take_of_length_le (by rw [leavesM_len]; omega)] at hn hm
    refine ⟨k, by omega, ?_⟩
    conv => lhs; simp only [laws_FnLeaving.l0]
    rw [if_neg (by omega)]
    unfold worstM
    cases c : (leavesM s r ws s.toNat).any fun x => decide (x < 0) with
    | true =>
      rw [c] at hn
      rw [if_pos rfl, hn]
      simp
    | false =>
      rw [c] at hn
      rw [hn, hm]
      simp
  | d + 1, p, k, most, never, h, hk, hn, hm => by
    have hb := road_bd hr
    have eB : (d + 1) * B = d * B + B := Nat.succ_mul d B
    obtain ⟨k', rfl⟩ : ∃ k', k = k' + 2 * ws.length + 1 + 1 + 1 + 1 := ⟨k - 2 * ws.length - 4, by omega⟩
    have hpl : p < (leavesM s r ws s.toNat).length := by rw [leavesM_len]; omega
    have ht : (leavesM s r ws s.toNat).take (p + 1) = (leavesM s r ws s.toNat).take p ++ [rd (leavesM s r ws s.toNat) (p : Int)] := by
      rw [List.take_succ_eq_append_getElem hpl]
      unfold rd
      rw [Int.toNat_natCast, List.getD_eq_getElem?_getD, List.getElem?_eq_getElem hpl]
      rfl
    have hn2 : (never || decide (rd (leavesM s r ws s.toNat) (p : Int) < 0)) = ((leavesM s r ws s.toNat).take (p + 1)).any (fun x => decide (x < 0)) := by
      rw [ht, List.any_append, ← hn]
      simp
    have hm2 : mst most (rd (leavesM s r ws s.toNat) (p : Int)) = ((leavesM s r ws s.toNat).take (p + 1)).foldl mx 0 := by
      rw [ht, List.foldl_append, ← hm, mst_mx]
      rfl
    obtain ⟨k2, hk2, ih⟩ := law_l0 s r hr ws hok B hB d (p + 1) k' _ _ (by omega) (by omega) hn2 hm2
    refine ⟨k2, hk2, ?_⟩
    rw [← ih]
    have e1 := law_l1 s r hr ws hok (worstM (leavesM s r ws s.toNat)).1 (worstM (leavesM s r ws s.toNat)).2 (mst most (rd (leavesM s r ws s.toNat) (p : Int))) (never || decide (rd (leavesM s r ws s.toNat) (p : Int) < 0)) p (by omega) ws.length 0 k' (-1) (by omega) (by omega) rfl
    rw [← e1]
    generalize k' + 2 * ws.length + 1 = m
    generalize leavesM s r ws s.toNat = T at hpl ⊢
    conv => lhs; simp only [laws_FnLeaving.l0]
    rw [if_pos (by omega)]
    have j6e : ∀ mo ne, laws_FnLeaving.j6 (m + 1) ws T (worstM T).1 (worstM T).2 mo ne (p : Int) s r = laws_FnLeaving.l1 m ws T (worstM T).1 (worstM T).2 mo ne (p : Int) (-1) 0 s r := fun mo ne => by
      conv => lhs; simp only [laws_FnLeaving.j6]
    have j5e : ∀ ne, laws_FnLeaving.j5 (m + 1 + 1) ws T (worstM T).1 (worstM T).2 most ne (p : Int) s r = laws_FnLeaving.l1 m ws T (worstM T).1 (worstM T).2 (mst most (rd T (p : Int))) ne (p : Int) (-1) 0 s r := fun ne => by
      conv => lhs; simp only [laws_FnLeaving.j5]
      rw [if_pos (by omega), if_pos (by omega)]
      unfold mst
      by_cases c : rd T (p : Int) > most
      · rw [if_pos c, if_pos c, j6e]
      · rw [if_neg c, if_neg c, j6e]
    cases never with
    | true => rw [if_pos rfl, j5e, Bool.true_or]; rfl
    | false => rw [if_neg (by simp), if_pos (by omega), if_pos (by omega), j5e, Bool.false_or]; rfl
theorem law_j9 (s : Int) (r : Bool) (hr : road s r = true) (ws : List (List Int)) (hok : leaversOk s r ws = true) (k : Nat) (hk : 2300 ≤ k) : laws_FnLeaving.j9 k ws false s r = some true := by
  have hb := road_bd hr
  have hbd := leaversOk_bd hok
  obtain ⟨k, rfl⟩ := succ_of (k := k) (by omega)
  simp only [laws_FnLeaving.j9]
  have hw0 := headD_mem ws [] (by omega)
  have hg : rd_L2 ws 0 = ws.headD [] := by unfold rd_L2; cases ws <;> simp
  have ht : ws.take 1 = [ws.headD []] := by
    cases ws with
    | nil => simp at hbd
    | cons x t => simp
  have hwo : walkOkM s r (ws.headD []) = true := by
    unfold leaversOk at hok
    rw [Bool.and_eq_true, List.all_eq_true] at hok
    exact hok.2 _ hw0
  have hwl := (hbd.2 _ hw0).1
  have hone : leaversOk s r [ws.headD []] = true := by
    unfold leaversOk
    rw [List.all_cons, hwo]
    simp [inR]
  have e : impl_WorstLeave.f k s r [ws.headD []] = some (worstM (visitsM (ws.headD []) s.toNat)) := by
    rw [impl_WorstLeave_eq k s r [ws.headD []] (by intro x hx; rw [List.mem_singleton.1 hx]; omega) (by omega), hr, hone, if_pos (by simp), leaves_alone s r (ws.headD []) hb.1 s.toNat (by omega)]
  rw [if_neg (by simp), if_pos (by omega), hg, impl_CoverTime_eq k s r _ hr hwo (by omega) (by omega), Option.bind_some, if_pos (by omega), ht, e, Option.bind_some]
  simp
theorem FnLeaving : laws_FnLeaving.Pure := by
  intro l0 hm _ hwf
  have hl : byteL l0 := fun x hx => by
    have := hwf x hx
    simp [Lit.wf, IntKind.min, IntKind.max, IntKind.bits, IntKind.signed, IntKind.wrap] at this
    omega
  refine ⟨1000000, ?_⟩
  unfold laws_FnLeaving.f laws_rBig.f
  rw [Option.bind_some]
  by_cases c0 : (l0.length : Int) > 65536
  · rw [decide_eq_true c0, if_pos rfl]
  rw [decide_eq_false c0, if_neg (by simp)]
  obtain ⟨s, r, ws, e0, hn, hx⟩ := DrawLeaveTimes_ok 1000000 l0 hl (by omega)
  have hx1 : ∀ k, 1000 < k → ∀ x ∈ ws, x.length ≤ 9223372036854775807 ∧ x.length + 3 < k := fun k hk x hm => by have := hx x hm; omega
  rw [e0, Option.bind_some]
  simp only
  rw [impl_LeaveTimes_eq 1000000 s r ws (hx1 _ (by omega)) (by omega), spec_LeaveTimes_eq 1000000 s r ws (by omega) (fun x hm => by have := hx x hm; omega) (by omega)]
  have hT : (leavesM s r ws s.toNat).length ≤ 900000 ∨ ¬ (road s r && leaversOk s r ws) = true := by
    by_cases c : (road s r && leaversOk s r ws) = true
    · left
      rw [Bool.and_eq_true] at c
      have := road_bd c.1
      rw [leavesM_len]
      omega
    · exact .inr c
  -- the split walks
  obtain ⟨q, r', a, e1, _⟩ := DrawNeighborsOn_ok l0 hl
  have e1' : spec_DrawSplitWalks.f l0 = some (q, r', a) := by
    unfold spec_DrawSplitWalks.f
    rw [e1]
    rfl
  obtain ⟨vv, bb, e2, hv, hv2, hbb⟩ := split_leaves q r' a
  have hW : ∀ k, 2000 < k → ∀ (s : Int) (r : Bool) (ls : List (List Int)), ls.length ≤ 100 → (∀ x ∈ ls, x.length ≤ 100) → impl_WorstLeave.f k s r ls = some (if (road s r && leaversOk s r ls) = true then worstM (leavesM s r ls s.toNat) else (0, false)) ∧ spec_WorstLeave.f k s r ls = some (if (road s r && leaversOk s r ls) = true then worstM (leavesM s r ls s.toNat) else (0, false)) := fun k hk s r ls hl1 hl2 =>
    ⟨impl_WorstLeave_eq k s r ls (fun x hm => by have := hl2 x hm; omega) (by omega), spec_WorstLeave_eq k s r ls (by omega) (fun x hm => by have := hl2 x hm; omega) (by omega)⟩
  -- from j3 on
  have hj3 : ∀ k, 10000 < k → laws_FnLeaving.j3 k ws (if (road s r && leaversOk s r ws) = true then (leavesM s r ws s.toNat, true) else ([], false)).1 (if (road s r && leaversOk s r ws) = true then (leavesM s r ws s.toNat, true) else ([], false)).2 (if (road s r && leaversOk s r ws) = true then worstM (leavesM s r ws s.toNat) else (0, false)).1 (if (road s r && leaversOk s r ws) = true then worstM (leavesM s r ws s.toNat) else (0, false)).2 s r = some true := by
    intro k hk
    obtain ⟨k, rfl⟩ := succ_of (k := k) (by omega)
    conv => lhs; simp only [laws_FnLeaving.j3]
    by_cases c : (road s r && leaversOk s r ws) = true
    · simp only [if_pos c]
      rw [if_pos trivial]
      rw [Bool.and_eq_true] at c
      have hb := road_bd c.1
      obtain ⟨k', hk', e⟩ := law_l0 s r c.1 ws c.2 24 (by omega) s.toNat 0 k 0 false (by omega) (by omega) rfl rfl
      rw [show (0 : Int) = ((0 : Nat) : Int) from rfl] at *
      rw [e]
      exact law_j9 s r c.1 ws c.2 k' hk'
    · simp only [if_neg c]
      rw [if_neg (by simp)]
  have hj2 : ∀ k, 20000 < k → laws_FnLeaving.j2 k ws (if (road s r && leaversOk s r ws) = true then (leavesM s r ws s.toNat, true) else ([], false)).1 (if (road s r && leaversOk s r ws) = true then (leavesM s r ws s.toNat, true) else ([], false)).2 (if (road s r && leaversOk s r ws) = true then worstM (leavesM s r ws s.toNat) else (0, false)).1 (if (road s r && leaversOk s r ws) = true then worstM (leavesM s r ws s.toNat) else (0, false)).2 vv bb false s r q r' = some true := by
    intro k hk
    obtain ⟨k, rfl⟩ := succ_of (k := k) (by omega)
    conv => lhs; simp only [laws_FnLeaving.j2]
    rw [if_neg (by simp)]
    cases hbe : bb with
    | false => rw [if_neg (by simp)]; exact hj3 k (by omega)
    | true =>
      have hbb' := hbb hbe
      have hw := hW k (by omega) q r' vv (by omega) (fun x hm => by have := hv2 x hm; omega)
      rw [hbb'.1, hbb'.2.1, if_pos (by simp)] at hw
      rw [if_pos rfl, hw.1, Option.bind_some, hw.2, Option.bind_some, hbb'.2.2, if_pos rfl, if_pos rfl, if_pos rfl]
      exact hj3 k (by omega)
  have hj1 : ∀ k, 30000 < k → laws_FnLeaving.j1 k l0 ws (if (road s r && leaversOk s r ws) = true then (leavesM s r ws s.toNat, true) else ([], false)).1 (if (road s r && leaversOk s r ws) = true then (leavesM s r ws s.toNat, true) else ([], false)).2 (if (road s r && leaversOk s r ws) = true then worstM (leavesM s r ws s.toNat) else (0, false)).1 (if (road s r && leaversOk s r ws) = true then worstM (leavesM s r ws s.toNat) else (0, false)).2 false s r = some true := by
    intro k hk
    obtain ⟨k, rfl⟩ := succ_of (k := k) (by omega)
    conv => lhs; simp only [laws_FnLeaving.j1]
    rw [if_neg (by simp), e1', Option.bind_some]
    simp only
    rw [(e2 k (by omega)).2, Option.bind_some, (e2 k (by omega)).1, Option.bind_some]
    simp only
    rw [if_neg (by simp), laws_rTable_self k vv (by omega) (fun x hm => by have := hv2 x hm; omega) (by omega), Option.bind_some]
    exact hj2 k (by omega)
  have hj0 : ∀ k, 40000 < k → laws_FnLeaving.j0 k l0 ws (if (road s r && leaversOk s r ws) = true then (leavesM s r ws s.toNat, true) else ([], false)).1 (if (road s r && leaversOk s r ws) = true then (leavesM s r ws s.toNat, true) else ([], false)).2 false s r = some true := by
    intro k hk
    obtain ⟨k, rfl⟩ := succ_of (k := k) (by omega)
    conv => lhs; simp only [laws_FnLeaving.j0]
    have hw := hW k (by omega) s r ws (by omega) (fun x hm => by have := hx x hm; omega)
    rw [if_neg (by simp), hw.1, Option.bind_some, hw.2, Option.bind_some, if_pos rfl, if_neg (by simp)]
    by_cases c : (road s r && leaversOk s r ws) = true
    · have h1 := hj1 k (by omega)
      simp only [if_pos c] at h1 ⊢
      by_cases c2 : (worstM (leavesM s r ws s.toNat)).2 = true
      · rw [if_pos c2]
        exact h1
      · rw [if_neg c2]
        exact h1
    · have h1 := hj1 k (by omega)
      simp only [if_neg c] at h1 ⊢
      rw [if_neg (by simp)]
      exact h1
  rw [Option.bind_some, Option.bind_some, if_neg (by simp)]
  have hl2 : (if (road s r && leaversOk s r ws) = true then (leavesM s r ws s.toNat, true) else ([], false)).1.length ≤ 900000 := by
    by_cases c : (road s r && leaversOk s r ws) = true
    · rw [if_pos c]
      exact hT.resolve_right (fun h => h c)
    · rw [if_neg c]
      simp
  rw [laws_rInts_self 1000000 _ (by omega) (by omega), Option.bind_some]
  exact hj0 1000000 (by omega)

end Go.Proofs.Ytmamhnbhahafgaa.Pure
