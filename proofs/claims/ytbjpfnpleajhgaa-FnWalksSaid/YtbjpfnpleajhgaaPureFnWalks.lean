/- Plain facts on numbers and lists: what the functions that the law FnWalks reaches answer, and that the law's own function answers true. No program, no memory. -/
import Derived.Test.YtbjpfnpleajhgaaPFnWalksx1
import Derived.Test.YtbjpfnpleajhgaaPFnWalksx2
import Derived.Test.YtbjpfnpleajhgaaPFnWalksx3
import Derived.Test.YtbjpfnpleajhgaaPFnWalksx4
import Derived.Test.YtbjpfnpleajhgaaPFnWalksx5
import Derived.Test.YtbjpfnpleajhgaaPFnWalksx6
import Derived.Test.YtbjpfnpleajhgaaPFnWalksx7
import Derived.Test.YtbjpfnpleajhgaaPFnWalksx8
import Derived.Test.YtbjpfnpleajhgaaPFnWalksx9
import Derived.Test.YtbjpfnpleajhgaaPFnWalksx10
import Derived.Test.YtbjpfnpleajhgaaPFnWalksx11
import Derived.Test.YtbjpfnpleajhgaaPFnWalksx12
import Derived.Test.YtbjpfnpleajhgaaPFnWalksx13
import Derived.Test.YtbjpfnpleajhgaaPFnWalksx14
import Derived.Test.YtbjpfnpleajhgaaPFnWalksx15
import Derived.Test.YtbjpfnpleajhgaaPFnWalksx16
import Derived.Laws.Bits64b
namespace Go.Proofs.Ytbjpfnpleajhgaa.Pure
open Go.RowKit Go.Proofs.Ytbjpfnpleajhgaa.PFnWalks Go.Proofs.YtbjpfnpleajhgaaW.PrintWords Go.Proofs.YtbjpfnpleajhgaaW.PrintLast Go.Proofs.YtbjpfnpleajhgaaW.PrintMore
set_option linter.unusedVariables false
set_option linter.unusedSimpArgs false
theorem wrap64_id {x : Int} (h1 : -9223372036854775808 ≤ x) (h2 : x ≤ 9223372036854775807) : wrap64 x = x := by unfold wrap64; omega
def inR (x a b : Int) : Bool := decide (a ≤ x) && decide (x ≤ b)
theorem inR_iff {x a b : Int} : inR x a b = true ↔ a ≤ x ∧ x ≤ b := by unfold inR; simp
def road (s : Int) (r : Bool) : Bool := inR s 2 24 && (!r || decide (3 ≤ s))
theorem road_bd {s : Int} {r : Bool} (h : road s r = true) : 2 ≤ s ∧ s ≤ 24 ∧ (r = true → 3 ≤ s) := by
  unfold road at h
  rw [Bool.and_eq_true, inR_iff] at h
  refine ⟨h.1.1, h.1.2, fun hr => ?_⟩
  have := h.2
  simp [hr] at this
  exact this
theorem spec_l1In_eq (a b c : Int) : Q23.f a b c = some (inR a b c) := by
  unfold Q23.f inR
  by_cases h : a ≥ b
  · have h' : b ≤ a := h
    simp [h, h']
  · have h' : ¬ b ≤ a := h
    simp [h, h']
theorem impl_within_eq (a b c : Int) : Q40.f a b c = some (inR a b c) := by
  unfold Q40.f inR
  by_cases h : a ≥ b
  · have h' : b ≤ a := h
    simp [h, h']
  · have h' : ¬ b ≤ a := h
    simp [h, h']
theorem spec_l2Road_eq (s : Int) (r : Bool) : Q41.f s r = some (road s r) := by
  unfold Q41.f road
  rw [spec_l1In_eq, Option.bind_some]
  cases inR s 2 24 <;> cases r <;> simp
  omega
theorem impl_IsRoad_eq (s : Int) (r : Bool) : Q50.f s r = some (road s r) := by
  unfold Q50.f road
  rw [impl_within_eq, Option.bind_some]
  cases inR s 2 24 <;> cases r <;> simp
theorem wrap_succ {i n : Nat} (h : i < n) (hn : n ≤ 9223372036854775807) : wrap64 ((i : Int) + 1) = ((i + 1 : Nat) : Int) := by unfold wrap64; omega
theorem drop_rd (l : List Int) (i : Nat) (h : i < l.length) : l.drop i = rd l (i : Int) :: l.drop (i + 1) := by
  rw [List.drop_eq_getElem_cons h]
  unfold rd
  simp [List.getD_eq_getElem?_getD, h]
theorem rd_get (l : List Int) (i : Nat) (h : i < l.length) : rd l (i : Int) = l[i] := by
  unfold rd
  simp [List.getD_eq_getElem?_getD, h]
theorem succ_of {k : Nat} (h : 0 < k) : ∃ m, k = m + 1 := ⟨k - 1, by omega⟩
theorem drop_end {α : Type} (l : List α) (i : Nat) (h : l.length ≤ i) : l.drop i = [] := List.drop_of_length_le h
def allIn (l : List Int) (a b : Int) : Bool := l.all (fun x => inR x a b)
theorem impl_allWithin_l0 (lo hi : Int) (l : List Int) (hl : l.length ≤ 9223372036854775807) : ∀ (d i k : Nat), i + d = l.length → d < k →
    Q39.l0 k lo hi l (l.length : Int) (i : Int) = some (allIn (l.drop i) lo hi)
  | 0, i, k, h, hk => by
    obtain ⟨k, rfl⟩ := succ_of (k := k) (by omega)
    simp only [Q39.l0]
    rw [if_neg (by omega), drop_end l i (by omega)]
    rfl
  | d + 1, i, k, h, hk => by
    obtain ⟨k, rfl⟩ := succ_of (k := k) (by omega)
    simp only [Q39.l0]
    rw [if_pos (by omega), if_pos (by omega), if_pos (by omega), impl_within_eq, Option.bind_some, wrap_succ (n := l.length) (by omega) hl, impl_allWithin_l0 lo hi l hl d (i + 1) k (by omega) (by omega), drop_rd l i (by omega)]
    unfold allIn
    rw [List.all_cons]
    cases inR (rd l (i : Int)) lo hi <;> simp
theorem impl_allWithin_eq (k : Nat) (l : List Int) (a b : Int) (hl : l.length ≤ 9223372036854775807) (hk : l.length < k) : Q39.f k l a b = some (allIn l a b) := by
  unfold Q39.f
  have := impl_allWithin_l0 a b l hl l.length 0 k (by omega) hk
  simpa using this
theorem impl_Road_has_eq (k : Nat) (s : Int) (r : Bool) (l : List Int) (hl : l.length ≤ 9223372036854775807) (hk : l.length < k) : Q38.f k s r l = some (allIn l 0 (wrap64 (s - 1))) := by
  unfold Q38.f
  rw [impl_allWithin_eq k l _ _ hl hk, Option.bind_some]
theorem impl_Road_has1 (k : Nat) (s : Int) (r : Bool) (x : Int) (hs : road s r = true) (hk : 1 < k) : Q38.f k s r [x] = some (inR x 0 (s - 1)) := by
  rw [impl_Road_has_eq k s r [x] (by simp) (by simpa using hk)]
  have := road_bd hs
  rw [wrap64_id (by omega) (by omega)]
  simp [allIn]
theorem impl_Road_hasN (k : Nat) (s : Int) (r : Bool) (l : List Int) (hs : road s r = true) (hl : l.length ≤ 9223372036854775807) (hk : l.length < k) : Q38.f k s r l = some (allIn l 0 (s - 1)) := by
  rw [impl_Road_has_eq k s r l hl hk]
  have := road_bd hs
  rw [wrap64_id (by omega) (by omega)]
theorem spec_l2Place_eq (s : Int) (r : Bool) (x : Int) : Q26.f s r x = some (road s r && inR x 0 (s - 1)) := by
  unfold Q26.f
  rw [spec_l2Road_eq, Option.bind_some]
  cases h : road s r with
  | false => simp
  | true =>
    have := road_bd h
    rw [wrap64_id (by omega) (by omega)]
    simp [spec_l1In_eq]
def gapM (s : Int) (r : Bool) (a b : Int) : Int :=
  let d := if a - b < b - a then b - a else a - b
  if r = true then (if s - d < d then s - d else d) else d
theorem impl_Road_gap_eq (s : Int) (r : Bool) (a b : Int) (hs : 0 ≤ s ∧ s ≤ 1000) (ha : -1000000 ≤ a ∧ a ≤ 1000000) (hb : -1000000 ≤ b ∧ b ≤ 1000000) : Q64.f s r a b = some (gapM s r a b) := by
  unfold Q64.f gapM
  have e1 : wrap64 (a - b) = a - b := wrap64_id (by omega) (by omega)
  have e2 : wrap64 (b - a) = b - a := wrap64_id (by omega) (by omega)
  rw [e1, e2]
  have e : mx (a - b) (b - a) = if a - b < b - a then b - a else a - b := rfl
  rw [e]
  have e3 : wrap64 (s - (if a - b < b - a then b - a else a - b)) = s - (if a - b < b - a then b - a else a - b) := wrap64_id (by split <;> omega) (by split <;> omega)
  rw [e3]
  unfold mn
  cases r <;> simp
def lo2 (a b : Int) : Int := if a < b then a else b
theorem spec_l1Least_eq (a b : Int) : Q27.f a b = some (lo2 a b) := by unfold Q27.f lo2; split <;> rfl
def hi2 (a b : Int) : Int := if b < a then a else b
theorem spec_l1Most_eq (a b : Int) : Q28.f a b = some (hi2 a b) := by unfold Q28.f hi2; by_cases h : b < a <;> simp [h]
theorem spec_l2Gap_eq (s : Int) (r : Bool) (a b : Int) (hs : 0 ≤ s ∧ s ≤ 1000) (ha : -1000000 ≤ a ∧ a ≤ 1000000) (hb : -1000000 ≤ b ∧ b ≤ 1000000) : Q51.f s r a b = some (gapM s r a b) := by
  unfold Q51.f gapM
  rw [wrap64_id (x := a - b) (by omega) (by omega), wrap64_id (x := b - a) (by omega) (by omega), spec_l1Most_eq, Option.bind_some]
  have e : hi2 (a - b) (b - a) = if a - b < b - a then b - a else a - b := by unfold hi2; split <;> split <;> omega
  rw [e]
  have e3 : wrap64 (s - (if a - b < b - a then b - a else a - b)) = s - (if a - b < b - a then b - a else a - b) := wrap64_id (by split <;> omega) (by split <;> omega)
  rw [e3, spec_l1Least_eq]
  unfold lo2
  cases r <;> simp
  split <;> split <;> omega
theorem allIn_rd {l : List Int} {a b : Int} (h : allIn l a b = true) (i : Nat) (hi : i < l.length) : a ≤ rd l (i : Int) ∧ rd l (i : Int) ≤ b := by
  unfold allIn at h
  rw [List.all_eq_true] at h
  rw [rd_get l i hi]
  exact inR_iff.1 (h _ (List.getElem_mem hi))
theorem rd_bd {l : List Int} {a b : Int} (h : allIn l a b = true) (i : Nat) (hi : i < l.length) : a ≤ rd l (i : Int) ∧ rd l (i : Int) ≤ b := allIn_rd h i hi
theorem allIn_rdZ {l : List Int} {a b : Int} (h : allIn l a b = true) {i : Int} (h0 : 0 ≤ i) (h1 : i < (l.length : Int)) : a ≤ rd l i ∧ rd l i ≤ b := by
  obtain ⟨n, rfl⟩ := Int.eq_ofNat_of_zero_le h0
  have hn : n < l.length := by omega
  have e := rd_get l n hn
  unfold allIn at h
  have := List.all_eq_true.1 h _ (List.getElem_mem hn)
  rw [inR_iff] at this
  rw [e]
  exact this
def stepW (s : Int) (r : Bool) (p x : Int) : Int := if r = true then Int.tmod (p + x + s) s else if inR (p + x) 0 (s - 1) = true then p + x else p
theorem stepW_bd {s : Int} {r : Bool} {p x : Int} (hs : 2 ≤ s) (hp : 0 ≤ p ∧ p ≤ s - 1) (hx : -1 ≤ x ∧ x ≤ 1) : 0 ≤ stepW s r p x ∧ stepW s r p x ≤ s - 1 := by
  unfold stepW
  by_cases c : r = true
  · rw [if_pos c]
    have h1 := Int.tmod_nonneg s (show 0 ≤ p + x + s by omega)
    have h2 := Int.tmod_lt_of_pos (p + x + s) (show 0 < s by omega)
    omega
  · rw [if_neg c]
    by_cases d : inR (p + x) 0 (s - 1) = true
    · rw [if_pos d]
      exact inR_iff.1 d
    · rw [if_neg d]
      exact hp
theorem spec_l2Step_eq (s : Int) (r : Bool) (p x : Int) (hs : 2 ≤ s ∧ s ≤ 24) (hp : 0 ≤ p ∧ p ≤ s - 1) (hx : -1 ≤ x ∧ x ≤ 1) : Q35.f s r p x = some (stepW s r p x) := by
  unfold Q35.f stepW
  by_cases c : r = true
  · rw [if_pos c, if_pos c, if_neg (by omega), wrap64_id (x := p + x) (by omega) (by omega), wrap64_id (by omega) (by omega)]
  · rw [if_neg c, if_neg c, wrap64_id (x := p + x) (by omega) (by omega), wrap64_id (by omega) (by omega), spec_l1Least_eq, Option.bind_some, spec_l1Most_eq, Option.bind_some]
    congr 1
    unfold inR lo2 hi2
    by_cases d : 0 ≤ p + x <;> by_cases e : p + x ≤ s - 1 <;> simp [d, e] <;> (repeat' split) <;> omega
/-- From place i on, d places long: each is at most one away from the one ahead of it. -/
def chnM (s : Int) (r : Bool) (l : List Int) : Nat → Nat → Bool
  | _, 0 => true
  | i, d + 1 => decide (gapM s r (rd l ((i : Int) - 1)) (rd l (i : Int)) ≤ 1) && chnM s r l (i + 1) d
theorem chnM_succ (s : Int) (r : Bool) (l : List Int) (i d : Nat) : chnM s r l i (d + 1) = (decide (gapM s r (rd l ((i : Int) - 1)) (rd l (i : Int)) ≤ 1) && chnM s r l (i + 1) d) := rfl
def walkOkM (s : Int) (r : Bool) (l : List Int) : Bool := inR (l.length : Int) 1 61 && allIn l 0 (s - 1) && chnM s r l 1 (l.length - 1)
theorem impl_Road_isWalk_l0 (s : Int) (r : Bool) (hr : road s r = true) (l : List Int) (hl : l.length ≤ 61) (ha : allIn l 0 (s - 1) = true) : ∀ (d i k : Nat), i + d = l.length → 1 ≤ i → d < k →
    Q7.l0 k l (i : Int) s r = some (chnM s r l i d)
  | 0, i, k, h, h1, hk => by
    obtain ⟨k, rfl⟩ := succ_of (k := k) (by omega)
    simp only [Q7.l0]
    rw [if_neg (by omega)]
    rfl
  | d + 1, i, k, h, h1, hk => by
    obtain ⟨k, rfl⟩ := succ_of (k := k) (by omega)
    have hb := road_bd hr
    have b1 := rd_bd ha i (by omega)
    have b2 := rd_bd ha (i - 1) (by omega)
    rw [Int.natCast_sub h1] at b2
    simp only [Q7.l0]
    rw [if_pos (by omega), wrap64_id (x := (i : Int) - 1) (by omega) (by omega), if_pos (by omega), if_pos (by omega), if_pos (by omega), impl_Road_gap_eq s r _ _ (by omega) (by simp at b2; omega) (by omega), Option.bind_some, wrap_succ (n := l.length) (by omega) (by omega), impl_Road_isWalk_l0 s r hr l hl ha d (i + 1) k (by omega) (by omega) (by omega), chnM_succ]
    by_cases c : gapM s r (rd l ((i : Int) - 1)) (rd l (i : Int)) > 1
    · rw [if_pos c, decide_eq_false (by omega)]
      simp
    · rw [if_neg c, decide_eq_true (by omega)]
      simp
theorem impl_Road_isWalk_eq (k : Nat) (s : Int) (r : Bool) (hr : road s r = true) (l : List Int) (hl : l.length ≤ 9223372036854775807) (hk : l.length + 3 < k) (hk2 : 70 < k) :
    Q7.f k s r l = some (walkOkM s r l) := by
  obtain ⟨k, rfl⟩ := succ_of (k := k) (by omega)
  unfold Q7.f walkOkM
  rw [impl_within_eq, Option.bind_some]
  cases hi : inR (l.length : Int) 1 61 with
  | false => simp [Q7.j0]
  | true =>
    have hi := inR_iff.1 hi
    rw [if_pos rfl, impl_Road_hasN (k + 1) s r l hr hl (by omega), Option.bind_some]
    cases ha : allIn l 0 (s - 1) with
    | false => simp [Q7.j0]
    | true =>
      have := impl_Road_isWalk_l0 s r hr l (by omega) ha (l.length - 1) 1 k (by omega) (by omega) (by omega)
      simp only [Q7.j0, Bool.not_true]
      rw [if_neg (by simp)]
      simpa using this
open Go.Proofs.Ytbjpfnpleajhgaa.Own in
theorem anyOL_eq {α : Type} {q : α → Option Bool} {p : α → Bool} : ∀ {l : List α}, (∀ x ∈ l, q x = some (p x)) → anyO q l = some (l.any p)
  | [], _ => rfl
  | x :: t, h => by
    simp only [anyO]
    rw [h x (List.mem_cons_self ..), Option.bind_some, anyOL_eq (fun y hy => h y (List.mem_cons_of_mem _ hy)), List.any_cons]
    cases p x <;> simp
theorem impl_areWalks_eq (k : Nat) (s : Int) (r : Bool) (ls : List (List Int)) (hx : ∀ x ∈ ls, x.length ≤ 9223372036854775807 ∧ x.length + 3 < k) (hk : 70 < k) :
    Q4.f k s r ls = some (road s r && ls.all (walkOkM s r)) := by
  unfold Q4.f
  rw [impl_IsRoad_eq, Option.bind_some]
  cases hr : road s r with
  | false => simp
  | true =>
    rw [if_pos rfl, anyOL_eq (p := fun x => !walkOkM s r x)]
    · rw [Option.bind_some, Bool.true_and]
      congr 1
      clear hx
      induction ls with
      | nil => rfl
      | cons x ls ih => rw [List.any_cons, List.all_cons, Bool.not_or, Bool.not_not, ih]
    · intro x hm
      rw [impl_Road_isWalk_eq k s r hr x (hx x hm).1 (hx x hm).2 hk]
      rfl
theorem spec_l2Walk_l0 (s : Int) (r : Bool) (hr : road s r = true) (l : List Int) (hl : l.length ≤ 9223372036854775807) : ∀ (d i k : Nat), i + d = min 61 l.length → allIn (l.take i) 0 (s - 1) = true → 2 * d + 1 < k →
    Q1.l0 k l (i : Int) s r = some (inR (l.length : Int) 1 61 && allIn l 0 (s - 1) && chnM s r l (max i 1) (l.length - max i 1))
  | 0, i, k, h, ha, hk => by
    obtain ⟨k, rfl⟩ := succ_of (k := k) (by omega)
    obtain ⟨k, rfl⟩ := succ_of (k := k) (by omega)
    have hf : (if (i : Int) < (l.length : Int) then Q1.j1 (k + 1) l (i : Int) (decide ((i : Int) ≤ 60)) s r else Q1.j1 (k + 1) l (i : Int) false s r) = Q1.j1 (k + 1) l (i : Int) false s r := by
      by_cases c : (i : Int) < (l.length : Int)
      · rw [if_pos c, decide_eq_false (by omega)]
      · rw [if_neg c]
    simp only [Q1.l0]
    rw [hf]
    simp only [Q1.j1]
    rw [if_neg (by simp), spec_l2Road_eq, hr, Option.bind_some, if_pos rfl, spec_l1In_eq, Option.bind_some]
    cases c : inR (l.length : Int) 1 61 with
    | false => simp
    | true =>
      have c := inR_iff.1 c
      rw [List.take_of_length_le (by omega)] at ha
      rw [ha, show l.length - max i 1 = 0 by omega]
      rfl
  | d + 1, i, k, h, ha, hk => by
    obtain ⟨k, rfl⟩ := succ_of (k := k) (by omega)
    obtain ⟨k, rfl⟩ := succ_of (k := k) (by omega)
    have hb := road_bd hr
    simp only [Q1.l0]
    rw [if_pos (by omega), decide_eq_true (by omega)]
    simp only [Q1.j1]
    rw [if_pos trivial, if_pos (by omega), if_pos (by omega), spec_l2Place_eq, Option.bind_some, hr, Bool.true_and]
    cases hi : inR (rd l (i : Int)) 0 (s - 1) with
    | true =>
      have hi' := inR_iff.1 hi
      have ih := spec_l2Walk_l0 s r hr l hl d (i + 1) k (by omega) (by
        rw [List.take_succ_eq_append_getElem (show i < l.length by omega)]
        unfold allIn at ha ⊢
        rw [List.all_append, ha, ← rd_get l i (by omega)]
        simp [hi]) (by omega)
      rw [if_pos rfl, wrap_succ (n := l.length) (by omega) hl]
      by_cases z : i = 0
      · subst z
        rw [if_neg (by omega), ih]
        rfl
      · have b2 : 0 ≤ rd l ((i : Int) - 1) ∧ rd l ((i : Int) - 1) ≤ s - 1 := by
          have hm : (l.take i).length = i := by rw [List.length_take]; omega
          have := rd_bd ha (i - 1) (by omega)
          rw [rd_get _ _ (by omega), List.getElem_take, ← rd_get l (i - 1) (by omega)] at this
          rw [show ((i : Int) - 1) = ((i - 1 : Nat) : Int) by omega]
          exact this
        rw [if_pos (by omega), wrap64_id (x := (i : Int) - 1) (by omega) (by omega), if_pos (by omega), if_pos (by omega), spec_l2Gap_eq s r _ _ (by omega) (by omega) (by omega), Option.bind_some, ih]
        rw [show max (i + 1) 1 = i + 1 by omega, show max i 1 = i by omega, show l.length - i = (l.length - (i + 1)) + 1 by omega, chnM_succ]
        by_cases c : gapM s r (rd l ((i : Int) - 1)) (rd l (i : Int)) > 1
        · rw [if_pos c, decide_eq_false (by omega)]
          simp
        · rw [if_neg c, decide_eq_true (by omega)]
          simp
    | false =>
      have : allIn l 0 (s - 1) = false := by
        cases h2 : allIn l 0 (s - 1) with
        | false => rfl
        | true =>
          have := rd_bd h2 i (by omega)
          rw [inR_iff.2 this] at hi
          cases hi
      simp [this]
theorem spec_l2Walk_eq (k : Nat) (s : Int) (r : Bool) (l : List Int) (hl : l.length ≤ 9223372036854775807) (hk : 200 < k) : Q1.f k s r l = some (road s r && walkOkM s r l) := by
  unfold Q1.f walkOkM
  cases hr : road s r with
  | true =>
    have := spec_l2Walk_l0 s r hr l hl (min 61 l.length) 0 k (by omega) (by simp [allIn]) (by omega)
    rw [Bool.true_and]
    exact this
  | false =>
    obtain ⟨k, rfl⟩ := succ_of (k := k) (by omega)
    obtain ⟨k, rfl⟩ := succ_of (k := k) (by omega)
    simp only [Q1.l0]
    by_cases c : (0 : Int) < (l.length : Int)
    · rw [if_pos c, decide_eq_true (by omega)]
      simp only [Q1.j1]
      rw [if_pos trivial, if_pos (by omega), if_pos c, spec_l2Place_eq, hr]
      simp
    · rw [if_neg c]
      simp only [Q1.j1]
      rw [if_neg (by simp), spec_l2Road_eq, hr]
      simp
/-- The place of the first x in a list whose places begin with i, or -1. -/
def firstM (x : Int) : List Int → Nat → Int
  | [], _ => -1
  | y :: t, i => if y = x then (i : Int) else firstM x t (i + 1)
theorem firstM_bd (x : Int) : ∀ (l : List Int) (i : Nat), firstM x l i = -1 ∨ ((i : Int) ≤ firstM x l i ∧ firstM x l i < (i : Int) + l.length)
  | [], i => .inl rfl
  | y :: t, i => by
    simp only [firstM, List.length_cons]
    split
    · right; omega
    · rcases firstM_bd x t (i + 1) with h | h
      · exact .inl h
      · right; omega
theorem spec_l2First_l0 (x : Int) (l : List Int) (hl : l.length ≤ 9223372036854775807) : ∀ (d i k : Nat), i + d = l.length → d < k → Q34.l0 k l x (i : Int) = some (firstM x (l.drop i) i)
  | 0, i, k, h, hk => by
    obtain ⟨k, rfl⟩ := succ_of (k := k) (by omega)
    simp only [Q34.l0]
    rw [if_neg (by omega), drop_end l i (by omega)]
    rfl
  | d + 1, i, k, h, hk => by
    obtain ⟨k, rfl⟩ := succ_of (k := k) (by omega)
    simp only [Q34.l0]
    rw [if_pos (by omega), if_pos (by omega), wrap_succ (n := l.length) (by omega) hl, spec_l2First_l0 x l hl d (i + 1) k (by omega) (by omega), drop_rd l i (by omega)]
    simp only [firstM]
    split <;> rfl
theorem spec_l2First_eq (k : Nat) (x : Int) (l : List Int) (hl : l.length ≤ 9223372036854775807) (hk : l.length < k) : Q34.f k l x = some (firstM x l 0) := by
  unfold Q34.f
  exact spec_l2First_l0 x l hl l.length 0 k (by omega) hk
theorem slices_Index_l0 (x : Int) (l : List Int) (hl : l.length ≤ 9223372036854775807) : ∀ (d i k : Nat), i + d = l.length → d < k → Q33.l0 k l x (l.length : Int) (i : Int) = some (firstM x (l.drop i) i)
  | 0, i, k, h, hk => by
    obtain ⟨k, rfl⟩ := succ_of (k := k) (by omega)
    simp only [Q33.l0]
    rw [if_neg (by omega), drop_end l i (by omega)]
    rfl
  | d + 1, i, k, h, hk => by
    obtain ⟨k, rfl⟩ := succ_of (k := k) (by omega)
    simp only [Q33.l0]
    rw [if_pos (by omega), if_pos (by omega), if_pos (by omega), wrap_succ (n := l.length) (by omega) hl, slices_Index_l0 x l hl d (i + 1) k (by omega) (by omega), drop_rd l i (by omega)]
    simp only [firstM]
    by_cases c : x = rd l (i : Int)
    · rw [if_pos c, if_pos c.symm]
    · rw [if_neg c, if_neg (fun h => c h.symm)]
theorem slices_Index_eq (k : Nat) (x : Int) (l : List Int) (hl : l.length ≤ 9223372036854775807) (hk : l.length < k) : Q33.f k l x = some (firstM x l 0) := by
  unfold Q33.f
  exact slices_Index_l0 x l hl l.length 0 k (by omega) hk
def worstM (L : List Int) : Int × Bool := if (L.any fun x => decide (x < 0)) = true then (0, false) else (L.foldl mx 0, true)
theorem slices_Reverse_l0 : ∀ (d i : Nat) (k : Nat) (x : List Int), x.length ≤ 1048576 → x.length - 2 * i = d → i ≤ x.length → d < k →
    ∃ r, Q14.l0 k x (i : Int) ((x.length : Int) - 1 - i) = some r ∧ r.length = x.length ∧ ∀ t, t < x.length → r[t]? = if i ≤ t ∧ t + i < x.length then x[x.length - 1 - t]? else x[t]? := by
  intro d
  induction d using Nat.strongRecOn with
  | _ d ihd =>
  intro i k x hx hd hi hk
  obtain ⟨k, rfl⟩ := succ_of (k := k) (by omega)
  by_cases c : 2 ≤ d
  · have hj : x.length - 1 - i < x.length := by omega
    have hrd : ∀ a : Nat, a < x.length → rd x (a : Int) = x[a]?.getD 0 := fun a _ => by unfold rd; simp [List.getD_eq_getElem?_getD]
    obtain ⟨y, hy⟩ : ∃ y, y = (x.set i (rd x ((x.length - 1 - i : Nat) : Int))).set (x.length - 1 - i) (rd x (i : Int)) := ⟨_, rfl⟩
    have hyl : y.length = x.length := by rw [hy]; simp
    obtain ⟨r, hr, hrl, hrt⟩ := ihd (d - 2) (by omega) (i + 1) k y (by omega) (by omega) (by omega) (by omega)
    refine ⟨r, ?_, by omega, fun t ht => ?_⟩
    · simp only [Q14.l0]
      have ej : (x.length : Int) - 1 - (i : Int) = ((x.length - 1 - i : Nat) : Int) := by omega
      rw [ej, if_pos (by omega), if_pos (by omega), if_pos (by omega), if_pos (by omega), if_pos (by omega), wrap64_id (by omega) (by omega), wrap64_id (by omega) (by omega), Int.toNat_natCast, Int.toNat_natCast, ← hy, show (i : Int) + 1 = ((i + 1 : Nat) : Int) by omega, show ((x.length - 1 - i : Nat) : Int) - 1 = (y.length : Int) - 1 - ((i + 1 : Nat) : Int) by omega]
      exact hr
    · rw [hrt t (by omega), hyl]
      have hg : ∀ a, a < x.length → y[a]? = if a = x.length - 1 - i then x[i]? else if a = i then x[x.length - 1 - i]? else x[a]? := by
        intro a ha
        rw [hy, List.getElem?_set, List.getElem?_set]
        by_cases c1 : x.length - 1 - i = a
        · rw [if_pos c1, if_pos c1.symm, if_pos (by simp; omega), hrd i (by omega), List.getElem?_eq_getElem (by omega)]; rfl
        · rw [if_neg c1, if_neg (show ¬ a = x.length - 1 - i from fun h => c1 h.symm)]
          by_cases c2 : i = a
          · rw [if_pos c2, if_pos c2.symm, if_pos (by omega), hrd _ (by omega), List.getElem?_eq_getElem (by omega)]; rfl
          · rw [if_neg c2, if_neg (show ¬ a = i from fun h => c2 h.symm)]
      by_cases c1 : i + 1 ≤ t ∧ t + (i + 1) < x.length
      · rw [if_pos c1, if_pos (by omega), hg _ (by omega), if_neg (by omega), if_neg (by omega)]
      · rw [if_neg c1, hg t ht]
        by_cases c2 : t = x.length - 1 - i
        · rw [if_pos c2, if_pos (by omega)]
          congr 1
          omega
        · rw [if_neg c2]
          by_cases c3 : t = i
          · rw [if_pos c3, if_pos (by omega)]
            congr 1
            omega
          · rw [if_neg c3, if_neg (by omega)]
  · refine ⟨x, ?_, rfl, fun t ht => ?_⟩
    · simp only [Q14.l0]
      rw [if_neg (by omega)]
    · by_cases c1 : i ≤ t ∧ t + i < x.length
      · rw [if_pos c1]
        congr 1
        omega
      · rw [if_neg c1]
theorem slices_Reverse_eq (k : Nat) (l : List Int) (hl : l.length ≤ 1048576) (hk : l.length < k) : Q14.f k l = some l.reverse := by
  unfold Q14.f
  obtain ⟨r, hr, hrl, hrt⟩ := slices_Reverse_l0 l.length 0 k l hl (by omega) (by omega) hk
  rw [wrap64_id (by omega) (by omega), show (0 : Int) = ((0 : Nat) : Int) from rfl, show (l.length : Int) - 1 = (l.length : Int) - 1 - ((0 : Nat) : Int) by omega, hr]
  congr 1
  apply List.ext_getElem?
  intro t
  by_cases c : t < l.length
  · rw [hrt t c, if_pos (by omega), List.getElem?_reverse c]
  · rw [List.getElem?_eq_none (by omega), List.getElem?_eq_none (by rw [List.length_reverse]; omega)]
theorem impl_copied_eq (l : List Int) (hl : l.length ≤ 1048576) : Q58.f l = some l := by
  unfold Q58.f
  rw [Option.bind_some, if_pos (by simp; omega)]
  rfl
theorem firstM_ge7 (x : Int) : ∀ (l : List Int) (i : Nat), 0 ≤ firstM x l i ↔ (l.any fun y => decide (y = x)) = true
  | [], i => by simp [firstM]
  | y :: t, i => by
    have ih := firstM_ge7 x t (i + 1)
    have e : firstM x (y :: t) i = if y = x then (i : Int) else firstM x t (i + 1) := rfl
    rw [e, List.any_cons]
    by_cases c : y = x
    · rw [if_pos c, decide_eq_true c]
      exact ⟨fun _ => rfl, fun _ => by omega⟩
    · rw [if_neg c, decide_eq_false c, Bool.false_or]
      exact ih
theorem slices_Contains_eq7 (k : Nat) (x : Int) (l : List Int) (hl : l.length ≤ 9223372036854775807) (hk : l.length < k) : Q53.f k l x = some (l.any fun y => decide (y = x)) := by
  unfold Q53.f
  rw [slices_Index_eq k x l hl hk, Option.bind_some]
  congr 1
  rw [Bool.eq_iff_iff, decide_eq_true_iff]
  exact firstM_ge7 x l 0
def byteL (l : List Int) : Prop := ∀ x ∈ l, 0 ≤ x ∧ x ≤ 255
theorem rd_in {l : List Int} {i : Int} (h0 : 0 ≤ i) (h1 : i < (l.length : Int)) : rd l i ∈ l := by
  unfold rd
  rw [List.getD_eq_getElem?_getD, List.getElem?_eq_getElem (show i.toNat < l.length by omega)]
  exact List.getElem_mem _
theorem u64_bd (x : Int) : 0 ≤ IntKind.u64.wrap x ∧ IntKind.u64.wrap x < 18446744073709551616 := by
  simp [IntKind.wrap, IntKind.bits, IntKind.signed]
  omega
theorem and255 (x : Int) (h0 : 0 ≤ x) (h1 : x < 18446744073709551616) : 0 ≤ Go.bits .and .u64 x 255 ∧ Go.bits .and .u64 x 255 ≤ 255 := by
  obtain ⟨n, rfl⟩ := Int.eq_ofNat_of_zero_le h0
  have h := bits_and_u64_nat n 255 (by omega) (by decide)
  rw [show ((255 : Nat) : Int) = 255 from rfl] at h
  rw [h]
  have h2 := Nat.and_le_right (n := n) (m := 255)
  omega
theorem next_ok (l : List Int) (hl : byteL l) (a b : Int) (h0 : 0 ≤ a) (h1 : a + 1 ≤ 4000000000000000000) : ∃ x b', Q49.f l a b = some (x, a + 1, b') ∧ 0 ≤ x ∧ x ≤ 255 := by
  unfold Q49.f
  have e : wrap64 (a + 1) = a + 1 := wrap64_id (by omega) (by omega)
  rw [e]
  by_cases c : a < (l.length : Int)
  · rw [if_pos c, if_pos h0, if_pos (by omega)]
    have hx := hl _ (rd_in h0 c)
    rw [wrap64_id (x := rd l a) (by omega) (by omega)]
    exact ⟨_, _, rfl, hx.1, hx.2⟩
  · rw [if_neg c, if_neg (by omega)]
    have hb := u64_bd (IntKind.u64.wrap (IntKind.u64.wrap (b * 6364136223846793005)) + 462197)
    generalize IntKind.u64.wrap (IntKind.u64.wrap (IntKind.u64.wrap (b * 6364136223846793005)) + 462197) = U at hb ⊢
    have h := and255 (U / 1099511627776) (by omega) (by omega)
    refine ⟨_, _, rfl, ?_⟩
    rw [wrap64_id (by omega) (by omega)]
    exact h
theorem pick_ok (l : List Int) (hl : byteL l) (a b n : Int) (h0 : 0 ≤ a) (h1 : a + 1 ≤ 4000000000000000000) (hn : n ≤ 200) : ∃ x a' b', Q18.f l a b n = some (x, a', b') ∧ (0 ≤ x ∧ x ≤ 200 ∧ (x < n ∨ x = 0)) ∧ a ≤ a' ∧ a' ≤ a + 1 := by
  unfold Q18.f
  by_cases c : n ≤ 1
  · rw [if_pos c]
    exact ⟨0, a, b, rfl, by omega, by omega, by omega⟩
  · obtain ⟨x, b', e, hx⟩ := next_ok l hl a b h0 h1
    rw [if_neg c, e, Option.bind_some, if_neg (by omega), if_neg (by omega)]
    have h3 := Int.tmod_nonneg n hx.1
    have h4 := Int.tmod_lt_of_pos x (show 0 < n by omega)
    have h5 : 0 ≤ Int.tmod x n ∧ Int.tmod x n ≤ 200 ∧ (Int.tmod x n < n ∨ Int.tmod x n = 0) := by omega
    exact ⟨_, _, _, rfl, h5, by show a ≤ a + 1; omega, by show a + 1 ≤ a + 1; omega⟩
theorem one_ok (l : List Int) (hl : byteL l) (a b n : Int) (h0 : 0 ≤ a) (h1 : a + 1 ≤ 4000000000000000000) (hn : n ≤ 200) : ∃ (x : Bool) (a' b' : Int), Q13.f l a b n = some (x, a', b') ∧ a ≤ a' ∧ a' ≤ a + 1 := by
  unfold Q13.f
  obtain ⟨x, a', b', e, _, h3⟩ := pick_ok l hl a b n h0 h1 hn
  rw [e]
  exact ⟨_, _, _, rfl, h3⟩
theorem among_ok (l : List Int) (hl : byteL l) (a b : Int) (xs : List Int) (h0 : 0 ≤ a) (h1 : a + 1 ≤ 4000000000000000000) (hx : 0 < xs.length) (hx2 : xs.length ≤ 200) : ∃ x a' b', Q12.f l a b xs = some (x, a', b') ∧ x ∈ xs ∧ a ≤ a' ∧ a' ≤ a + 1 := by
  unfold Q12.f
  obtain ⟨x, a', b', e, h2, h3⟩ := pick_ok l hl a b (xs.length : Int) h0 h1 (by omega)
  rw [e, Option.bind_some, if_pos h2.1, if_pos (by show x < _; omega)]
  exact ⟨_, _, _, rfl, rd_in h2.1 (by omega), h3⟩
theorem size_ok (l : List Int) (hl : byteL l) (a b : Int) (h0 : 0 ≤ a) (h1 : a + 2 ≤ 4000000000000000000) : ∃ x a' b', Q45.f l a b = some (x, a', b') ∧ (-1 ≤ x ∧ x ≤ 4611686018427387904) ∧ a ≤ a' ∧ a' ≤ a + 2 := by
  unfold Q45.f
  obtain ⟨x, a1, b1, e, h2⟩ := one_ok l hl a b 40 h0 (by omega) (by omega)
  rw [e, Option.bind_some]
  cases x with
  | true =>
    obtain ⟨y, a2, b2, e2, hy, h3⟩ := among_ok l hl a1 b1 [1, 2, 24, 25, 0, (-1), 4611686018427387904] (by omega) (by omega) (by simp) (by simp)
    rw [if_pos rfl, e2]
    exact ⟨_, _, _, rfl, by simp at hy; omega, by show a ≤ a2; omega, by show a2 ≤ _; omega⟩
  | false =>
    obtain ⟨y, a2, b2, e2, hy, h3⟩ := among_ok l hl a1 b1 [5, 6, 4, 8, 3, 10, 7, 13, 24, 2] (by omega) (by omega) (by simp) (by simp)
    rw [if_neg (by simp), e2]
    exact ⟨_, _, _, rfl, by simp at hy; omega, by show a ≤ a2; omega, by show a2 ≤ _; omega⟩
theorem ring_ok (l : List Int) (hl : byteL l) (a b : Int) (h0 : 0 ≤ a) (h1 : a + 3 ≤ 4000000000000000000) : ∃ (x : Int) (r : Bool) (a' b' : Int), Q43.f l a b = some (x, r, a', b') ∧ (-1 ≤ x ∧ x ≤ 4611686018427387904) ∧ a ≤ a' ∧ a' ≤ a + 3 := by
  unfold Q43.f
  obtain ⟨x, a1, b1, e, hx, h2⟩ := size_ok l hl a b h0 (by omega)
  rw [e, Option.bind_some]
  by_cases c : x = 2
  · obtain ⟨y, a2, b2, e2, h3⟩ := one_ok l hl a1 b1 4 (by omega) (by omega) (by omega)
    rw [if_pos c, e2, Option.bind_some]
    cases y with
    | true => exact ⟨_, _, _, _, if_pos rfl, hx, by show a ≤ a2; omega, by show a2 ≤ _; omega⟩
    | false => exact ⟨_, _, _, _, if_neg (by simp), by omega, by show a ≤ a2; omega, by show a2 ≤ _; omega⟩
  · rw [if_neg c]
    exact ⟨_, _, _, _, rfl, hx, by show a ≤ a1; omega, by show a1 ≤ _; omega⟩
theorem line_ok (l : List Int) (hl : byteL l) (a b : Int) (h0 : 0 ≤ a) (h1 : a + 2 ≤ 4000000000000000000) : ∃ (x : Int) (r : Bool) (a' b' : Int), Q44.f l a b = some (x, r, a', b') ∧ (-1 ≤ x ∧ x ≤ 4611686018427387904) ∧ a ≤ a' ∧ a' ≤ a + 2 := by
  unfold Q44.f
  obtain ⟨x, a1, b1, e, hx, h2⟩ := size_ok l hl a b h0 (by omega)
  rw [e]
  exact ⟨_, _, _, _, rfl, hx, h2⟩
theorem roadd_ok (l : List Int) (hl : byteL l) (a b : Int) (h0 : 0 ≤ a) (h1 : a + 4 ≤ 4000000000000000000) : ∃ (x : Int) (r : Bool) (a' b' : Int), Q42.f l a b = some (x, r, a', b') ∧ (-1 ≤ x ∧ x ≤ 4611686018427387904) ∧ a ≤ a' ∧ a' ≤ a + 4 := by
  unfold Q42.f
  obtain ⟨y, a1, b1, e, h2⟩ := one_ok l hl a b 2 h0 (by omega) (by omega)
  rw [e, Option.bind_some]
  cases y with
  | true =>
    obtain ⟨x, r, a2, b2, e2, hx, h3⟩ := line_ok l hl a1 b1 (by omega) (by omega)
    rw [if_pos rfl, e2]
    exact ⟨_, _, _, _, rfl, hx, by show a ≤ a2; omega, by show a2 ≤ _; omega⟩
  | false =>
    obtain ⟨x, r, a2, b2, e2, hx, h3⟩ := ring_ok l hl a1 b1 (by omega) (by omega)
    rw [if_neg (by simp), e2]
    exact ⟨_, _, _, _, rfl, hx, by show a ≤ a2; omega, by show a2 ≤ _; omega⟩
theorem placeOn_ok (l : List Int) (hl : byteL l) (a b s : Int) (r : Bool) (hs : -1 ≤ s ∧ s ≤ 4611686018427387904) (h0 : 0 ≤ a) (h1 : a + 2 ≤ 4000000000000000000) : ∃ x a' b', Q30.f l a b s r = some (x, a', b') ∧ (-2 ≤ x ∧ x ≤ 4611686018427387904) ∧ a ≤ a' ∧ a' ≤ a + 2 := by
  unfold Q30.f
  obtain ⟨y, a1, b1, e, h2⟩ := one_ok l hl a b 30 h0 (by omega) (by omega)
  rw [e, Option.bind_some]
  cases y with
  | true =>
    obtain ⟨x, a2, b2, e2, hx, h3⟩ := among_ok l hl a1 b1 [(-1), 0, s, wrap64 (s - 1), 4611686018427387904] (by omega) (by omega) (by simp) (by simp)
    rw [if_pos rfl, e2]
    rw [wrap64_id (x := s - 1) (by omega) (by omega)] at hx
    exact ⟨_, _, _, rfl, by simp at hx; omega, by show a ≤ a2; omega, by show a2 ≤ _; omega⟩
  | false =>
    rw [if_neg (by simp)]
    have e3 : ∃ m, Q27.f s 24 = some m ∧ m ≤ 24 := by
      unfold Q27.f
      by_cases c : s < 24
      · exact ⟨s, if_pos c, by omega⟩
      · exact ⟨24, if_neg c, by omega⟩
    obtain ⟨m, e3, hm⟩ := e3
    have e4 : ∃ n, Q28.f m 1 = some n ∧ n ≤ 24 := by
      unfold Q28.f
      by_cases c : m > 1
      · exact ⟨m, if_pos c, by omega⟩
      · exact ⟨1, if_neg c, by omega⟩
    obtain ⟨n, e4, hn⟩ := e4
    obtain ⟨x, a2, b2, e2, hx, h3⟩ := pick_ok l hl a1 b1 n (by omega) (by omega) (by omega)
    rw [e3, Option.bind_some, e4, Option.bind_some, e2]
    exact ⟨_, _, _, rfl, by show -2 ≤ x ∧ x ≤ _; omega, by show a ≤ a2; omega, by show a2 ≤ _; omega⟩
theorem walkFrom_j1 (k : Nat) (l : List Int) (hl : byteL l) (a b s : Int) (r : Bool) (w : List Int) (x : Bool) (hw : 1 ≤ w.length ∧ w.length ≤ 62) (h0 : 0 ≤ a) (h1 : a + 2 ≤ 4000000000000000000) (hk : 0 < k) : ∃ v a' b', Q2.j1 k w x l a b s r = some (v, a', b') ∧ (1 ≤ v.length ∧ v.length ≤ 62) ∧ a ≤ a' ∧ a' ≤ a + 2 := by
  obtain ⟨k, rfl⟩ := succ_of (k := k) hk
  simp only [Q2.j1]
  cases x with
  | true =>
    obtain ⟨i, a1, b1, e1, hi, h2⟩ := pick_ok l hl a b (w.length : Int) h0 (by omega) (by omega)
    obtain ⟨y, a2, b2, e2, hy, h3⟩ := among_ok l hl a1 b1 [(-1), s, 0] (by omega) (by omega) (by simp) (by simp)
    rw [if_pos rfl, e1, Option.bind_some, e2, Option.bind_some, if_pos hi.1, if_pos (by show i < _; omega)]
    exact ⟨_, _, _, rfl, by simp only [List.length_set]; exact hw, by show a ≤ a2; omega, by show a2 ≤ _; omega⟩
  | false =>
    rw [if_neg (by simp)]
    exact ⟨_, _, _, rfl, hw, by omega, by omega⟩
theorem walkFrom_l0 (l : List Int) (hl : byteL l) (s : Int) (r : Bool) (hr : road s r = true) (n : Int) (hn : n ≤ 62) : ∀ (d k : Nat) (w : List Int) (x a b : Int), (1 ≤ w.length ∧ w.length ≤ 62) → allIn w 0 (s - 1) = true → (x = 1 ∨ x = -1) → n ≤ (w.length : Int) + d → d + 3 < k → 0 ≤ a → a + d + 3 ≤ 4000000000000000000 →
    ∃ v a' b', Q2.l0 k n w x l a b s r = some (v, a', b') ∧ (1 ≤ v.length ∧ v.length ≤ 62) ∧ a ≤ a' ∧ a' ≤ a + d + 3
  | 0, k, w, x, a, b, hw, hi, hx, hd, hk, h0, h1 => by
    obtain ⟨k, rfl⟩ := succ_of (k := k) (by omega)
    simp only [Q2.l0]
    rw [if_neg (by omega)]
    by_cases c : n > 1
    · obtain ⟨y, a1, b1, e1, h2⟩ := one_ok l hl a b 40 h0 (by omega) (by omega)
      obtain ⟨v, a2, b2, e2, hv, h3⟩ := walkFrom_j1 k l hl a1 b1 s r w y hw (by omega) (by omega) (by omega)
      rw [if_pos c, e1, Option.bind_some, e2]
      exact ⟨_, _, _, rfl, hv, by omega, by omega⟩
    · obtain ⟨v, a2, b2, e2, hv, h3⟩ := walkFrom_j1 k l hl a b s r w false hw (by omega) (by omega) (by omega)
      rw [if_neg c, e2]
      exact ⟨_, _, _, rfl, hv, by omega, by omega⟩
  | d + 1, k, w, x, a, b, hw, hi, hx, hd, hk, h0, h1 => by
    by_cases c0 : (w.length : Int) < n
    · obtain ⟨k, rfl⟩ := succ_of (k := k) (by omega)
      have hb := road_bd hr
      have hlast := rd_bd hi (w.length - 1) (by omega)
      have ew : wrap64 ((w.length : Int) - 1) = ((w.length - 1 : Nat) : Int) := by rw [wrap64_id (by omega) (by omega)]; omega
      have en : wrap64 (-x) = -x := wrap64_id (by omega) (by omega)
      have en2 : wrap64 (- -x) = x := by rw [Int.neg_neg]; exact wrap64_id (by omega) (by omega)
      obtain ⟨y, a1, b1, e1, hy, h2⟩ := pick_ok l hl a b 8 h0 (by omega) (by omega)
      have app : ∀ z, 0 ≤ z ∧ z ≤ s - 1 → ∀ x', (x' = 1 ∨ x' = -1) → ∃ v a' b', Q2.l0 k n (w ++ [z]) x' l a1 b1 s r = some (v, a', b') ∧ (1 ≤ v.length ∧ v.length ≤ 62) ∧ a ≤ a' ∧ a' ≤ a + ((d + 1 : Nat) : Int) + 3 := by
        intro z hz x' hx'
        obtain ⟨v, a', b', e, hv, h3⟩ := walkFrom_l0 l hl s r hr n hn d k (w ++ [z]) x' a1 b1 (by simp; omega) (by
          unfold allIn at hi ⊢
          rw [List.all_append, hi]
          simpa using inR_iff.2 hz) hx' (by simp; omega) (by omega) (by omega) (by omega)
        exact ⟨v, a', b', e, hv, by omega, by omega⟩
      have stp : ∀ z, (z = 1 ∨ z = -1) → Q35.f s r (rd w ((w.length - 1 : Nat) : Int)) z = some (stepW s r (rd w ((w.length - 1 : Nat) : Int)) z) ∧ 0 ≤ stepW s r (rd w ((w.length - 1 : Nat) : Int)) z ∧ stepW s r (rd w ((w.length - 1 : Nat) : Int)) z ≤ s - 1 := fun z hz =>
        ⟨spec_l2Step_eq s r _ z ⟨hb.1, hb.2.1⟩ hlast (by omega), stepW_bd hb.1 hlast (by omega)⟩
      simp only [Q2.l0]
      rw [if_pos c0, e1, Option.bind_some]
      simp only [ew, en, en2]
      by_cases c1 : y = 0
      · have hst := stp (-x) (by omega)
        rw [if_pos c1, if_pos (by omega), if_pos (by omega), hst.1, Option.bind_some]
        by_cases c2 : stepW s r (rd w ((w.length - 1 : Nat) : Int)) (-x) = rd w ((w.length - 1 : Nat) : Int)
        · rw [if_pos c2, if_pos (by omega)]
          exact app _ hst.2 _ (by omega)
        · rw [if_neg c2, if_pos (by omega)]
          exact app _ hst.2 _ (by omega)
      · rw [if_neg c1]
        by_cases c2 : y = 1
        · rw [if_pos c2, if_pos (by omega), if_pos (by omega), if_pos (by omega)]
          exact app _ hlast _ hx
        · have hst := stp x hx
          rw [if_neg c2, if_pos (by omega), if_pos (by omega), hst.1, Option.bind_some]
          by_cases c3 : stepW s r (rd w ((w.length - 1 : Nat) : Int)) x = rd w ((w.length - 1 : Nat) : Int)
          · rw [if_pos c3, if_pos (by omega)]
            exact app _ hst.2 _ (by omega)
          · rw [if_neg c3, if_pos (by omega)]
            exact app _ hst.2 _ hx
    · obtain ⟨v, a', b', e, hv, h3⟩ := walkFrom_l0 l hl s r hr n hn d k w x a b hw hi hx (by omega) (by omega) h0 (by omega)
      exact ⟨v, a', b', e, hv, by omega, by omega⟩
theorem walkFrom_ok (k : Nat) (l : List Int) (hl : byteL l) (a b s : Int) (r : Bool) (p n : Int) (hn : n ≤ 62) (h0 : 0 ≤ a) (h1 : a + 70 ≤ 4000000000000000000) (hk : 70 < k) : ∃ v a' b', Q2.f k l a b s r p n = some (v, a', b') ∧ (1 ≤ v.length ∧ v.length ≤ 62) ∧ a ≤ a' ∧ a' ≤ a + 70 := by
  unfold Q2.f
  rw [Option.bind_some, spec_l2Place_eq, Option.bind_some]
  by_cases c : (road s r && inR p 0 (s - 1)) = true
  · rw [if_pos c]
    rw [Bool.and_eq_true] at c
    obtain ⟨v, a', b', e, hv, h3⟩ := walkFrom_l0 l hl s r c.1 n hn 62 k [p] 1 a b (by simp) (by unfold allIn; simpa using c.2) (.inl rfl) (by simp; omega) (by omega) h0 (by omega)
    exact ⟨v, a', b', e, hv, by omega, by omega⟩
  · rw [if_neg c]
    exact ⟨_, _, _, rfl, by simp, by omega, by omega⟩
theorem walkd_ok (k : Nat) (l : List Int) (hl : byteL l) (a b s : Int) (r : Bool) (hs : -1 ≤ s ∧ s ≤ 4611686018427387904) (h0 : 0 ≤ a) (h1 : a + 73 ≤ 4000000000000000000) (hk : 70 < k) : ∃ v a' b', Q10.f k l a b s r = some (v, a', b') ∧ (1 ≤ v.length ∧ v.length ≤ 62) ∧ a ≤ a' ∧ a' ≤ a + 73 := by
  unfold Q10.f
  obtain ⟨p, a1, b1, e1, _, h2⟩ := placeOn_ok l hl a b s r hs h0 (by omega)
  obtain ⟨n, a2, b2, e2, hn, h3⟩ := among_ok l hl a1 b1 [6, 10, 4, 16, 1, 2, 30, 61, 62, 25] (by omega) (by omega) (by simp) (by simp)
  obtain ⟨v, a3, b3, e3, hv, h4⟩ := walkFrom_ok k l hl a2 b2 s r p n (by simp at hn; omega) (by omega) (by omega) hk
  rw [e1, Option.bind_some, e2, Option.bind_some, e3]
  exact ⟨_, _, _, rfl, hv, by show a ≤ a3; omega, by show a3 ≤ _; omega⟩
theorem laws_rInts_l0 (l : List Int) (hl : l.length ≤ 9223372036854775807) : ∀ (d i k : Nat), i + d = l.length → d < k → Q6.l0 k l l (i : Int) = some true
  | 0, i, k, h, hk => by
    obtain ⟨k, rfl⟩ := succ_of (k := k) (by omega)
    simp only [Q6.l0]
    rw [if_neg (by omega)]
  | d + 1, i, k, h, hk => by
    obtain ⟨k, rfl⟩ := succ_of (k := k) (by omega)
    simp only [Q6.l0]
    rw [if_pos (by omega), if_pos (by omega), if_pos (by omega), if_pos trivial, wrap_succ (n := l.length) (by omega) hl]
    exact laws_rInts_l0 l hl d (i + 1) k (by omega) (by omega)
theorem laws_rInts_self (k : Nat) (l : List Int) (hl : l.length ≤ 9223372036854775807) (hk : l.length < k) : Q6.f k l l = some true := by
  unfold Q6.f
  rw [if_pos rfl]
  have := laws_rInts_l0 l hl l.length 0 k (by omega) hk
  simpa using this
def visitsM (w : List Int) (n : Nat) : List Int := (List.range n).map fun (i : Nat) => firstM (i : Int) w 0
theorem visitsM_snoc (w : List Int) (n : Nat) : visitsM w (n + 1) = visitsM w n ++ [firstM (n : Int) w 0] := by unfold visitsM; rw [List.range_succ]; simp
theorem visitsM_len (w : List Int) (n : Nat) : (visitsM w n).length = n := by simp [visitsM]
theorem visitsM_rd (w : List Int) (n i : Nat) (h : i < n) : rd (visitsM w n) (i : Int) = firstM (i : Int) w 0 := by
  unfold rd visitsM
  rw [Int.toNat_natCast, List.getD_eq_getElem?_getD, List.getElem?_map, List.getElem?_range h]
  rfl
theorem impl_Road_firstVisits_l0 (w : List Int) (hw : w.length ≤ 1000) (n : Nat) (hn : n ≤ 1000) : ∀ (d i k : Nat), i + d = n → d + 1100 < k → Q17.l0 k w (visitsM w i) (n : Int) (i : Int) = some (visitsM w n)
  | 0, i, k, h, hk => by
    obtain ⟨k, rfl⟩ := succ_of (k := k) (by omega)
    simp only [Q17.l0]
    rw [if_neg (by omega), show i = n by omega]
  | d + 1, i, k, h, hk => by
    obtain ⟨k, rfl⟩ := succ_of (k := k) (by omega)
    simp only [Q17.l0]
    rw [if_pos (by omega), slices_Index_eq k _ w (by omega) (by omega), Option.bind_some, visitsM_len, if_pos (by omega), wrap_succ (n := n) (by omega) (by omega), ← visitsM_snoc]
    exact impl_Road_firstVisits_l0 w hw n hn d (i + 1) k (by omega) (by omega)
theorem impl_Road_firstVisits_eq (k : Nat) (s : Int) (r : Bool) (hs : 0 ≤ s ∧ s ≤ 1000) (w : List Int) (hw : w.length ≤ 1000) (hk : 2200 < k) : Q17.f k s r w = some (visitsM w s.toNat) := by
  unfold Q17.f
  have := impl_Road_firstVisits_l0 w hw s.toNat (by omega) s.toNat 0 k (by omega) (by omega)
  rw [Int.toNat_of_nonneg hs.1] at this
  simpa [visitsM] using this
theorem impl_FirstVisits_eq (k : Nat) (s : Int) (r : Bool) (w : List Int) (hr : road s r = true) (hw : walkOkM s r w = true) (hl : w.length ≤ 1000) (hk : 2200 < k) : Q21.f k s r w = some (visitsM w s.toNat, true) := by
  have hb := road_bd hr
  unfold Q21.f
  rw [impl_areWalks_eq k s r [w] (by intro x hx; rw [List.mem_singleton.1 hx]; omega) (by omega), Option.bind_some, hr, List.all_cons, hw, if_pos (by simp), impl_Road_firstVisits_eq k s r (by omega) w hl hk]
  rfl
theorem firstM_m1 (x : Int) (w : List Int) : firstM x w 0 < 0 ↔ firstM x w 0 = -1 := by
  have := firstM_bd x w 0
  omega
theorem impl_CoverTime_eq (k : Nat) (s : Int) (r : Bool) (w : List Int) (hr : road s r = true) (hw : walkOkM s r w = true) (hl : w.length ≤ 1000) (hk : 2200 < k) : Q47.f k s r w = some (worstM (visitsM w s.toNat)) := by
  have hb := road_bd hr
  unfold Q47.f
  rw [impl_areWalks_eq k s r [w] (by intro x hx; rw [List.mem_singleton.1 hx]; omega) (by omega), Option.bind_some, hr, List.all_cons, hw, if_pos (by simp), impl_Road_firstVisits_eq k s r (by omega) w hl hk, Option.bind_some, slices_Contains_eq7 k _ _ (by rw [visitsM_len]; omega) (by rw [visitsM_len]; omega), Option.bind_some]
  have e : ((visitsM w s.toNat).any fun y => decide (y = -1)) = ((visitsM w s.toNat).any fun y => decide (y < 0)) := by
    unfold visitsM
    rw [List.any_map, List.any_map]
    congr 1
    funext i
    simp only [Function.comp]
    rw [decide_eq_decide]
    exact (firstM_m1 _ _).symm
  rw [e]
  unfold worstM
  cases c : (visitsM w s.toNat).any fun y => decide (y < 0) with
  | true => rw [if_pos rfl, if_pos rfl]
  | false =>
    rw [if_neg (by simp), if_neg (by simp)]
    have h0 : 0 < (visitsM w s.toNat).length := by rw [visitsM_len]; omega
    have hm : Q48.f k (visitsM w s.toNat) = some ((visitsM w s.toNat).foldl mx 0) := by
      unfold Q48.f
      rw [if_pos (by omega)]
      congr 1
      revert c h0
      cases visitsM w s.toNat with
      | nil => intro c h0; simp at h0
      | cons x t =>
        intro c h0
        simp only [List.any_cons, Bool.or_eq_false_iff, decide_eq_false_iff_not] at c
        have e2 : mx 0 x = x := by unfold mx; split <;> omega
        simp only [List.foldl_cons, e2, List.drop_succ_cons, List.drop_zero]
        rfl
    rw [hm]
    rfl
theorem rd_nat (l : List Int) (i : Nat) (h : i < l.length) : rd l (i : Int) = l[i] := by
  unfold rd
  simp [List.getD_eq_getElem?_getD, h]
theorem mx_max (a b : Int) : mx a b = max a b := by unfold mx; split <;> omega
theorem mn_min (a b : Int) : mn a b = min a b := by unfold mn; split <;> omega
def stepsN : List Int → Int
  | a :: b :: t => (if b = a then 0 else 1) + stepsN (b :: t)
  | _ => 0
theorem drop2 (l : List Int) (i : Nat) (h1 : 1 ≤ i) (h : i < l.length) : l.drop (i - 1) = rd l ((i : Int) - 1) :: rd l (i : Int) :: l.drop (i + 1) := by
  obtain ⟨j, rfl⟩ : ∃ j, i = j + 1 := ⟨i - 1, by omega⟩
  rw [show j + 1 - 1 = j from rfl, drop_rd l j (by omega), drop_rd l (j + 1) h, show ((j + 1 : Nat) : Int) - 1 = (j : Int) by omega]
theorem drop1 (l : List Int) (i : Nat) (h1 : 1 ≤ i) (h : l.length ≤ i) : (l.drop (i - 1)).length ≤ 1 := by
  rw [List.length_drop]
  omega
theorem stepsN_short {l : List Int} (h : l.length ≤ 1) : stepsN l = 0 := by
  match l with
  | [] => rfl
  | [a] => rfl
  | a :: b :: t => simp at h
theorem step_at (l : List Int) (i : Nat) (h1 : 1 ≤ i) (h : i < l.length) : stepsN (l.drop (i - 1)) = (if rd l (i : Int) = rd l ((i : Int) - 1) then 0 else 1) + stepsN (l.drop (i + 1 - 1)) := by
  rw [drop2 l i h1 h, show i + 1 - 1 = i by omega, drop_rd l i h]
  rfl
theorem impl_StepCount_l0 (l : List Int) (hl : l.length ≤ 1000) : ∀ (d i k : Nat) (c : Int), i + d = l.length → 1 ≤ i → 0 ≤ c ∧ c ≤ i → d < k → Q15.l0 k l c (i : Int) = some (c + stepsN (l.drop (i - 1)), true)
  | 0, i, k, c, h, h1, hc, hk => by
    obtain ⟨k, rfl⟩ := succ_of (k := k) (by omega)
    simp only [Q15.l0]
    rw [if_neg (by omega), stepsN_short (drop1 l i h1 (by omega)), Int.add_zero]
  | d + 1, i, k, c, h, h1, hc, hk => by
    obtain ⟨k, rfl⟩ := succ_of (k := k) (by omega)
    simp only [Q15.l0]
    rw [if_pos (by omega), if_pos (by omega), wrap64_id (x := (i : Int) - 1) (by omega) (by omega), if_pos (by omega), if_pos (by omega), wrap_succ (n := 1001) (by omega) (by omega), step_at l i h1 (by omega)]
    by_cases e : rd l (i : Int) = rd l ((i : Int) - 1)
    · rw [if_pos e, if_pos e, impl_StepCount_l0 l hl d (i + 1) k c (by omega) (by omega) (by omega) (by omega), Int.zero_add]
    · rw [if_neg e, if_neg e, wrap64_id (x := c + 1) (by omega) (by omega), impl_StepCount_l0 l hl d (i + 1) k (c + 1) (by omega) (by omega) (by omega) (by omega), Int.add_assoc]
theorem spec_StepCount_l0 (l : List Int) (hl : l.length ≤ 1000) : ∀ (d i k : Nat) (c : Int), i + d = l.length → 1 ≤ i → 0 ≤ c ∧ c ≤ i → d < k → Q20.l0 k l c (i : Int) = some (c + stepsN (l.drop (i - 1)), true)
  | 0, i, k, c, h, h1, hc, hk => by
    obtain ⟨k, rfl⟩ := succ_of (k := k) (by omega)
    simp only [Q20.l0]
    rw [if_neg (by omega), stepsN_short (drop1 l i h1 (by omega)), Int.add_zero]
  | d + 1, i, k, c, h, h1, hc, hk => by
    obtain ⟨k, rfl⟩ := succ_of (k := k) (by omega)
    simp only [Q20.l0]
    rw [if_pos (by omega), if_pos (by omega), wrap64_id (x := (i : Int) - 1) (by omega) (by omega), if_pos (by omega), if_pos (by omega), wrap_succ (n := 1001) (by omega) (by omega), step_at l i h1 (by omega)]
    by_cases e : rd l (i : Int) = rd l ((i : Int) - 1)
    · rw [if_pos e, if_pos e, spec_StepCount_l0 l hl d (i + 1) k c (by omega) (by omega) (by omega) (by omega), Int.zero_add]
    · rw [if_neg e, if_neg e, wrap64_id (x := c + 1) (by omega) (by omega), spec_StepCount_l0 l hl d (i + 1) k (c + 1) (by omega) (by omega) (by omega) (by omega), Int.add_assoc]
def okW (s : Int) (r : Bool) (w : List Int) : Bool := road s r && walkOkM s r w
theorem okW_bd {s : Int} {r : Bool} {w : List Int} (h : okW s r w = true) : road s r = true ∧ walkOkM s r w = true ∧ (1 ≤ w.length ∧ w.length ≤ 61) ∧ allIn w 0 (s - 1) = true ∧ chnM s r w 1 (w.length - 1) = true := by
  unfold okW at h
  rw [Bool.and_eq_true] at h
  have h2 := h.2
  unfold walkOkM at h2
  rw [Bool.and_eq_true, Bool.and_eq_true, inR_iff] at h2
  exact ⟨h.1, h.2, by omega, h2.1.2, h2.2⟩
theorem areW (k : Nat) (s : Int) (r : Bool) (w : List Int) (hl : w.length ≤ 1000) (hk : 1100 < k) : Q4.f k s r [w] = some (okW s r w) := by
  rw [impl_areWalks_eq k s r [w] (fun x hx => by rw [List.mem_singleton.1 hx]; omega) (by omega)]
  simp [okW]
theorem specW (k : Nat) (s : Int) (r : Bool) (w : List Int) (hl : w.length ≤ 1000) (hk : 1100 < k) : Q1.f k s r w = some (okW s r w) := spec_l2Walk_eq k s r w (by omega) (by omega)
def stepsM (s : Int) (r : Bool) (w : List Int) : Int × Bool := if okW s r w = true then (stepsN w, true) else (0, false)
theorem impl_StepCount_eq (k : Nat) (s : Int) (r : Bool) (w : List Int) (hl : w.length ≤ 1000) (hk : 2000 < k) : Q15.f k s r w = some (stepsM s r w) := by
  unfold Q15.f stepsM
  rw [areW k s r w hl (by omega), Option.bind_some]
  cases h : okW s r w with
  | false => simp
  | true =>
    have hb := okW_bd h
    have := impl_StepCount_l0 w hl (w.length - 1) 1 k 0 (by omega) (by omega) (by omega) (by omega)
    rw [if_pos rfl, if_pos rfl]
    simpa using this
theorem spec_StepCount_eq (k : Nat) (s : Int) (r : Bool) (w : List Int) (hl : w.length ≤ 1000) (hk : 2000 < k) : Q20.f k s r w = some (stepsM s r w) := by
  unfold Q20.f stepsM
  rw [specW k s r w hl (by omega), Option.bind_some]
  cases h : okW s r w with
  | false => simp
  | true =>
    have hb := okW_bd h
    have := spec_StepCount_l0 w hl (w.length - 1) 1 k 0 (by omega) (by omega) (by omega) (by omega)
    rw [if_pos rfl, if_pos rfl]
    simpa using this
theorem stepsN_snoc (a b : Int) : ∀ l : List Int, stepsN (l ++ [a, b]) = stepsN (l ++ [a]) + (if b = a then 0 else 1)
  | [] => by simp [stepsN]
  | [x] => by
    show (if a = x then 0 else 1) + ((if b = a then 0 else 1) + (0 : Int)) = ((if a = x then 0 else 1) + (0 : Int)) + (if b = a then 0 else 1)
    omega
  | x :: y :: t => by
    have := stepsN_snoc a b (y :: t)
    show (if y = x then 0 else 1) + stepsN ((y :: t) ++ [a, b]) = ((if y = x then 0 else 1) + stepsN ((y :: t) ++ [a])) + _
    rw [this]
    omega
theorem stepsN_rev : ∀ l : List Int, stepsN l.reverse = stepsN l
  | [] => rfl
  | [a] => rfl
  | a :: b :: t => by
    have ih := stepsN_rev (b :: t)
    rw [List.reverse_cons] at ih
    rw [List.reverse_cons, List.reverse_cons, List.append_assoc]
    show stepsN (t.reverse ++ [b, a]) = (if b = a then 0 else 1) + stepsN (b :: t)
    rw [stepsN_snoc, ih]
    by_cases c : b = a
    · rw [if_pos c, if_pos c.symm]; omega
    · rw [if_neg c, if_neg (fun e => c e.symm)]; omega
/-- The direction of a step. -/
def wayD (s : Int) (r : Bool) (a b : Int) : Int := if a = b then 0 else if b = a + 1 ∨ (r = true ∧ a = s - 1 ∧ b = 0) then 1 else -1
theorem wayD_or (s : Int) (r : Bool) (a b : Int) : wayD s r a b = 0 ∨ wayD s r a b = 1 ∨ wayD s r a b = -1 := by
  unfold wayD
  split
  · exact .inl rfl
  · split
    · exact .inr (.inl rfl)
    · exact .inr (.inr rfl)
theorem impl_way_eq (s : Int) (r : Bool) (a b : Int) (hs : 2 ≤ s ∧ s ≤ 24) (ha : 0 ≤ a ∧ a ≤ s - 1) (hb : 0 ≤ b ∧ b ≤ s - 1) : Q52.f s r a b = some (wayD s r a b) := by
  unfold Q52.f wayD
  rw [wrap64_id (x := a + 1) (by omega) (by omega), wrap64_id (x := s - 1) (by omega) (by omega)]
  by_cases c : a = b
  · rw [if_pos c, if_pos c]
  · rw [if_neg c, if_neg c]
    by_cases c2 : b = a + 1
    · rw [if_pos c2, if_pos (.inl c2)]
    · rw [if_neg c2]
      cases r with
      | true =>
        rw [if_pos rfl]
        by_cases c3 : a = s - 1
        · rw [if_pos c3]
          by_cases c4 : b = 0
          · rw [if_pos c4, if_pos (.inr ⟨rfl, c3, c4⟩)]
          · rw [if_neg c4, if_neg (by rintro (h | h); exact c2 h; exact c4 h.2.2)]
        · rw [if_neg c3, if_neg (by rintro (h | h); exact c2 h; exact c3 h.2.1)]
      | false => rw [if_neg (by simp), if_neg (by rintro (h | h); exact c2 h; exact absurd h.1 (by simp))]
theorem up_mod {s x : Int} (hs : 0 < s) (h0 : 0 ≤ x) (h1 : x < 2 * s) : Int.tmod x s = if x < s then x else x - s := by
  rw [Int.tmod_eq_emod_of_nonneg h0]
  split
  · exact Int.emod_eq_of_lt h0 (by omega)
  · rw [show x = (x - s) + s by omega, Int.add_emod_right, Int.emod_eq_of_lt (by omega) (by omega)]
    omega
theorem stepW_one (s : Int) (r : Bool) (a : Int) (hs : 2 ≤ s ∧ s ≤ 24) (ha : 0 ≤ a ∧ a ≤ s - 1) : stepW s r a 1 = if a = s - 1 then (if r = true then 0 else a) else a + 1 := by
  unfold stepW
  cases r with
  | true =>
    rw [if_pos rfl, Int.tmod_eq_emod_of_nonneg (by omega), Int.add_emod_right, ← Int.tmod_eq_emod_of_nonneg (by omega), up_mod (by omega) (by omega) (by omega)]
    by_cases c : a = s - 1
    · rw [if_neg (by omega), if_pos c, if_pos rfl]; omega
    · rw [if_pos (by omega), if_neg c]
  | false =>
    rw [if_neg (by simp)]
    by_cases c : a = s - 1
    · rw [if_neg (by rw [inR_iff]; omega), if_pos c, if_neg (by simp)]
    · rw [if_pos (by rw [inR_iff]; omega), if_neg c]
theorem spec_way_eq (s : Int) (r : Bool) (a b : Int) (hs : 2 ≤ s ∧ s ≤ 24) (ha : 0 ≤ a ∧ a ≤ s - 1) (hb : 0 ≤ b ∧ b ≤ s - 1) : Q57.f s r a b = some (wayD s r a b) := by
  unfold Q57.f wayD
  by_cases c : b = a
  · rw [if_pos c, if_pos c.symm]
  · rw [if_neg c, if_neg (fun e => c e.symm), spec_l2Step_eq s r a 1 hs ha (by omega), Option.bind_some, stepW_one s r a hs ha]
    by_cases c2 : a = s - 1
    · rw [if_pos c2]
      cases r with
      | true =>
        rw [if_pos rfl]
        by_cases c3 : b = 0
        · rw [if_pos c3, if_pos (.inr ⟨rfl, c2, c3⟩)]
        · rw [if_neg c3, if_neg (by rintro (h | h); omega; exact c3 h.2.2)]
      | false => rw [show (if (false : Bool) = true then (0 : Int) else a) = a from rfl, if_neg c, if_neg (by rintro (h | h); omega; exact absurd h.1 (by simp))]
    · rw [if_neg c2]
      by_cases c3 : b = a + 1
      · rw [if_pos c3, if_pos (.inl c3)]
      · rw [if_neg c3, if_neg (by rintro (h | h); exact c3 h; exact c2 h.2.1)]
def turnsN (s : Int) (r : Bool) : List Int → Int → Int → List Int
  | a :: b :: t, last, i => if wayD s r a b = 0 then turnsN s r (b :: t) last (i + 1) else if last = 0 ∨ wayD s r a b = last then turnsN s r (b :: t) (wayD s r a b) (i + 1) else i :: turnsN s r (b :: t) (wayD s r a b) (i + 1)
  | _, _, _ => []
theorem turnsN_short (s : Int) (r : Bool) {l : List Int} (h : l.length ≤ 1) (last i : Int) : turnsN s r l last i = [] := by
  match l with
  | [] => rfl
  | [a] => rfl
  | a :: b :: t => simp at h
theorem turnsN_len (s : Int) (r : Bool) : ∀ (l : List Int) (last i : Int), (turnsN s r l last i).length ≤ l.length
  | [], _, _ => by simp [turnsN]
  | [a], _, _ => by simp [turnsN]
  | a :: b :: t, last, i => by
    have h := turnsN_len s r (b :: t)
    have h1 := h last (i + 1)
    have h2 := h (wayD s r a b) (i + 1)
    rw [List.length_cons] at h1 h2
    unfold turnsN
    rw [List.length_cons, List.length_cons]
    split
    · omega
    · split
      · omega
      · rw [List.length_cons]; omega
theorem turn_at (s : Int) (r : Bool) (l : List Int) (i : Nat) (h1 : 1 ≤ i) (h : i < l.length) (last : Int) : turnsN s r (l.drop (i - 1)) last ((i : Int) - 1) = if wayD s r (rd l ((i : Int) - 1)) (rd l (i : Int)) = 0 then turnsN s r (l.drop (i + 1 - 1)) last (((i + 1 : Nat) : Int) - 1) else if last = 0 ∨ wayD s r (rd l ((i : Int) - 1)) (rd l (i : Int)) = last then turnsN s r (l.drop (i + 1 - 1)) (wayD s r (rd l ((i : Int) - 1)) (rd l (i : Int))) (((i + 1 : Nat) : Int) - 1) else ((i : Int) - 1) :: turnsN s r (l.drop (i + 1 - 1)) (wayD s r (rd l ((i : Int) - 1)) (rd l (i : Int))) (((i + 1 : Nat) : Int) - 1) := by
  rw [drop2 l i h1 h, show i + 1 - 1 = i by omega, drop_rd l i h, show ((i + 1 : Nat) : Int) - 1 = (i : Int) - 1 + 1 by omega]
  rfl
theorem impl_TurnTimes_l0 (s : Int) (r : Bool) (hs : 2 ≤ s ∧ s ≤ 24) (l : List Int) (hl : l.length ≤ 1000) (ha : allIn l 0 (s - 1) = true) : ∀ (d i k : Nat) (last : Int) (out : List Int), i + d = l.length → 1 ≤ i → out.length ≤ i → d < k → Q3.l0 k l out last (i : Int) s r = some (out ++ turnsN s r (l.drop (i - 1)) last ((i : Int) - 1), true)
  | 0, i, k, last, out, h, h1, ho, hk => by
    obtain ⟨k, rfl⟩ := succ_of (k := k) (by omega)
    simp only [Q3.l0]
    rw [if_neg (by omega), turnsN_short s r (drop1 l i h1 (by omega)), List.append_nil]
  | d + 1, i, k, last, out, h, h1, ho, hk => by
    obtain ⟨k, rfl⟩ := succ_of (k := k) (by omega)
    have hp := allIn_rdZ ha (i := (i : Int) - 1) (by omega) (by omega)
    have hq := allIn_rdZ ha (i := (i : Int)) (by omega) (by omega)
    simp only [Q3.l0]
    rw [if_pos (by omega), wrap64_id (x := (i : Int) - 1) (by omega) (by omega), if_pos (by omega), if_pos (by omega), if_pos (by omega), impl_way_eq s r _ _ hs hp hq, Option.bind_some, wrap_succ (n := 1001) (by omega) (by omega), turn_at s r l i h1 (by omega) last]
    have ih := fun la o ho => impl_TurnTimes_l0 s r hs l hl ha d (i + 1) k la o (by omega) (by omega) ho (by omega)
    by_cases c : wayD s r (rd l ((i : Int) - 1)) (rd l (i : Int)) = 0
    · rw [if_pos c, if_pos c, ih _ _ (by omega)]
    · rw [if_neg c, if_neg c]
      by_cases c2 : last = 0
      · rw [if_pos c2, if_pos (.inl c2), ih _ _ (by omega)]
      · rw [if_neg c2]
        by_cases c3 : wayD s r (rd l ((i : Int) - 1)) (rd l (i : Int)) = last
        · rw [if_pos c3, if_pos (.inr c3), ih _ _ (by omega)]
        · rw [if_neg c3, if_pos (by omega), if_neg (by rintro (e | e); exact c2 e; exact c3 e), ih _ _ (by rw [List.length_append, List.length_singleton]; omega), List.append_assoc]
          rfl
theorem spec_TurnTimes_l0 (s : Int) (r : Bool) (hs : 2 ≤ s ∧ s ≤ 24) (l : List Int) (hl : l.length ≤ 1000) (ha : allIn l 0 (s - 1) = true) : ∀ (d i k : Nat) (last : Int) (out : List Int), i + d = l.length → 1 ≤ i → out.length ≤ i → (last = 0 ∨ last = 1 ∨ last = -1) → d < k → Q9.l0 k l out last (i : Int) s r = some (out ++ turnsN s r (l.drop (i - 1)) last ((i : Int) - 1), true)
  | 0, i, k, last, out, h, h1, ho, hla, hk => by
    obtain ⟨k, rfl⟩ := succ_of (k := k) (by omega)
    simp only [Q9.l0]
    rw [if_neg (by omega), turnsN_short s r (drop1 l i h1 (by omega)), List.append_nil]
  | d + 1, i, k, last, out, h, h1, ho, hla, hk => by
    obtain ⟨k, rfl⟩ := succ_of (k := k) (by omega)
    have hp := allIn_rdZ ha (i := (i : Int) - 1) (by omega) (by omega)
    have hq := allIn_rdZ ha (i := (i : Int)) (by omega) (by omega)
    have hw := wayD_or s r (rd l ((i : Int) - 1)) (rd l (i : Int))
    simp only [Q9.l0]
    rw [if_pos (by omega), wrap64_id (x := (i : Int) - 1) (by omega) (by omega), if_pos (by omega), if_pos (by omega), if_pos (by omega), spec_way_eq s r _ _ hs hp hq, Option.bind_some, wrap_succ (n := 1001) (by omega) (by omega), turn_at s r l i h1 (by omega) last]
    have ih := fun la o ho hla => spec_TurnTimes_l0 s r hs l hl ha d (i + 1) k la o (by omega) (by omega) ho hla (by omega)
    by_cases c : wayD s r (rd l ((i : Int) - 1)) (rd l (i : Int)) = 0
    · rw [if_pos c, if_pos c, ih _ _ (by omega) hla]
    · rw [if_neg c, if_neg c, wrap64_id (x := -wayD s r (rd l ((i : Int) - 1)) (rd l (i : Int))) (by omega) (by omega)]
      by_cases c2 : last = -wayD s r (rd l ((i : Int) - 1)) (rd l (i : Int))
      · rw [if_pos c2, if_pos (by omega), if_neg (by omega), ih _ _ (by rw [List.length_append, List.length_singleton]; omega) hw, List.append_assoc]
        rfl
      · rw [if_neg c2, if_pos (by omega), ih _ _ (by omega) hw]
def turnsM (s : Int) (r : Bool) (w : List Int) : List Int × Bool := if okW s r w = true then (turnsN s r w 0 0, true) else ([], false)
theorem impl_TurnTimes_eq (k : Nat) (s : Int) (r : Bool) (w : List Int) (hl : w.length ≤ 1000) (hk : 2000 < k) : Q3.f k s r w = some (turnsM s r w) := by
  unfold Q3.f turnsM
  rw [areW k s r w hl (by omega), Option.bind_some]
  cases h : okW s r w with
  | false => simp
  | true =>
    have hb := okW_bd h
    have hs := road_bd hb.1
    have := impl_TurnTimes_l0 s r ⟨hs.1, hs.2.1⟩ w hl hb.2.2.2.1 (w.length - 1) 1 k 0 [] (by omega) (by omega) (by simp) (by omega)
    rw [if_pos rfl, if_pos rfl]
    simpa using this
theorem spec_TurnTimes_eq (k : Nat) (s : Int) (r : Bool) (w : List Int) (hl : w.length ≤ 1000) (hk : 2000 < k) : Q9.f k s r w = some (turnsM s r w) := by
  unfold Q9.f turnsM
  rw [Option.bind_some, specW k s r w hl (by omega), Option.bind_some]
  cases h : okW s r w with
  | false => simp
  | true =>
    have hb := okW_bd h
    have hs := road_bd hb.1
    have := spec_TurnTimes_l0 s r ⟨hs.1, hs.2.1⟩ w hl hb.2.2.2.1 (w.length - 1) 1 k 0 [] (by omega) (by omega) (by simp) (.inl rfl) (by omega)
    rw [if_pos rfl, if_pos rfl]
    simpa using this
theorem rd_map (f : Int → Int) (l : List Int) (i : Nat) (h : i < l.length) : rd (l.map f) (i : Int) = f (rd l (i : Int)) := by
  rw [rd_nat _ i (by rw [List.length_map]; exact h), rd_nat l i h, List.getElem_map]
theorem map_take (f : Int → Int) (l : List Int) (i : Nat) (h : i < l.length) : (l.take i).map f ++ [f (rd l (i : Int))] = (l.take (i + 1)).map f := by
  rw [List.take_succ_eq_append_getElem h, List.map_append, rd_nat l i h]
  rfl
def mirW (s : Int) (w : List Int) : List Int := w.map fun x => s - 1 - x
def shiL (s by_ : Int) (w : List Int) : List Int := w.map fun x => Int.tmod (x + by_) s
theorem impl_mir_l0 (s : Int) (r : Bool) (hs : 2 ≤ s ∧ s ≤ 24) (l : List Int) (hl : l.length ≤ 1000) (ha : allIn l 0 (s - 1) = true) : ∀ (d i k : Nat), i + d = l.length → d < k → Q31.l0 k (mirW s (l.take i)) l (l.length : Int) (i : Int) s r = some (mirW s l)
  | 0, i, k, h, hk => by
    obtain ⟨k, rfl⟩ := succ_of (k := k) (by omega)
    simp only [Q31.l0]
    rw [if_neg (by omega), List.take_of_length_le (by omega)]
  | d + 1, i, k, h, hk => by
    obtain ⟨k, rfl⟩ := succ_of (k := k) (by omega)
    have hq := allIn_rdZ ha (i := (i : Int)) (by omega) (by omega)
    simp only [Q31.l0, Q67.f]
    rw [if_pos (by omega), if_pos (by omega), if_pos (by omega), Option.bind_some, if_pos (by unfold mirW; rw [List.length_map, List.length_take]; omega), wrap64_id (x := s - 1) (by omega) (by omega), wrap64_id (by omega) (by omega), wrap_succ (n := 1001) (by omega) (by omega)]
    unfold mirW at *
    rw [map_take (fun x => s - 1 - x) l i (by omega)]
    exact impl_mir_l0 s r hs l hl ha d (i + 1) k (by omega) (by omega)
theorem spec_mir_l0 (s : Int) (r : Bool) (hs : 2 ≤ s ∧ s ≤ 24) (l : List Int) (hl : l.length ≤ 1000) (ha : allIn l 0 (s - 1) = true) : ∀ (d i k : Nat), i + d = l.length → d < k → Q11.l0 k l (mirW s (l.take i)) (i : Int) s r = some (mirW s l, true)
  | 0, i, k, h, hk => by
    obtain ⟨k, rfl⟩ := succ_of (k := k) (by omega)
    simp only [Q11.l0]
    rw [if_neg (by omega), List.take_of_length_le (by omega)]
  | d + 1, i, k, h, hk => by
    obtain ⟨k, rfl⟩ := succ_of (k := k) (by omega)
    have hq := allIn_rdZ ha (i := (i : Int)) (by omega) (by omega)
    simp only [Q11.l0]
    rw [if_pos (by omega), if_pos (by omega), if_pos (by unfold mirW; rw [List.length_map, List.length_take]; omega), wrap64_id (x := s - 1) (by omega) (by omega), wrap64_id (by omega) (by omega), wrap_succ (n := 1001) (by omega) (by omega)]
    unfold mirW at *
    rw [map_take (fun x => s - 1 - x) l i (by omega)]
    exact spec_mir_l0 s r hs l hl ha d (i + 1) k (by omega) (by omega)
def mirM (s : Int) (r : Bool) (w : List Int) : List Int × Bool := if okW s r w = true then (mirW s w, true) else ([], false)
theorem impl_MirrorWalk_eq (k : Nat) (s : Int) (r : Bool) (w : List Int) (hl : w.length ≤ 1000) (hk : 2000 < k) : Q55.f k s r w = some (mirM s r w) := by
  unfold Q55.f mirM
  rw [areW k s r w hl (by omega), Option.bind_some]
  cases h : okW s r w with
  | false => simp
  | true =>
    have hb := okW_bd h
    have hs := road_bd hb.1
    have : Q31.f k w s r = some (mirW s w) := impl_mir_l0 s r ⟨hs.1, hs.2.1⟩ w hl hb.2.2.2.1 w.length 0 k (by omega) (by omega)
    rw [if_pos rfl, if_pos rfl, this]
    rfl
theorem spec_MirrorWalk_eq (k : Nat) (s : Int) (r : Bool) (w : List Int) (hl : w.length ≤ 1000) (hk : 2000 < k) : Q11.f k s r w = some (mirM s r w) := by
  unfold Q11.f mirM
  rw [Option.bind_some, specW k s r w hl (by omega), Option.bind_some]
  cases h : okW s r w with
  | false => simp
  | true =>
    have hb := okW_bd h
    have hs := road_bd hb.1
    have : Q11.l0 k w [] 0 s r = some (mirW s w, true) := spec_mir_l0 s r ⟨hs.1, hs.2.1⟩ w hl hb.2.2.2.1 w.length 0 k (by omega) (by omega)
    rw [if_pos rfl, if_pos rfl, this]
theorem impl_shi_l0 (s : Int) (r : Bool) (b : Int) (hs : 2 ≤ s ∧ s ≤ 24) (hb : 0 ≤ b ∧ b ≤ s - 1) (l : List Int) (hl : l.length ≤ 1000) (ha : allIn l 0 (s - 1) = true) : ∀ (d i k : Nat), i + d = l.length → d < k → Q19.l0 k (shiL s b (l.take i)) l (l.length : Int) (i : Int) b s r = some (shiL s b l)
  | 0, i, k, h, hk => by
    obtain ⟨k, rfl⟩ := succ_of (k := k) (by omega)
    simp only [Q19.l0]
    rw [if_neg (by omega), List.take_of_length_le (by omega)]
  | d + 1, i, k, h, hk => by
    obtain ⟨k, rfl⟩ := succ_of (k := k) (by omega)
    have hq := allIn_rdZ ha (i := (i : Int)) (by omega) (by omega)
    simp only [Q19.l0, Q68.f]
    rw [if_pos (by omega), if_pos (by omega), if_pos (by omega), if_neg (by omega), Option.bind_some, if_pos (by unfold shiL; rw [List.length_map, List.length_take]; omega), wrap64_id (x := rd l (i : Int) + b) (by omega) (by omega), wrap_succ (n := 1001) (by omega) (by omega)]
    unfold shiL at *
    rw [map_take (fun x => Int.tmod (x + b) s) l i (by omega)]
    exact impl_shi_l0 s r b hs hb l hl ha d (i + 1) k (by omega) (by omega)
theorem spec_shi_l0 (s : Int) (r : Bool) (b : Int) (hs : 2 ≤ s ∧ s ≤ 24) (hb : 0 ≤ b ∧ b ≤ s - 1) (l : List Int) (hl : l.length ≤ 1000) (ha : allIn l 0 (s - 1) = true) : ∀ (d i k : Nat), i + d = l.length → d < k → Q5.l0 k l b (shiL s b (l.take i)) (i : Int) s r = some (shiL s b l, true)
  | 0, i, k, h, hk => by
    obtain ⟨k, rfl⟩ := succ_of (k := k) (by omega)
    simp only [Q5.l0]
    rw [if_neg (by omega), List.take_of_length_le (by omega)]
  | d + 1, i, k, h, hk => by
    obtain ⟨k, rfl⟩ := succ_of (k := k) (by omega)
    have hq := allIn_rdZ ha (i := (i : Int)) (by omega) (by omega)
    simp only [Q5.l0]
    rw [if_pos (by omega), if_pos (by omega), if_neg (by omega), if_pos (by unfold shiL; rw [List.length_map, List.length_take]; omega), wrap64_id (x := rd l (i : Int) + b) (by omega) (by omega), wrap_succ (n := 1001) (by omega) (by omega)]
    unfold shiL at *
    rw [map_take (fun x => Int.tmod (x + b) s) l i (by omega)]
    exact spec_shi_l0 s r b hs hb l hl ha d (i + 1) k (by omega) (by omega)
def shiM (s : Int) (r : Bool) (w : List Int) (b : Int) : List Int × Bool := if (okW s r w && r && inR b 0 (s - 1)) = true then (shiL s b w, true) else ([], false)
theorem impl_ShiftWalk_eq (k : Nat) (s : Int) (r : Bool) (w : List Int) (b : Int) (hl : w.length ≤ 1000) (hk : 2000 < k) : Q56.f k s r w b = some (shiM s r w b) := by
  unfold Q56.f shiM
  rw [areW k s r w hl (by omega), Option.bind_some]
  cases h : okW s r w with
  | false => simp
  | true =>
    have hb := okW_bd h
    have hs := road_bd hb.1
    rw [if_pos rfl]
    cases r with
    | false => simp
    | true =>
      rw [if_pos rfl, impl_Road_has1 k s true b hb.1 (by omega), Option.bind_some]
      cases hp : inR b 0 (s - 1) with
      | false => simp
      | true =>
        have : Q19.f k w b s true = some (shiL s b w) := impl_shi_l0 s true b ⟨hs.1, hs.2.1⟩ (inR_iff.1 hp) w hl hb.2.2.2.1 w.length 0 k (by omega) (by omega)
        rw [if_pos rfl, this]
        rfl
theorem spec_ShiftWalk_eq (k : Nat) (s : Int) (r : Bool) (w : List Int) (b : Int) (hl : w.length ≤ 1000) (hk : 2000 < k) : Q5.f k s r w b = some (shiM s r w b) := by
  obtain ⟨k, rfl⟩ := succ_of (k := k) (by omega)
  have hj : Q5.j0 (k + 1) w b [] true s r = some ([], false) := by
    simp only [Q5.j0]
    rw [if_pos trivial]
  unfold Q5.f shiM
  rw [Option.bind_some, specW (k + 1) s r w hl (by omega), Option.bind_some]
  cases h : okW s r w with
  | false => rw [if_neg (by simp), hj]; simp
  | true =>
    have hb := okW_bd h
    have hs := road_bd hb.1
    rw [if_pos rfl]
    cases r with
    | false => rw [if_neg (by simp), hj]; simp
    | true =>
      rw [if_pos rfl, spec_l1In_eq, Option.bind_some, wrap64_id (x := s - 1) (by omega) (by omega)]
      cases hp : inR b 0 (s - 1) with
      | false => exact hj.trans (by simp)
      | true =>
        have : Q5.l0 k w b [] 0 s true = some (shiL s b w, true) := spec_shi_l0 s true b ⟨hs.1, hs.2.1⟩ (inR_iff.1 hp) w hl hb.2.2.2.1 w.length 0 k (by omega) (by omega)
        simp only [Q5.j0]
        rw [if_neg (by simp), this]
        simp
theorem spec_back_l0 (l : List Int) (hl : l.length ≤ 1000) : ∀ (i k : Nat), i ≤ l.length → i < k → Q25.l0 k l (l.drop i).reverse ((i : Int) - 1) = some (l.reverse, true)
  | 0, k, h, hk => by
    obtain ⟨k, rfl⟩ := succ_of (k := k) (by omega)
    simp only [Q25.l0]
    rw [if_neg (by omega), List.drop_zero]
  | i + 1, k, h, hk => by
    obtain ⟨k, rfl⟩ := succ_of (k := k) (by omega)
    simp only [Q25.l0]
    rw [if_pos (by omega), if_pos (by omega), if_pos (by omega), if_pos (by rw [List.length_reverse, List.length_drop]; omega), wrap64_id (by omega) (by omega), show ((i + 1 : Nat) : Int) - 1 = (i : Int) by omega]
    have e : (l.drop (i + 1)).reverse ++ [rd l (i : Int)] = (l.drop i).reverse := by rw [drop_rd l i (by omega), List.reverse_cons]
    rw [e]
    exact spec_back_l0 l hl i k (by omega) (by omega)
def backM (s : Int) (r : Bool) (w : List Int) : List Int × Bool := if okW s r w = true then (w.reverse, true) else ([], false)
theorem impl_BackWalk_eq (k : Nat) (s : Int) (r : Bool) (w : List Int) (hl : w.length ≤ 1000) (hk : 2000 < k) : Q62.f k s r w = some (backM s r w) := by
  unfold Q62.f backM
  rw [areW k s r w hl (by omega), Option.bind_some]
  cases h : okW s r w with
  | false => simp
  | true => rw [if_pos rfl, if_pos rfl, impl_copied_eq w (by omega), Option.bind_some, slices_Reverse_eq k w (by omega) (by omega), Option.bind_some]
theorem spec_BackWalk_eq (k : Nat) (s : Int) (r : Bool) (w : List Int) (hl : w.length ≤ 1000) (hk : 2000 < k) : Q25.f k s r w = some (backM s r w) := by
  unfold Q25.f backM
  rw [Option.bind_some, specW k s r w hl (by omega), Option.bind_some]
  cases h : okW s r w with
  | false => simp
  | true =>
    have := spec_back_l0 w hl w.length k (Nat.le_refl _) (by omega)
    rw [List.drop_length, List.reverse_nil] at this
    rw [if_pos rfl, if_pos rfl, wrap64_id (by omega) (by omega), this]
def visW (s : Int) (r : Bool) (w : List Int) : List Int × Bool := if okW s r w = true then (visitsM w s.toNat, true) else ([], false)
theorem impl_Visits_eq (k : Nat) (s : Int) (r : Bool) (w : List Int) (hl : w.length ≤ 1000) (hk : 2200 < k) : Q21.f k s r w = some (visW s r w) := by
  unfold visW
  cases h : okW s r w with
  | false =>
    unfold Q21.f
    rw [areW k s r w hl (by omega), Option.bind_some, h]
    simp
  | true =>
    have hb := okW_bd h
    rw [if_pos rfl, impl_FirstVisits_eq k s r w hb.1 hb.2.1 hl hk]
theorem spec_visits_l0 (r : Bool) (w : List Int) (hw : w.length ≤ 1000) (n : Nat) (hn : n ≤ 1000) : ∀ (d i k : Nat), i + d = n → d + 1100 < k → Q22.l0 k w (visitsM w i) (i : Int) (n : Int) r = some (visitsM w n, true)
  | 0, i, k, h, hk => by
    obtain ⟨k, rfl⟩ := succ_of (k := k) (by omega)
    simp only [Q22.l0]
    rw [if_neg (by omega), show i = n by omega]
  | d + 1, i, k, h, hk => by
    obtain ⟨k, rfl⟩ := succ_of (k := k) (by omega)
    simp only [Q22.l0]
    rw [if_pos (by omega), spec_l2First_eq k _ w (by omega) (by omega), Option.bind_some, visitsM_len, if_pos (by omega), wrap_succ (n := n) (by omega) (by omega), ← visitsM_snoc]
    exact spec_visits_l0 r w hw n hn d (i + 1) k (by omega) (by omega)
theorem spec_Visits_eq (k : Nat) (s : Int) (r : Bool) (w : List Int) (hl : w.length ≤ 1000) (hk : 2200 < k) : Q22.f k s r w = some (visW s r w) := by
  unfold Q22.f visW
  rw [Option.bind_some, specW k s r w hl (by omega), Option.bind_some]
  cases h : okW s r w with
  | false => simp
  | true =>
    have hb := okW_bd h
    have hs := road_bd hb.1
    have := spec_visits_l0 r w hl s.toNat (by omega) s.toNat 0 k (by omega) (by omega)
    rw [Int.toNat_of_nonneg (by omega)] at this
    rw [if_pos rfl, if_pos rfl]
    simpa [visitsM] using this
def isM (s : Int) (r : Bool) (w : List Int) : Bool × Bool := if road s r = true then (walkOkM s r w, true) else (false, false)
theorem impl_IsWalk_eq (k : Nat) (s : Int) (r : Bool) (w : List Int) (hl : w.length ≤ 1000) (hk : 2000 < k) : Q36.f k s r w = some (isM s r w) := by
  unfold Q36.f isM
  rw [impl_IsRoad_eq, Option.bind_some]
  cases h : road s r with
  | false => simp
  | true => rw [if_pos rfl, if_pos rfl, impl_Road_isWalk_eq k s r h w (by omega) (by omega) (by omega)]; rfl
theorem spec_IsWalk_eq (k : Nat) (s : Int) (r : Bool) (w : List Int) (hl : w.length ≤ 1000) (hk : 2000 < k) : Q60.f k s r w = some (isM s r w) := by
  unfold Q60.f isM
  rw [spec_l2Road_eq, Option.bind_some]
  cases h : road s r with
  | false => simp
  | true =>
    rw [if_pos rfl, if_pos rfl, specW k s r w hl (by omega), Option.bind_some]
    unfold okW
    rw [h, Bool.true_and]
theorem okW_is (s : Int) (r : Bool) (w : List Int) : okW s r w = (if (isM s r w).2 = true then (isM s r w).1 else false) := by
  unfold okW isM
  cases road s r with
  | false => simp
  | true => simp
def covM (s : Int) (r : Bool) (w : List Int) : Int × Bool := if okW s r w = true then worstM (visitsM w s.toNat) else (0, false)
theorem impl_Cover_eq (k : Nat) (s : Int) (r : Bool) (w : List Int) (hl : w.length ≤ 1000) (hk : 2200 < k) : Q47.f k s r w = some (covM s r w) := by
  unfold covM
  cases h : okW s r w with
  | false =>
    unfold Q47.f
    rw [areW k s r w hl (by omega), Option.bind_some, h]
    simp
  | true =>
    have hb := okW_bd h
    rw [if_pos rfl, impl_CoverTime_eq k s r w hb.1 hb.2.1 hl hk]
theorem spec_cover_l0 (r : Bool) (w : List Int) (hw : w.length ≤ 1000) (n : Nat) (hn : n ≤ 1000) : ∀ (d i k : Nat) (m : Int), i + d = n → d + 1100 < k → Q32.l0 k w m (i : Int) (n : Int) r = some (if (((visitsM w n).drop i).any fun x => decide (x < 0)) = true then (0, false) else (((visitsM w n).drop i).foldl mx m, true))
  | 0, i, k, m, h, hk => by
    obtain ⟨k, rfl⟩ := succ_of (k := k) (by omega)
    simp only [Q32.l0]
    rw [if_neg (by omega), drop_end _ i (by rw [visitsM_len]; omega)]
    simp
  | d + 1, i, k, m, h, hk => by
    obtain ⟨k, rfl⟩ := succ_of (k := k) (by omega)
    simp only [Q32.l0]
    rw [if_pos (by omega), spec_l2First_eq k _ w (by omega) (by omega), Option.bind_some, drop_rd (visitsM w n) i (by rw [visitsM_len]; omega), visitsM_rd w n i (by omega), List.any_cons, List.foldl_cons]
    by_cases c : firstM (i : Int) w 0 < 0
    · rw [if_pos c, decide_eq_true c, Bool.true_or, if_pos rfl]
    · rw [if_neg c, decide_eq_false c, Bool.false_or, spec_l1Most_eq, Option.bind_some, wrap_succ (n := n) (by omega) (by omega), spec_cover_l0 r w hw n hn d (i + 1) k _ (by omega) (by omega)]
      have e : hi2 m (firstM (i : Int) w 0) = mx m (firstM (i : Int) w 0) := by unfold hi2 mx; split <;> split <;> omega
      rw [e]
theorem spec_Cover_eq (k : Nat) (s : Int) (r : Bool) (w : List Int) (hl : w.length ≤ 1000) (hk : 2200 < k) : Q32.f k s r w = some (covM s r w) := by
  unfold Q32.f covM
  rw [specW k s r w hl (by omega), Option.bind_some]
  cases h : okW s r w with
  | false => simp
  | true =>
    have hb := okW_bd h
    have hs := road_bd hb.1
    have := spec_cover_l0 r w hl s.toNat (by omega) s.toNat 0 k 0 (by omega) (by omega)
    rw [Int.toNat_of_nonneg (by omega)] at this
    rw [if_pos rfl, if_pos rfl]
    simpa [worstM] using this
def placeM (s : Int) (r : Bool) (w : List Int) (t : Int) : Int × Bool := if okW s r w = true then (if t < 0 then (0, false) else (rd w (mn t ((w.length : Int) - 1)), true)) else (0, false)
theorem impl_PlaceAt_eq (k : Nat) (s : Int) (r : Bool) (w : List Int) (t : Int) (hl : w.length ≤ 1000) (hk : 2000 < k) : Q59.f k s r w t = some (placeM s r w t) := by
  unfold Q59.f placeM
  rw [areW k s r w hl (by omega), Option.bind_some]
  cases h : okW s r w with
  | false => simp
  | true =>
    have hb := okW_bd h
    rw [if_pos rfl, if_pos rfl]
    by_cases c : t < 0
    · rw [if_pos c, if_pos c]
    · have hm := mn_min t ((w.length : Int) - 1)
      rw [if_neg c, if_neg c]
      unfold Q63.f
      rw [wrap64_id (by omega) (by omega), if_pos (by omega), if_pos (by omega), Option.bind_some]
theorem spec_PlaceAt_eq (k : Nat) (s : Int) (r : Bool) (w : List Int) (t : Int) (hl : w.length ≤ 1000) (hk : 2000 < k) : Q61.f k s r w t = some (placeM s r w t) := by
  unfold Q61.f placeM
  rw [specW k s r w hl (by omega), Option.bind_some]
  cases h : okW s r w with
  | false => simp
  | true =>
    have hb := okW_bd h
    rw [if_pos rfl, if_pos rfl]
    by_cases c : t < 0
    · rw [if_pos c, if_pos c]
    · have hm := mn_min t ((w.length : Int) - 1)
      have e : lo2 t ((w.length : Int) - 1) = mn t ((w.length : Int) - 1) := by unfold lo2 mn; split <;> split <;> omega
      rw [if_neg c, if_neg c]
      unfold Q65.f
      rw [wrap64_id (by omega) (by omega), spec_l1Least_eq, Option.bind_some, e, if_pos (by omega), if_pos (by omega), Option.bind_some]
theorem chn_iff (s : Int) (r : Bool) (l : List Int) : ∀ (d i : Nat), chnM s r l i d = true ↔ ∀ j, i ≤ j → j < i + d → gapM s r (rd l ((j : Int) - 1)) (rd l (j : Int)) ≤ 1
  | 0, i => by
    refine ⟨fun _ j h1 h2 => by omega, fun _ => rfl⟩
  | d + 1, i => by
    rw [chnM_succ, Bool.and_eq_true, decide_eq_true_iff, chn_iff s r l d (i + 1)]
    constructor
    · rintro ⟨h1, h2⟩ j h3 h4
      rcases Nat.eq_or_lt_of_le h3 with e | e
      · rw [← e]; exact h1
      · exact h2 j (by omega) (by omega)
    · intro h
      exact ⟨h i (Nat.le_refl _) (by omega), fun j h1 h2 => h j (by omega) (by omega)⟩
theorem gap_mir (s : Int) (r : Bool) (a b : Int) : gapM s r (s - 1 - a) (s - 1 - b) = gapM s r a b := by
  have e : (if s - 1 - a - (s - 1 - b) < s - 1 - b - (s - 1 - a) then s - 1 - b - (s - 1 - a) else s - 1 - a - (s - 1 - b)) = (if a - b < b - a then b - a else a - b) := by
    split <;> split <;> omega
  unfold gapM
  simp only [e]
theorem gap_sym (s : Int) (r : Bool) (a b : Int) : gapM s r a b = gapM s r b a := by
  have e : (if a - b < b - a then b - a else a - b) = (if b - a < a - b then a - b else b - a) := by split <;> split <;> omega
  unfold gapM
  simp only [e]
theorem mir_len (s : Int) (w : List Int) : (mirW s w).length = w.length := by simp [mirW]
theorem shi_len (s b : Int) (w : List Int) : (shiL s b w).length = w.length := by simp [shiL]
theorem mir_ok {s : Int} {r : Bool} {w : List Int} (h : okW s r w = true) : okW s r (mirW s w) = true := by
  have hb := okW_bd h
  have hc := (chn_iff s r w (w.length - 1) 1).1 hb.2.2.2.2
  unfold okW walkOkM
  rw [hb.1, mir_len, Bool.true_and, Bool.and_eq_true, Bool.and_eq_true, inR_iff]
  refine ⟨⟨by omega, ?_⟩, (chn_iff s r _ _ 1).2 fun j h1 h2 => ?_⟩
  · unfold mirW allIn
    rw [List.all_map, List.all_eq_true]
    intro x hx
    have := inR_iff.1 (List.all_eq_true.1 hb.2.2.2.1 x hx)
    show inR (s - 1 - x) 0 (s - 1) = true
    exact inR_iff.2 (by omega)
  · obtain ⟨q, rfl⟩ : ∃ q, j = q + 1 := ⟨j - 1, by omega⟩
    have h3 := hc (q + 1) h1 h2
    rw [show ((q + 1 : Nat) : Int) - 1 = (q : Int) by omega] at h3 ⊢
    unfold mirW
    rw [rd_map _ w q (by omega), rd_map _ w (q + 1) (by omega), gap_mir]
    exact h3
theorem rd_rev (l : List Int) (i : Nat) (h : i < l.length) : rd l.reverse (i : Int) = rd l ((l.length - 1 - i : Nat) : Int) := by
  rw [rd_nat _ i (by rw [List.length_reverse]; exact h), rd_nat l _ (by omega), List.getElem_reverse]
theorem rev_ok {s : Int} {r : Bool} {w : List Int} (h : okW s r w = true) : okW s r w.reverse = true := by
  have hb := okW_bd h
  have hc := (chn_iff s r w (w.length - 1) 1).1 hb.2.2.2.2
  unfold okW walkOkM
  rw [hb.1, List.length_reverse, Bool.true_and, Bool.and_eq_true, Bool.and_eq_true, inR_iff]
  refine ⟨⟨by omega, ?_⟩, (chn_iff s r _ _ 1).2 fun j h1 h2 => ?_⟩
  · unfold allIn
    rw [List.all_reverse]
    exact hb.2.2.2.1
  · obtain ⟨q, rfl⟩ : ∃ q, j = q + 1 := ⟨j - 1, by omega⟩
    have h3 := hc (w.length - 1 - q) (by omega) (by omega)
    rw [show ((q + 1 : Nat) : Int) - 1 = (q : Int) by omega, rd_rev w q (by omega), rd_rev w (q + 1) (by omega), gap_sym, show w.length - 1 - (q + 1) = w.length - 1 - q - 1 by omega]
    rw [show ((w.length - 1 - q : Nat) : Int) - 1 = ((w.length - 1 - q - 1 : Nat) : Int) by omega] at h3
    exact h3
theorem first_mir (s p : Int) : ∀ (w : List Int) (i : Nat), firstM (s - 1 - p) (mirW s w) i = firstM p w i
  | [], i => rfl
  | y :: t, i => by
    have ih := first_mir s p t (i + 1)
    show (if s - 1 - y = s - 1 - p then (i : Int) else firstM (s - 1 - p) (mirW s t) (i + 1)) = (if y = p then (i : Int) else firstM p t (i + 1))
    rw [ih]
    by_cases c : y = p
    · rw [if_pos c, if_pos (by omega)]
    · rw [if_neg c, if_neg (by omega)]
theorem way_shi (s b x y : Int) (hs : 3 ≤ s) (hb : 0 ≤ b ∧ b ≤ s - 1) (hx : 0 ≤ x ∧ x ≤ s - 1) (hy : 0 ≤ y ∧ y ≤ s - 1) : wayD s true (Int.tmod (x + b) s) (Int.tmod (y + b) s) = wayD s true x y := by
  rw [up_mod (by omega) (by omega) (by omega), up_mod (by omega) (by omega) (by omega)]
  unfold wayD
  simp only [true_and]
  by_cases c1 : x + b < s <;> by_cases c2 : y + b < s <;> simp only [c1, c2, if_true, if_false] <;> (split <;> split <;> (try split) <;> (try split) <;> omega)
theorem turns_shi (s b : Int) (hs : 3 ≤ s) (hb : 0 ≤ b ∧ b ≤ s - 1) : ∀ (w : List Int) (last i : Int), allIn w 0 (s - 1) = true → turnsN s true (shiL s b w) last i = turnsN s true w last i
  | [], _, _, _ => rfl
  | [a], _, _, _ => rfl
  | x :: y :: t, last, i, ha => by
    have h1 : allIn (y :: t) 0 (s - 1) = true := by
      unfold allIn at ha ⊢
      rw [List.all_cons, Bool.and_eq_true] at ha
      exact ha.2
    have hx := inR_iff.1 (List.all_eq_true.1 ha x (by simp))
    have hy := inR_iff.1 (List.all_eq_true.1 ha y (by simp))
    have ih := fun la j => turns_shi s b hs hb (y :: t) la j h1
    have e : shiL s b (x :: y :: t) = Int.tmod (x + b) s :: Int.tmod (y + b) s :: shiL s b t := rfl
    have e2 : shiL s b (y :: t) = Int.tmod (y + b) s :: shiL s b t := rfl
    rw [e2] at ih
    rw [e]
    unfold turnsN
    rw [way_shi s b x y hs hb hx hy, ih, ih]
theorem shi_ok {s : Int} {w : List Int} {b : Int} (h : okW s true w = true) (hb : 0 ≤ b ∧ b ≤ s - 1) : okW s true (shiL s b w) = true := by
  have hw := okW_bd h
  have hs := road_bd hw.1
  have h3 := hs.2.2 rfl
  have hc := (chn_iff s true w (w.length - 1) 1).1 hw.2.2.2.2
  unfold okW walkOkM
  rw [hw.1, shi_len, Bool.true_and, Bool.and_eq_true, Bool.and_eq_true, inR_iff]
  refine ⟨⟨by omega, ?_⟩, (chn_iff s true _ _ 1).2 fun j h1 h2 => ?_⟩
  · unfold shiL allIn
    rw [List.all_map, List.all_eq_true]
    intro x hx
    have := inR_iff.1 (List.all_eq_true.1 hw.2.2.2.1 x hx)
    simp only [Function.comp]
    rw [up_mod (by omega) (by omega) (by omega)]
    exact inR_iff.2 (by split <;> omega)
  · obtain ⟨q, rfl⟩ : ∃ q, j = q + 1 := ⟨j - 1, by omega⟩
    have h4 := hc (q + 1) h1 h2
    have hp := allIn_rdZ hw.2.2.2.1 (i := (q : Int)) (by omega) (by omega)
    have hq := allIn_rdZ hw.2.2.2.1 (i := ((q + 1 : Nat) : Int)) (by omega) (by omega)
    rw [show ((q + 1 : Nat) : Int) - 1 = (q : Int) by omega] at h4 ⊢
    unfold shiL
    rw [rd_map _ w q (by omega), rd_map _ w (q + 1) (by omega), up_mod (by omega) (by omega) (by omega), up_mod (by omega) (by omega) (by omega)]
    unfold gapM at h4 ⊢
    simp only [if_true] at h4 ⊢
    revert h4
    split <;> split <;> split <;> split <;> split <;> (try split) <;> intro h4 <;> omega
theorem foldMx_ge : ∀ (L : List Int) (m : Int), m ≤ L.foldl mx m ∧ ∀ x ∈ L, x ≤ L.foldl mx m
  | [], m => ⟨Int.le_refl _, fun x hx => by cases hx⟩
  | y :: t, m => by
    have h := foldMx_ge t (mx m y)
    have hm := mx_max m y
    rw [List.foldl_cons]
    refine ⟨by omega, fun x hx => ?_⟩
    rcases List.mem_cons.1 hx with rfl | hx
    · omega
    · exact h.2 x hx
theorem go_l0 (s : Int) (r : Bool) (hs : 2 ≤ s ∧ s ≤ 24) (x : Int) (hx : -1 ≤ x ∧ x ≤ 1) (n : Nat) (hn : n ≤ 24) : ∀ (d i k : Nat) (p : Int) (out : List Int), i + d = n → (0 ≤ p ∧ p ≤ s - 1) → out.length = i + 1 → d < k → ∃ v, Q8.l0 k p x (n : Int) out (i : Int) s r = some v ∧ v.length = n + 1
  | 0, i, k, p, out, h, hp, ho, hk => by
    obtain ⟨k, rfl⟩ := succ_of (k := k) (by omega)
    simp only [Q8.l0]
    rw [if_neg (by omega)]
    exact ⟨out, rfl, by omega⟩
  | d + 1, i, k, p, out, h, hp, ho, hk => by
    obtain ⟨k, rfl⟩ := succ_of (k := k) (by omega)
    simp only [Q8.l0]
    rw [if_pos (by omega), spec_l2Step_eq s r p x hs hp hx, Option.bind_some, if_pos (by omega), wrap_succ (n := 30) (by omega) (by omega)]
    exact go_l0 s r hs x hx n hn d (i + 1) k _ _ (by omega) (stepW_bd hs.1 hp hx) (by rw [List.length_append, List.length_singleton]; omega) (by omega)
theorem go_ok (k : Nat) (s : Int) (r : Bool) (hs : 2 ≤ s ∧ s ≤ 24) (p x n : Int) (hp : 0 ≤ p ∧ p ≤ s - 1) (hx : -1 ≤ x ∧ x ≤ 1) (hn : 0 ≤ n ∧ n ≤ 24) (hk : 100 < k) : ∃ v, Q8.f k s r p x n = some v ∧ (1 ≤ v.length ∧ v.length ≤ 25) := by
  obtain ⟨m, rfl⟩ := Int.eq_ofNat_of_zero_le hn.1
  obtain ⟨v, e, hv⟩ := go_l0 s r hs x hx m (by omega) m 0 k p [p] (by omega) hp rfl (by omega)
  exact ⟨v, e, by omega⟩
theorem sweep_ok (k : Nat) (s : Int) (r : Bool) (a : Int) (hk : 100 < k) : ∃ (v : List Int) (b : Bool), Q16.f k s r a = some (v, b) ∧ v.length ≤ 100 := by
  unfold Q16.f
  rw [spec_l2Place_eq, Option.bind_some]
  cases hp : road s r && inR a 0 (s - 1) with
  | false => exact ⟨[], false, by simp, by simp⟩
  | true =>
    rw [Bool.and_eq_true] at hp
    have hb := road_bd hp.1
    have ha := inR_iff.1 hp.2
    have hs : 2 ≤ s ∧ s ≤ 24 := ⟨hb.1, hb.2.1⟩
    rw [if_pos rfl, wrap64_id (x := s - 1) (by omega) (by omega)]
    cases r with
    | true =>
      obtain ⟨v, e, hv⟩ := go_ok k s true hs a 1 (s - 1) ha (by omega) (by omega) hk
      rw [if_pos rfl, e]
      exact ⟨v, true, rfl, by omega⟩
    | false =>
      rw [if_neg (by simp), wrap64_id (x := s - 1 - a) (by omega) (by omega)]
      by_cases c : a ≤ s - 1 - a
      · obtain ⟨v, e, hv⟩ := go_ok k s false hs a (-1) a ha (by omega) (by omega) hk
        obtain ⟨v2, e2, hv2⟩ := go_ok k s false hs 0 1 (s - 1) (by omega) (by omega) (by omega) hk
        rw [if_pos c, e, Option.bind_some, e2, Option.bind_some, if_pos (by omega), Option.bind_some, if_pos (by rw [List.length_drop]; omega)]
        exact ⟨_, _, rfl, by rw [List.length_append, List.length_drop]; omega⟩
      · obtain ⟨v, e, hv⟩ := go_ok k s false hs a 1 (s - 1 - a) ha (by omega) (by omega) hk
        obtain ⟨v2, e2, hv2⟩ := go_ok k s false hs (s - 1) (-1) (s - 1) (by omega) (by omega) (by omega) hk
        rw [if_neg c, e, Option.bind_some, e2, Option.bind_some, if_pos (by omega), Option.bind_some, if_pos (by rw [List.length_drop]; omega)]
        exact ⟨_, _, rfl, by rw [List.length_append, List.length_drop]; omega⟩
theorem DrawVisits_ok (k : Nat) (l : List Int) (hl : byteL l) (hk : 100 < k) : ∃ (s : Int) (r : Bool) (w : List Int), Q54.f k l = some (s, r, w) ∧ w.length ≤ 100 := by
  obtain ⟨s, r, a, b, e, hs, h1⟩ := roadd_ok l hl 0 0 (by omega) (by omega)
  obtain ⟨w, a2, b2, e2, hw, h2⟩ := walkd_ok k l hl a b s r hs (by omega) (by omega) (by omega)
  refine ⟨s, r, w, ?_, by omega⟩
  unfold Q54.f Q66.f
  rw [e, Option.bind_some, e2, Option.bind_some, Option.bind_some]
theorem DrawCover_ok (k : Nat) (l : List Int) (hl : byteL l) (hk : 100 < k) : ∃ (s : Int) (r : Bool) (w : List Int), Q24.f k l = some (s, r, w) ∧ w.length ≤ 100 := by
  obtain ⟨s, r, a, b, e, hs, h1⟩ := roadd_ok l hl 0 0 (by omega) (by omega)
  obtain ⟨p, a2, b2, e2, _, h2⟩ := placeOn_ok l hl a b s r hs (by omega) (by omega)
  obtain ⟨v, ok, e3, hv⟩ := sweep_ok k s r p hk
  unfold Q24.f
  rw [e, Option.bind_some, e2, Option.bind_some, e3, Option.bind_some]
  cases ok with
  | false =>
    obtain ⟨w, a4, b4, e4, hw, _⟩ := walkd_ok k l hl a2 b2 s r hs (by omega) (by omega) (by omega)
    rw [if_neg (by simp), e4]
    exact ⟨s, r, w, rfl, by omega⟩
  | true =>
    obtain ⟨q, a3, b3, e5, h3⟩ := one_ok l hl a2 b2 2 (by omega) (by omega) (by omega)
    rw [if_pos rfl, e5, Option.bind_some]
    cases q with
    | true => exact ⟨s, r, v, rfl, hv⟩
    | false =>
      obtain ⟨w, a4, b4, e4, hw, _⟩ := walkd_ok k l hl a3 b3 s r hs (by omega) (by omega) (by omega)
      rw [if_neg (by simp), e4]
      exact ⟨s, r, w, rfl, by omega⟩
theorem DrawShift_ok (k : Nat) (l : List Int) (hl : byteL l) (hk : 100 < k) : ∃ (s : Int) (r : Bool) (w : List Int) (b : Int), Q29.f k l = some (s, r, w, b) ∧ w.length ≤ 100 := by
  obtain ⟨s, r, a, b, e, hs, h1⟩ := ring_ok l hl 0 0 (by omega) (by omega)
  obtain ⟨q, a3, b3, e5, h3⟩ := one_ok l hl a b 12 (by omega) (by omega) (by omega)
  unfold Q29.f
  rw [e, Option.bind_some, e5, Option.bind_some]
  cases q with
  | true =>
    obtain ⟨s2, r2, a4, b4, e4, hs2, h4⟩ := line_ok l hl a3 b3 (by omega) (by omega)
    obtain ⟨w, a6, b6, e6, hw, h6⟩ := walkd_ok k l hl a4 b4 s2 r2 hs2 (by omega) (by omega) (by omega)
    obtain ⟨p, a7, b7, e7, _, h7⟩ := placeOn_ok l hl a6 b6 s2 r2 hs2 (by omega) (by omega)
    rw [if_pos rfl, e4, Option.bind_some, e6, Option.bind_some, e7]
    exact ⟨s2, r2, w, p, rfl, by omega⟩
  | false =>
    obtain ⟨w, a6, b6, e6, hw, h6⟩ := walkd_ok k l hl a3 b3 s r hs (by omega) (by omega) (by omega)
    obtain ⟨p, a7, b7, e7, _, h7⟩ := placeOn_ok l hl a6 b6 s r hs (by omega) (by omega)
    rw [if_neg (by simp), e6, Option.bind_some, e7]
    exact ⟨s, r, w, p, rfl, by omega⟩
theorem DrawPlace_ok (k : Nat) (l : List Int) (hl : byteL l) (hk : 100 < k) : ∃ (s : Int) (r : Bool) (w : List Int) (t : Int), Q37.f k l = some (s, r, w, t) ∧ w.length ≤ 100 := by
  obtain ⟨s, r, a, b, e, hs, h1⟩ := roadd_ok l hl 0 0 (by omega) (by omega)
  obtain ⟨w, a2, b2, e2, hw, h2⟩ := walkd_ok k l hl a b s r hs (by omega) (by omega) (by omega)
  obtain ⟨t, a3, b3, e3, _⟩ := among_ok l hl a2 b2 [0, 3, 5, 9, 60, -1, 4611686018427387904] (by omega) (by omega) (by simp) (by simp)
  unfold Q37.f
  rw [e, Option.bind_some, e2, Option.bind_some, e3]
  exact ⟨s, r, w, t, rfl, by omega⟩
theorem bne_same (b : Bool) : (b != b) = false := by cases b <;> rfl
theorem vis2 (s : Int) (r : Bool) (w : List Int) : (visW s r w).2 = okW s r w := by unfold visW; cases okW s r w <;> rfl
theorem steps2 (s : Int) (r : Bool) (w : List Int) : (stepsM s r w).2 = okW s r w := by unfold stepsM; cases okW s r w <;> rfl
theorem turns2 (s : Int) (r : Bool) (w : List Int) : (turnsM s r w).2 = okW s r w := by unfold turnsM; cases okW s r w <;> rfl
theorem mir2 (s : Int) (r : Bool) (w : List Int) : (mirM s r w).2 = okW s r w := by unfold mirM; cases okW s r w <;> rfl
theorem back2 (s : Int) (r : Bool) (w : List Int) : (backM s r w).2 = okW s r w := by unfold backM; cases okW s r w <;> rfl
theorem vis_len (s : Int) (r : Bool) (w : List Int) : (visW s r w).1.length ≤ 24 := by
  unfold visW
  cases h : okW s r w with
  | false => simp
  | true =>
    have hs := road_bd (okW_bd h).1
    rw [if_pos rfl, visitsM_len]
    omega
theorem turns_len (s : Int) (r : Bool) (w : List Int) (hw : w.length ≤ 100) : (turnsM s r w).1.length ≤ 100 := by
  unfold turnsM
  have := turnsN_len s r w 0 0
  cases h : okW s r w with
  | false => simp
  | true => rw [if_pos rfl]; exact Nat.le_trans this hw
theorem mirM_len (s : Int) (r : Bool) (w : List Int) (hw : w.length ≤ 100) : (mirM s r w).1.length ≤ 100 := by
  unfold mirM
  cases h : okW s r w with
  | false => simp
  | true => rw [if_pos rfl]; exact Nat.le_trans (Nat.le_of_eq (mir_len s w)) hw
theorem backM_len (s : Int) (r : Bool) (w : List Int) (hw : w.length ≤ 100) : (backM s r w).1.length ≤ 100 := by
  unfold backM
  cases h : okW s r w with
  | false => simp
  | true => rw [if_pos rfl]; exact Nat.le_trans (Nat.le_of_eq List.length_reverse) hw
theorem shiM_len (s : Int) (r : Bool) (w : List Int) (b : Int) (hw : w.length ≤ 100) : (shiM s r w b).1.length ≤ 100 := by
  unfold shiM
  cases h : (okW s r w && r && inR b 0 (s - 1)) with
  | false => simp
  | true => rw [if_pos rfl]; exact Nat.le_trans (Nat.le_of_eq (shi_len s b w)) hw
theorem walks_l1 (s : Int) (r : Bool) (hs : 2 ≤ s ∧ s ≤ 24) (w : List Int) : ∀ (d p k : Nat), p + d = s.toNat → d < k → Q0.l1 k (visitsM w s.toNat) (visitsM (mirW s w) s.toNat) (p : Int) s r = some true
  | 0, p, k, h, hk => by
    obtain ⟨k, rfl⟩ := succ_of (k := k) (by omega)
    simp only [Q0.l1]
    rw [if_neg (by omega)]
  | d + 1, p, k, h, hk => by
    obtain ⟨k, rfl⟩ := succ_of (k := k) (by omega)
    have e : rd (visitsM (mirW s w) s.toNat) (s - 1 - (p : Int)) = rd (visitsM w s.toNat) (p : Int) := by
      rw [show s - 1 - (p : Int) = ((s.toNat - 1 - p : Nat) : Int) by omega, visitsM_rd _ _ _ (by omega), visitsM_rd _ _ _ (by omega), show ((s.toNat - 1 - p : Nat) : Int) = s - 1 - (p : Int) by omega, first_mir]
    simp only [Q0.l1]
    rw [if_pos (by omega), wrap64_id (x := s - 1) (by omega) (by omega), wrap64_id (x := s - 1 - (p : Int)) (by omega) (by omega), if_pos (by omega), if_pos (by rw [visitsM_len]; omega), if_pos (by omega), if_pos (by rw [visitsM_len]; omega), if_pos e, wrap_succ (n := 30) (by omega) (by omega)]
    exact walks_l1 s r hs w d (p + 1) k (by omega) (by omega)
theorem walks_j12 (k : Nat) (s : Int) (r : Bool) (w : List Int) (hw : w.length ≤ 100) (hk : 3000 < k) : Q0.j12 k (visW s r w).1 (okW s r w) (stepsM s r w).1 (mirM s r w).1 (backM s r w).1 s r = some true := by
  obtain ⟨k, rfl⟩ := succ_of (k := k) (by omega)
  simp only [Q0.j12]
  cases h : okW s r w with
  | false => rw [if_neg (by simp)]
  | true =>
    have hb := okW_bd h
    have hs := road_bd hb.1
    have hm := mir_ok h
    have hr := rev_ok h
    have hm2 := okW_bd hm
    have hr2 := okW_bd hr
    have e1 : (mirM s r w).1 = mirW s w := by unfold mirM; rw [h]; rfl
    have e2 : (backM s r w).1 = w.reverse := by unfold backM; rw [h]; rfl
    have e3 : (visW s r w).1 = visitsM w s.toNat := by unfold visW; rw [h]; rfl
    have e4 : (stepsM s r w).1 = stepsN w := by unfold stepsM; rw [h]; rfl
    have i1 : isM s r (mirW s w) = (true, true) := by unfold isM; rw [hb.1, hm2.2.1]; rfl
    have i2 : isM s r w.reverse = (true, true) := by unfold isM; rw [hb.1, hr2.2.1]; rfl
    have i3 : visW s r (mirW s w) = (visitsM (mirW s w) s.toNat, true) := by unfold visW; rw [hm]; rfl
    have i4 : stepsM s r w.reverse = (stepsN w, true) := by unfold stepsM; rw [hr, stepsN_rev]; rfl
    have hl1 : (mirW s w).length ≤ 1000 := by rw [mir_len]; omega
    have hl2 : w.reverse.length ≤ 1000 := by rw [List.length_reverse]; omega
    rw [e1, e2, e3, e4, if_pos rfl, impl_IsWalk_eq k s r _ hl1 (by omega), Option.bind_some, impl_IsWalk_eq k s r _ hl2 (by omega), Option.bind_some, impl_Visits_eq k s r _ hl1 (by omega), Option.bind_some, impl_StepCount_eq k s r _ hl2 (by omega), Option.bind_some, i1, i2, i3, i4]
    simp only [if_true]
    obtain ⟨k, rfl⟩ := succ_of (k := k) (by omega)
    have ln : (((visitsM (mirW s w) s.toNat).length : Int) != s) = false := by
      rw [visitsM_len]
      simp
      omega
    rw [ln]
    simp only [Q0.j13]
    rw [if_neg (by simp)]
    exact walks_l1 s r ⟨hs.1, hs.2.1⟩ w s.toNat 0 k (by omega) (by omega)
theorem walks_j11 (k : Nat) (s : Int) (r : Bool) (w : List Int) (hw : w.length ≤ 100) (a : Int) (a2 : Bool) (u : List Int) (b : Int) (hu : u.length ≤ 100) (hk : 3500 < k) : Q0.j11 k (visW s r w).1 (okW s r w) (stepsM s r w).1 (mirM s r w).1 (backM s r w).1 u (shiM a a2 u b).1 (shiM a a2 u b).2 s r a a2 = some true := by
  obtain ⟨k, rfl⟩ := succ_of (k := k) (by omega)
  have hj := walks_j12 k s r w hw (by omega)
  simp only [Q0.j11]
  cases h : (okW a a2 u && a2 && inR b 0 (a - 1)) with
  | false =>
    have e : shiM a a2 u b = ([], false) := by unfold shiM; rw [h]; rfl
    rw [e, if_neg (by simp)]
    exact hj
  | true =>
    have e : shiM a a2 u b = (shiL a b u, true) := by unfold shiM; rw [h]; rfl
    rw [Bool.and_eq_true, Bool.and_eq_true] at h
    obtain ⟨⟨h1, h2⟩, h3⟩ := h
    subst h2
    have hb := inR_iff.1 h3
    have hok := shi_ok h1 hb
    have hw1 := okW_bd h1
    have hs := road_bd hw1.1
    have t1 : turnsM a true u = (turnsN a true u 0 0, true) := by unfold turnsM; rw [h1]; rfl
    have t2 : turnsM a true (shiL a b u) = (turnsN a true u 0 0, true) := by
      unfold turnsM
      rw [hok, turns_shi a b (hs.2.2 rfl) hb u 0 0 hw1.2.2.2.1]
      rfl
    have tl := turnsN_len a true u 0 0
    rw [e, if_pos rfl, impl_TurnTimes_eq k a true u (by omega) (by omega), Option.bind_some, impl_TurnTimes_eq k a true _ (by rw [shi_len]; omega) (by omega), Option.bind_some, t1, t2]
    simp only [if_true]
    rw [laws_rInts_self k _ (by omega) (by omega), Option.bind_some, if_pos rfl]
    exact hj
theorem walks_l0 (s : Int) (r : Bool) (w : List Int) (q : Int) (q2 : Bool) (hq : 2 ≤ q ∧ q ≤ 24) (v : List Int) (c : Int) (hc : ∀ p : Nat, p < q.toNat → 0 ≤ rd (visitsM v q.toNat) (p : Int) ∧ rd (visitsM v q.toNat) (p : Int) ≤ c) (V : List Int) (o : Bool) (S : Int) (M B u sh : List Int) (so : Bool) (a : Int) (a2 : Bool) : ∀ (d p k : Nat), p + d = q.toNat → 4000 + d < k → ∃ k', 4000 ≤ k' ∧ Q0.l0 k V o S M B c u sh so (visitsM v q.toNat) (p : Int) s r q q2 a a2 = Q0.j11 k' V o S M B u sh so s r a a2
  | 0, p, k, h, hk => by
    obtain ⟨k, rfl⟩ := succ_of (k := k) (by omega)
    refine ⟨k, by omega, ?_⟩
    conv => lhs; simp only [Q0.l0]
    rw [if_neg (by omega)]
  | d + 1, p, k, h, hk => by
    obtain ⟨k, rfl⟩ := succ_of (k := k) (by omega)
    have hcp := hc p (by omega)
    obtain ⟨k', hk', ih⟩ := walks_l0 s r w q q2 hq v c hc V o S M B u sh so a a2 d (p + 1) k (by omega) (by omega)
    refine ⟨k', hk', ?_⟩
    rw [← ih]
    generalize hZ : Q0.l0 k V o S M B c u sh so (visitsM v q.toNat) ((p + 1 : Nat) : Int) s r q q2 a a2 = Z at ih ⊢
    conv => lhs; simp only [Q0.l0]
    rw [if_pos (by omega), if_pos (by omega), if_pos (by rw [visitsM_len]; omega), if_neg (by omega), if_neg (by omega), wrap_succ (n := 30) (by omega) (by omega)]
    exact hZ
theorem walks_j8 (k : Nat) (s : Int) (r : Bool) (w : List Int) (hw : w.length ≤ 100) (q : Int) (q2 : Bool) (v : List Int) (hv : v.length ≤ 100) (a : Int) (a2 : Bool) (u : List Int) (b : Int) (hu : u.length ≤ 100) (hk : 5000 < k) : Q0.j8 k (visW s r w).1 (okW s r w) (stepsM s r w).1 (mirM s r w).1 (backM s r w).1 v (covM q q2 v).1 (covM q q2 v).2 u (shiM a a2 u b).1 (shiM a a2 u b).2 false s r q q2 a a2 = some true := by
  obtain ⟨k, rfl⟩ := succ_of (k := k) (by omega)
  simp only [Q0.j8]
  rw [if_neg (by simp)]
  cases h : (covM q q2 v).2 with
  | false => rw [if_neg (by simp)]; exact walks_j11 k s r w hw a a2 u b hu (by omega)
  | true =>
    have hok : okW q q2 v = true := by
      cases hv : okW q q2 v with
      | true => rfl
      | false => unfold covM at h; rw [hv] at h; exact absurd h (by simp)
    have hb := okW_bd hok
    have hs := road_bd hb.1
    have hcv : covM q q2 v = worstM (visitsM v q.toNat) := by unfold covM; rw [hok]; rfl
    have hany : ((visitsM v q.toNat).any fun x => decide (x < 0)) = false := by
      cases hn : (visitsM v q.toNat).any fun x => decide (x < 0) with
      | false => rfl
      | true => rw [hcv] at h; unfold worstM at h; rw [hn] at h; exact absurd h (by simp)
    have hc1 : (covM q q2 v).1 = (visitsM v q.toNat).foldl mx 0 := by rw [hcv]; unfold worstM; rw [hany]; rfl
    have e3 : visW q q2 v = (visitsM v q.toNat, true) := by unfold visW; rw [hok]; rfl
    obtain ⟨k, rfl⟩ := succ_of (k := k) (by omega)
    have hc : ∀ p : Nat, p < q.toNat → 0 ≤ rd (visitsM v q.toNat) (p : Int) ∧ rd (visitsM v q.toNat) (p : Int) ≤ (visitsM v q.toNat).foldl mx 0 := by
      intro p hp
      have hm : rd (visitsM v q.toNat) (p : Int) ∈ visitsM v q.toNat := by
        rw [rd_nat _ p (by rw [visitsM_len]; exact hp)]
        exact List.getElem_mem _
      have h1 := List.any_eq_false.1 hany _ hm
      simp only [decide_eq_true_eq] at h1
      exact ⟨by omega, (foldMx_ge _ 0).2 _ hm⟩
    have ln : (((visitsM v q.toNat).length : Int) != q) = false := by
      rw [visitsM_len]
      simp
      omega
    rw [if_pos rfl, impl_Visits_eq (k + 1) q q2 v (by omega) (by omega), Option.bind_some, e3, hc1]
    simp only [if_true]
    rw [ln]
    obtain ⟨k', hk', e⟩ := walks_l0 s r w q q2 ⟨hs.1, hs.2.1⟩ v _ hc (visW s r w).1 (okW s r w) (stepsM s r w).1 (mirM s r w).1 (backM s r w).1 u (shiM a a2 u b).1 (shiM a a2 u b).2 a a2 q.toNat 0 k (by omega) (by omega)
    simp only [Q0.j9]
    rw [if_neg (by simp)]
    exact e.trans (walks_j11 k' s r w hw a a2 u b hu (by omega))
theorem walks_j5 (k : Nat) (l0 : List Int) (hl : byteL l0) (s : Int) (r : Bool) (w : List Int) (hw : w.length ≤ 100) (hk : 6000 < k) : Q0.j5 k l0 (visW s r w).1 (okW s r w) (stepsM s r w).1 (mirM s r w).1 (backM s r w).1 false s r = some true := by
  obtain ⟨k, rfl⟩ : ∃ m, k = m + 1 + 1 + 1 := ⟨k - 3, by omega⟩
  obtain ⟨q, q2, v, e1, hv⟩ := DrawCover_ok (k + 1 + 1) l0 hl (by omega)
  obtain ⟨a, a2, u, b, e2, hu⟩ := DrawShift_ok (k + 1) l0 hl (by omega)
  obtain ⟨x, x2, y, t, e3, hy⟩ := DrawPlace_ok k l0 hl (by omega)
  have hsl := shiM_len a a2 u b hu
  simp only [Q0.j5]
  rw [if_neg (by simp), e1, Option.bind_some]
  simp only
  rw [impl_Cover_eq (k + 1 + 1) q q2 v (by omega) (by omega), Option.bind_some, spec_Cover_eq (k + 1 + 1) q q2 v (by omega) (by omega), Option.bind_some, if_pos rfl, bne_same]
  simp only [Q0.j6]
  rw [if_neg (by simp), e2, Option.bind_some]
  simp only
  rw [impl_ShiftWalk_eq (k + 1) a a2 u b (by omega) (by omega), Option.bind_some, spec_ShiftWalk_eq (k + 1) a a2 u b (by omega) (by omega), Option.bind_some, bne_same, if_neg (by simp), laws_rInts_self (k + 1) _ (by omega) (by omega), Option.bind_some]
  simp only [Q0.j7]
  rw [if_neg (by simp), e3, Option.bind_some]
  simp only
  rw [impl_PlaceAt_eq k x x2 y t (by omega) (by omega), Option.bind_some, spec_PlaceAt_eq k x x2 y t (by omega) (by omega), Option.bind_some, if_pos rfl, bne_same]
  exact walks_j8 k s r w hw q q2 v hv a a2 u b hu (by omega)
theorem FnWalks : Q0.Pure := by
  intro l0 hm _ hwf
  have hl : byteL l0 := fun x hx => by
    have := hwf x hx
    simp [Lit.wf, IntKind.min, IntKind.max, IntKind.bits, IntKind.signed, IntKind.wrap] at this
    omega
  refine ⟨10000 + 1 + 1 + 1 + 1 + 1 + 1, ?_⟩
  unfold Q0.f Q46.f
  rw [Option.bind_some]
  by_cases c0 : (l0.length : Int) > 65536
  · rw [decide_eq_true c0, if_pos rfl]
  rw [decide_eq_false c0, if_neg (by simp)]
  obtain ⟨s, r, w, e0, hw⟩ := DrawVisits_ok (10000 + 1 + 1 + 1 + 1 + 1 + 1) l0 hl (by omega)
  rw [e0, Option.bind_some]
  simp only
  have vl := vis_len s r w
  have tl := turns_len s r w hw
  have ml := mirM_len s r w hw
  have bl := backM_len s r w hw
  have hj4 : Q0.j4 (10000 + 1 + 1) l0 w (visW s r w).1 (okW s r w) (stepsM s r w).1 (mirM s r w).1 false s r = some true := by
    generalize hK : 10000 + 1 = K
    simp only [Q0.j4]
    rw [if_neg (by simp), impl_BackWalk_eq K s r w (by omega) (by omega), Option.bind_some, spec_BackWalk_eq K s r w (by omega) (by omega), Option.bind_some, bne_same, if_neg (by simp), back2, bne_same, if_neg (by simp), laws_rInts_self K _ (by omega) (by omega), Option.bind_some]
    exact walks_j5 K l0 hl s r w hw (by omega)
  have hj3 : Q0.j3 (10000 + 1 + 1 + 1) l0 w (visW s r w).1 (okW s r w) (stepsM s r w).1 false s r = some true := by
    generalize hK : 10000 + 1 + 1 = K at hj4 ⊢
    simp only [Q0.j3]
    rw [if_neg (by simp), impl_MirrorWalk_eq K s r w (by omega) (by omega), Option.bind_some, spec_MirrorWalk_eq K s r w (by omega) (by omega), Option.bind_some, bne_same, if_neg (by simp), mir2, bne_same, if_neg (by simp), laws_rInts_self K _ (by omega) (by omega), Option.bind_some]
    exact hj4
  have hj2 : Q0.j2 (10000 + 1 + 1 + 1 + 1) l0 w (visW s r w).1 (okW s r w) (stepsM s r w).1 false s r = some true := by
    generalize hK : 10000 + 1 + 1 + 1 = K at hj3 ⊢
    simp only [Q0.j2]
    rw [if_neg (by simp), impl_TurnTimes_eq K s r w (by omega) (by omega), Option.bind_some, spec_TurnTimes_eq K s r w (by omega) (by omega), Option.bind_some, bne_same, if_neg (by simp), turns2, bne_same, if_neg (by simp), laws_rInts_self K _ (by omega) (by omega), Option.bind_some]
    exact hj3
  have hj1 : Q0.j1 (10000 + 1 + 1 + 1 + 1 + 1) l0 w (visW s r w).1 (okW s r w) false s r = some true := by
    generalize hK : 10000 + 1 + 1 + 1 + 1 = K at hj2 ⊢
    simp only [Q0.j1]
    rw [if_neg (by simp), impl_StepCount_eq K s r w (by omega) (by omega), Option.bind_some, spec_StepCount_eq K s r w (by omega) (by omega), Option.bind_some, if_pos rfl, bne_same, if_neg (by simp), steps2, bne_same]
    exact hj2
  have hj0 : Q0.j0 (10000 + 1 + 1 + 1 + 1 + 1 + 1) l0 w (visW s r w).1 (okW s r w) false s r = some true := by
    generalize hK : 10000 + 1 + 1 + 1 + 1 + 1 = K at hj1 ⊢
    have hi := okW_is s r w
    simp only [Q0.j0]
    rw [if_neg (by simp), impl_IsWalk_eq K s r w (by omega) (by omega), Option.bind_some, spec_IsWalk_eq K s r w (by omega) (by omega), Option.bind_some, bne_same, if_neg (by simp), bne_same, if_neg (by simp)]
    cases h2 : (isM s r w).2 with
    | true =>
      rw [h2, if_pos rfl] at hi
      rw [if_pos rfl, ← hi, bne_same]
      exact hj1
    | false =>
      rw [h2, if_neg (by simp)] at hi
      rw [if_neg (by simp)]
      have : (okW s r w != false) = false := by rw [hi]; rfl
      rw [this]
      exact hj1
  rw [impl_Visits_eq _ s r w (by omega) (by omega), Option.bind_some, spec_Visits_eq _ s r w (by omega) (by omega), Option.bind_some, bne_same, if_neg (by simp), laws_rInts_self _ _ (by omega) (by omega), Option.bind_some, vis2]
  exact hj0

end Go.Proofs.Ytbjpfnpleajhgaa.Pure
