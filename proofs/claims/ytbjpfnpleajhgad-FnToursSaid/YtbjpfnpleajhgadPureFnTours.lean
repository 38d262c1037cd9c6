/- Plain facts on numbers and lists: what the functions that the law FnTours reaches answer, and that the law's own function answers true. No program, no memory. -/
import Derived.Test.YtbjpfnpleajhgadPFnToursx1
import Derived.Test.YtbjpfnpleajhgadPFnToursx2
import Derived.Test.YtbjpfnpleajhgadPFnToursx3
import Derived.Test.YtbjpfnpleajhgadPFnToursx4
import Derived.Test.YtbjpfnpleajhgadPFnToursx5
import Derived.Test.YtbjpfnpleajhgadPFnToursx6
import Derived.Test.YtbjpfnpleajhgadPFnToursx7
import Derived.Test.YtbjpfnpleajhgadPFnToursx8
import Derived.Test.YtbjpfnpleajhgadPFnToursx9
import Derived.Test.YtbjpfnpleajhgadPFnToursx10
import Derived.Test.YtbjpfnpleajhgadPFnToursx11
import Derived.Test.YtbjpfnpleajhgadPFnToursx12
import Derived.Test.YtbjpfnpleajhgadPFnToursx13
import Derived.Test.YtbjpfnpleajhgadPFnToursx14
import Derived.Test.YtbjpfnpleajhgadPFnToursx15
import Derived.Test.YtbjpfnpleajhgadPFnToursx16
import Derived.Test.YtbjpfnpleajhgadPFnToursx17
import Derived.Test.YtbjpfnpleajhgadPFnToursx18
import Derived.Test.YtbjpfnpleajhgadPFnToursx19
import Derived.Laws.Bits64b
namespace Go.Proofs.Ytbjpfnpleajhgad.Pure
open Go.RowKit Go.Proofs.Ytbjpfnpleajhgad.PFnTours Go.Proofs.YtbjpfnpleajhgadW.PrintWords Go.Proofs.YtbjpfnpleajhgadW.PrintLast Go.Proofs.YtbjpfnpleajhgadW.PrintMore
set_option linter.unusedVariables false
set_option linter.unusedSimpArgs false
theorem wrap64_id {x : Int} (h1 : -9223372036854775808 ≤ x) (h2 : x ≤ 9223372036854775807) : wrap64 x = x := by unfold wrap64; omega
def inR (x a b : Int) : Bool := decide (a ≤ x) && decide (x ≤ b)
theorem inR_iff {x a b : Int} : inR x a b = true ↔ a ≤ x ∧ x ≤ b := by unfold inR; simp
theorem inR_not {x a b : Int} : inR x a b = false ↔ ¬ (a ≤ x ∧ x ≤ b) := by rw [← inR_iff]; simp
def road (s : Int) (r : Bool) : Bool := inR s 2 24 && (!r || decide (3 ≤ s))
theorem road_bd {s : Int} {r : Bool} (h : road s r = true) : 2 ≤ s ∧ s ≤ 24 ∧ (r = true → 3 ≤ s) := by
  unfold road at h
  rw [Bool.and_eq_true, inR_iff] at h
  refine ⟨h.1.1, h.1.2, fun hr => ?_⟩
  have := h.2
  simp [hr] at this
  exact this
theorem spec_l1In_eq (a b c : Int) : Q22.f a b c = some (inR a b c) := by
  unfold Q22.f inR
  by_cases h : a ≥ b
  · have h' : b ≤ a := h
    simp [h, h']
  · have h' : ¬ b ≤ a := h
    simp [h, h']
theorem impl_within_eq (a b c : Int) : Q19.f a b c = some (inR a b c) := by
  unfold Q19.f inR
  by_cases h : a ≥ b
  · have h' : b ≤ a := h
    simp [h, h']
  · have h' : ¬ b ≤ a := h
    simp [h, h']
theorem spec_l2Road_eq (s : Int) (r : Bool) : Q44.f s r = some (road s r) := by
  unfold Q44.f road
  rw [spec_l1In_eq, Option.bind_some]
  cases inR s 2 24 <;> cases r <;> simp
  omega
theorem impl_IsRoad_eq (s : Int) (r : Bool) : Q28.f s r = some (road s r) := by
  unfold Q28.f road
  rw [impl_within_eq, Option.bind_some]
  cases inR s 2 24 <;> cases r <;> simp
theorem wrap_succ {i n : Nat} (h : i < n) (hn : n ≤ 9223372036854775807) : wrap64 ((i : Int) + 1) = ((i + 1 : Nat) : Int) := by unfold wrap64; omega
theorem drop_rd (l : List Int) (i : Nat) (h : i < l.length) : l.drop i = rd l (i : Int) :: l.drop (i + 1) := by
  rw [List.drop_eq_getElem_cons h]
  unfold rd
  simp [List.getD_eq_getElem?_getD, h]
theorem rd_get (l : List Int) (i : Nat) (h : i < l.length) : rd l (i : Int) = l[i] := by
  unfold rd
  simp [List.getD_eq_getElem?_getD, h]
theorem succ_of {k : Nat} (h : 0 < k) : ∃ m, k = m + 1 := ⟨k - 1, by omega⟩
theorem drop_end {α : Type} (l : List α) (i : Nat) (h : l.length ≤ i) : l.drop i = [] := List.drop_of_length_le h
def allIn (l : List Int) (a b : Int) : Bool := l.all (fun x => inR x a b)
theorem impl_allWithin_l0 (lo hi : Int) (l : List Int) (hl : l.length ≤ 9223372036854775807) : ∀ (d i k : Nat), i + d = l.length → d < k →
    Q20.l0 k lo hi l (l.length : Int) (i : Int) = some (allIn (l.drop i) lo hi)
  | 0, i, k, h, hk => by
    obtain ⟨k, rfl⟩ := succ_of (k := k) (by omega)
    simp only [Q20.l0]
    rw [if_neg (by omega), drop_end l i (by omega)]
    rfl
  | d + 1, i, k, h, hk => by
    obtain ⟨k, rfl⟩ := succ_of (k := k) (by omega)
    simp only [Q20.l0]
    rw [if_pos (by omega), if_pos (by omega), if_pos (by omega), impl_within_eq, Option.bind_some, wrap_succ (n := l.length) (by omega) hl, impl_allWithin_l0 lo hi l hl d (i + 1) k (by omega) (by omega), drop_rd l i (by omega)]
    unfold allIn
    rw [List.all_cons]
    cases inR (rd l (i : Int)) lo hi <;> simp
theorem impl_allWithin_eq (k : Nat) (l : List Int) (a b : Int) (hl : l.length ≤ 9223372036854775807) (hk : l.length < k) : Q20.f k l a b = some (allIn l a b) := by
  unfold Q20.f
  have := impl_allWithin_l0 a b l hl l.length 0 k (by omega) hk
  simpa using this
theorem impl_Road_has_eq (k : Nat) (s : Int) (r : Bool) (l : List Int) (hl : l.length ≤ 9223372036854775807) (hk : l.length < k) : Q10.f k s r l = some (allIn l 0 (wrap64 (s - 1))) := by
  unfold Q10.f
  rw [impl_allWithin_eq k l _ _ hl hk, Option.bind_some]
theorem impl_Road_has1 (k : Nat) (s : Int) (r : Bool) (x : Int) (hs : road s r = true) (hk : 1 < k) : Q10.f k s r [x] = some (inR x 0 (s - 1)) := by
  rw [impl_Road_has_eq k s r [x] (by simp) (by simpa using hk)]
  have := road_bd hs
  rw [wrap64_id (by omega) (by omega)]
  simp [allIn]
theorem impl_Road_hasN (k : Nat) (s : Int) (r : Bool) (l : List Int) (hs : road s r = true) (hl : l.length ≤ 9223372036854775807) (hk : l.length < k) : Q10.f k s r l = some (allIn l 0 (s - 1)) := by
  rw [impl_Road_has_eq k s r l hl hk]
  have := road_bd hs
  rw [wrap64_id (by omega) (by omega)]
theorem spec_l2Place_eq (s : Int) (r : Bool) (x : Int) : Q18.f s r x = some (road s r && inR x 0 (s - 1)) := by
  unfold Q18.f
  rw [spec_l2Road_eq, Option.bind_some]
  cases h : road s r with
  | false => simp
  | true =>
    have := road_bd h
    rw [wrap64_id (by omega) (by omega)]
    simp [spec_l1In_eq]
def gapM (s : Int) (r : Bool) (a b : Int) : Int :=
  let d := if a - b < b - a then b - a else a - b
  if r = true then (if s - d < d then s - d else d) else d
theorem gapM_bd {s : Int} {r : Bool} {a b : Int} (hs : 2 ≤ s) (ha : 0 ≤ a ∧ a ≤ s - 1) (hb : 0 ≤ b ∧ b ≤ s - 1) : 0 ≤ gapM s r a b ∧ gapM s r a b ≤ s - 1 := by
  unfold gapM
  simp only
  split <;> split <;> (try split) <;> omega
theorem impl_Road_gap_eq (s : Int) (r : Bool) (a b : Int) (hs : 0 ≤ s ∧ s ≤ 1000) (ha : -1000000 ≤ a ∧ a ≤ 1000000) (hb : -1000000 ≤ b ∧ b ≤ 1000000) : Q40.f s r a b = some (gapM s r a b) := by
  unfold Q40.f gapM
  have e1 : wrap64 (a - b) = a - b := wrap64_id (by omega) (by omega)
  have e2 : wrap64 (b - a) = b - a := wrap64_id (by omega) (by omega)
  rw [e1, e2]
  have e : mx (a - b) (b - a) = if a - b < b - a then b - a else a - b := rfl
  rw [e]
  have e3 : wrap64 (s - (if a - b < b - a then b - a else a - b)) = s - (if a - b < b - a then b - a else a - b) := wrap64_id (by split <;> omega) (by split <;> omega)
  rw [e3]
  unfold mn
  cases r <;> simp
def lo2 (a b : Int) : Int := if a < b then a else b
theorem spec_l1Least_eq (a b : Int) : Q31.f a b = some (lo2 a b) := by unfold Q31.f lo2; split <;> rfl
def hi2 (a b : Int) : Int := if b < a then a else b
theorem spec_l1Most_eq (a b : Int) : Q30.f a b = some (hi2 a b) := by unfold Q30.f hi2; by_cases h : b < a <;> simp [h]
theorem spec_l2Gap_eq (s : Int) (r : Bool) (a b : Int) (hs : 0 ≤ s ∧ s ≤ 1000) (ha : -1000000 ≤ a ∧ a ≤ 1000000) (hb : -1000000 ≤ b ∧ b ≤ 1000000) : Q53.f s r a b = some (gapM s r a b) := by
  unfold Q53.f gapM
  rw [wrap64_id (x := a - b) (by omega) (by omega), wrap64_id (x := b - a) (by omega) (by omega), spec_l1Most_eq, Option.bind_some]
  have e : hi2 (a - b) (b - a) = if a - b < b - a then b - a else a - b := by unfold hi2; split <;> split <;> omega
  rw [e]
  have e3 : wrap64 (s - (if a - b < b - a then b - a else a - b)) = s - (if a - b < b - a then b - a else a - b) := wrap64_id (by split <;> omega) (by split <;> omega)
  rw [e3, spec_l1Least_eq]
  unfold lo2
  cases r <;> simp
  split <;> split <;> omega
theorem allIn_rd {l : List Int} {a b : Int} (h : allIn l a b = true) (i : Nat) (hi : i < l.length) : a ≤ rd l (i : Int) ∧ rd l (i : Int) ≤ b := by
  unfold allIn at h
  rw [List.all_eq_true] at h
  rw [rd_get l i hi]
  exact inR_iff.1 (h _ (List.getElem_mem hi))
theorem rd_bd {l : List Int} {a b : Int} (h : allIn l a b = true) (i : Nat) (hi : i < l.length) : a ≤ rd l (i : Int) ∧ rd l (i : Int) ≤ b := allIn_rd h i hi
def tot : List (List Int) → Nat
  | [] => 0
  | x :: t => x.length + tot t
theorem allIn_rdZ {l : List Int} {a b : Int} (h : allIn l a b = true) {i : Int} (h0 : 0 ≤ i) (h1 : i < (l.length : Int)) : a ≤ rd l i ∧ rd l i ≤ b := by
  obtain ⟨n, rfl⟩ := Int.eq_ofNat_of_zero_le h0
  have hn : n < l.length := by omega
  have e := rd_get l n hn
  unfold allIn at h
  have := List.all_eq_true.1 h _ (List.getElem_mem hn)
  rw [inR_iff] at this
  rw [e]
  exact this
def stepW (s : Int) (r : Bool) (p x : Int) : Int := if r = true then Int.tmod (p + x + s) s else if inR (p + x) 0 (s - 1) = true then p + x else p
theorem stepW_bd {s : Int} {r : Bool} {p x : Int} (hs : 2 ≤ s) (hp : 0 ≤ p ∧ p ≤ s - 1) (hx : -1 ≤ x ∧ x ≤ 1) : 0 ≤ stepW s r p x ∧ stepW s r p x ≤ s - 1 := by
  unfold stepW
  by_cases c : r = true
  · rw [if_pos c]
    have h1 := Int.tmod_nonneg s (show 0 ≤ p + x + s by omega)
    have h2 := Int.tmod_lt_of_pos (p + x + s) (show 0 < s by omega)
    omega
  · rw [if_neg c]
    by_cases d : inR (p + x) 0 (s - 1) = true
    · rw [if_pos d]
      exact inR_iff.1 d
    · rw [if_neg d]
      exact hp
theorem spec_l2Step_eq (s : Int) (r : Bool) (p x : Int) (hs : 2 ≤ s ∧ s ≤ 24) (hp : 0 ≤ p ∧ p ≤ s - 1) (hx : -1 ≤ x ∧ x ≤ 1) : Q41.f s r p x = some (stepW s r p x) := by
  unfold Q41.f stepW
  by_cases c : r = true
  · rw [if_pos c, if_pos c, if_neg (by omega), wrap64_id (x := p + x) (by omega) (by omega), wrap64_id (by omega) (by omega)]
  · rw [if_neg c, if_neg c, wrap64_id (x := p + x) (by omega) (by omega), wrap64_id (by omega) (by omega), spec_l1Least_eq, Option.bind_some, spec_l1Most_eq, Option.bind_some]
    congr 1
    unfold inR lo2 hi2
    by_cases d : 0 ≤ p + x <;> by_cases e : p + x ≤ s - 1 <;> simp [d, e] <;> (repeat' split) <;> omega
/-- From place i on, d places long: each is at most one away from the one ahead of it. -/
def chnM (s : Int) (r : Bool) (l : List Int) : Nat → Nat → Bool
  | _, 0 => true
  | i, d + 1 => decide (gapM s r (rd l ((i : Int) - 1)) (rd l (i : Int)) ≤ 1) && chnM s r l (i + 1) d
theorem chnM_succ (s : Int) (r : Bool) (l : List Int) (i d : Nat) : chnM s r l i (d + 1) = (decide (gapM s r (rd l ((i : Int) - 1)) (rd l (i : Int)) ≤ 1) && chnM s r l (i + 1) d) := rfl
def walkOkM (s : Int) (r : Bool) (l : List Int) : Bool := inR (l.length : Int) 1 61 && allIn l 0 (s - 1) && chnM s r l 1 (l.length - 1)
theorem impl_Road_isWalk_l0 (s : Int) (r : Bool) (hr : road s r = true) (l : List Int) (hl : l.length ≤ 61) (ha : allIn l 0 (s - 1) = true) : ∀ (d i k : Nat), i + d = l.length → 1 ≤ i → d < k →
    Q12.l0 k l (i : Int) s r = some (chnM s r l i d)
  | 0, i, k, h, h1, hk => by
    obtain ⟨k, rfl⟩ := succ_of (k := k) (by omega)
    simp only [Q12.l0]
    rw [if_neg (by omega)]
    rfl
  | d + 1, i, k, h, h1, hk => by
    obtain ⟨k, rfl⟩ := succ_of (k := k) (by omega)
    have hb := road_bd hr
    have b1 := rd_bd ha i (by omega)
    have b2 := rd_bd ha (i - 1) (by omega)
    rw [Int.natCast_sub h1] at b2
    simp only [Q12.l0]
    rw [if_pos (by omega), wrap64_id (x := (i : Int) - 1) (by omega) (by omega), if_pos (by omega), if_pos (by omega), if_pos (by omega), impl_Road_gap_eq s r _ _ (by omega) (by simp at b2; omega) (by omega), Option.bind_some, wrap_succ (n := l.length) (by omega) (by omega), impl_Road_isWalk_l0 s r hr l hl ha d (i + 1) k (by omega) (by omega) (by omega), chnM_succ]
    by_cases c : gapM s r (rd l ((i : Int) - 1)) (rd l (i : Int)) > 1
    · rw [if_pos c, decide_eq_false (by omega)]
      simp
    · rw [if_neg c, decide_eq_true (by omega)]
      simp
theorem impl_Road_isWalk_eq (k : Nat) (s : Int) (r : Bool) (hr : road s r = true) (l : List Int) (hl : l.length ≤ 9223372036854775807) (hk : l.length + 3 < k) (hk2 : 70 < k) :
    Q12.f k s r l = some (walkOkM s r l) := by
  obtain ⟨k, rfl⟩ := succ_of (k := k) (by omega)
  unfold Q12.f walkOkM
  rw [impl_within_eq, Option.bind_some]
  cases hi : inR (l.length : Int) 1 61 with
  | false => simp [Q12.j0]
  | true =>
    have hi := inR_iff.1 hi
    rw [if_pos rfl, impl_Road_hasN (k + 1) s r l hr hl (by omega), Option.bind_some]
    cases ha : allIn l 0 (s - 1) with
    | false => simp [Q12.j0]
    | true =>
      have := impl_Road_isWalk_l0 s r hr l (by omega) ha (l.length - 1) 1 k (by omega) (by omega) (by omega)
      simp only [Q12.j0, Bool.not_true]
      rw [if_neg (by simp)]
      simpa using this
open Go.Proofs.Ytbjpfnpleajhgad.Own in
theorem anyOL_eq {α : Type} {q : α → Option Bool} {p : α → Bool} : ∀ {l : List α}, (∀ x ∈ l, q x = some (p x)) → anyO q l = some (l.any p)
  | [], _ => rfl
  | x :: t, h => by
    simp only [anyO]
    rw [h x (List.mem_cons_self ..), Option.bind_some, anyOL_eq (fun y hy => h y (List.mem_cons_of_mem _ hy)), List.any_cons]
    cases p x <;> simp
theorem impl_areWalks_eq (k : Nat) (s : Int) (r : Bool) (ls : List (List Int)) (hx : ∀ x ∈ ls, x.length ≤ 9223372036854775807 ∧ x.length + 3 < k) (hk : 70 < k) :
    Q14.f k s r ls = some (road s r && ls.all (walkOkM s r)) := by
  unfold Q14.f
  rw [impl_IsRoad_eq, Option.bind_some]
  cases hr : road s r with
  | false => simp
  | true =>
    rw [if_pos rfl, anyOL_eq (p := fun x => !walkOkM s r x)]
    · rw [Option.bind_some, Bool.true_and]
      congr 1
      clear hx
      induction ls with
      | nil => rfl
      | cons x ls ih => rw [List.any_cons, List.all_cons, Bool.not_or, Bool.not_not, ih]
    · intro x hm
      rw [impl_Road_isWalk_eq k s r hr x (hx x hm).1 (hx x hm).2 hk]
      rfl
theorem spec_l2Walk_l0 (s : Int) (r : Bool) (hr : road s r = true) (l : List Int) (hl : l.length ≤ 9223372036854775807) : ∀ (d i k : Nat), i + d = min 61 l.length → allIn (l.take i) 0 (s - 1) = true → 2 * d + 1 < k →
    Q3.l0 k l (i : Int) s r = some (inR (l.length : Int) 1 61 && allIn l 0 (s - 1) && chnM s r l (max i 1) (l.length - max i 1))
  | 0, i, k, h, ha, hk => by
    obtain ⟨k, rfl⟩ := succ_of (k := k) (by omega)
    obtain ⟨k, rfl⟩ := succ_of (k := k) (by omega)
    have hf : (if (i : Int) < (l.length : Int) then Q3.j1 (k + 1) l (i : Int) (decide ((i : Int) ≤ 60)) s r else Q3.j1 (k + 1) l (i : Int) false s r) = Q3.j1 (k + 1) l (i : Int) false s r := by
      by_cases c : (i : Int) < (l.length : Int)
      · rw [if_pos c, decide_eq_false (by omega)]
      · rw [if_neg c]
    simp only [Q3.l0]
    rw [hf]
    simp only [Q3.j1]
    rw [if_neg (by simp), spec_l2Road_eq, hr, Option.bind_some, if_pos rfl, spec_l1In_eq, Option.bind_some]
    cases c : inR (l.length : Int) 1 61 with
    | false => simp
    | true =>
      have c := inR_iff.1 c
      rw [List.take_of_length_le (by omega)] at ha
      rw [ha, show l.length - max i 1 = 0 by omega]
      rfl
  | d + 1, i, k, h, ha, hk => by
    obtain ⟨k, rfl⟩ := succ_of (k := k) (by omega)
    obtain ⟨k, rfl⟩ := succ_of (k := k) (by omega)
    have hb := road_bd hr
    simp only [Q3.l0]
    rw [if_pos (by omega), decide_eq_true (by omega)]
    simp only [Q3.j1]
    rw [if_pos trivial, if_pos (by omega), if_pos (by omega), spec_l2Place_eq, Option.bind_some, hr, Bool.true_and]
    cases hi : inR (rd l (i : Int)) 0 (s - 1) with
    | true =>
      have hi' := inR_iff.1 hi
      have ih := spec_l2Walk_l0 s r hr l hl d (i + 1) k (by omega) (by
        rw [List.take_succ_eq_append_getElem (show i < l.length by omega)]
        unfold allIn at ha ⊢
        rw [List.all_append, ha, ← rd_get l i (by omega)]
        simp [hi]) (by omega)
      rw [if_pos rfl, wrap_succ (n := l.length) (by omega) hl]
      by_cases z : i = 0
      · subst z
        rw [if_neg (by omega), ih]
        rfl
      · have b2 : 0 ≤ rd l ((i : Int) - 1) ∧ rd l ((i : Int) - 1) ≤ s - 1 := by
          have hm : (l.take i).length = i := by rw [List.length_take]; omega
          have := rd_bd ha (i - 1) (by omega)
          rw [rd_get _ _ (by omega), List.getElem_take, ← rd_get l (i - 1) (by omega)] at this
          rw [show ((i : Int) - 1) = ((i - 1 : Nat) : Int) by omega]
          exact this
        rw [if_pos (by omega), wrap64_id (x := (i : Int) - 1) (by omega) (by omega), if_pos (by omega), if_pos (by omega), spec_l2Gap_eq s r _ _ (by omega) (by omega) (by omega), Option.bind_some, ih]
        rw [show max (i + 1) 1 = i + 1 by omega, show max i 1 = i by omega, show l.length - i = (l.length - (i + 1)) + 1 by omega, chnM_succ]
        by_cases c : gapM s r (rd l ((i : Int) - 1)) (rd l (i : Int)) > 1
        · rw [if_pos c, decide_eq_false (by omega)]
          simp
        · rw [if_neg c, decide_eq_true (by omega)]
          simp
    | false =>
      have : allIn l 0 (s - 1) = false := by
        cases h2 : allIn l 0 (s - 1) with
        | false => rfl
        | true =>
          have := rd_bd h2 i (by omega)
          rw [inR_iff.2 this] at hi
          cases hi
      simp [this]
theorem spec_l2Walk_eq (k : Nat) (s : Int) (r : Bool) (l : List Int) (hl : l.length ≤ 9223372036854775807) (hk : 200 < k) : Q3.f k s r l = some (road s r && walkOkM s r l) := by
  unfold Q3.f walkOkM
  cases hr : road s r with
  | true =>
    have := spec_l2Walk_l0 s r hr l hl (min 61 l.length) 0 k (by omega) (by simp [allIn]) (by omega)
    rw [Bool.true_and]
    exact this
  | false =>
    obtain ⟨k, rfl⟩ := succ_of (k := k) (by omega)
    obtain ⟨k, rfl⟩ := succ_of (k := k) (by omega)
    simp only [Q3.l0]
    by_cases c : (0 : Int) < (l.length : Int)
    · rw [if_pos c, decide_eq_true (by omega)]
      simp only [Q3.j1]
      rw [if_pos trivial, if_pos (by omega), if_pos c, spec_l2Place_eq, hr]
      simp
    · rw [if_neg c]
      simp only [Q3.j1]
      rw [if_neg (by simp), spec_l2Road_eq, hr]
      simp
/-- The place of the first x in a list whose places begin with i, or -1. -/
def firstM (x : Int) : List Int → Nat → Int
  | [], _ => -1
  | y :: t, i => if y = x then (i : Int) else firstM x t (i + 1)
theorem firstM_bd (x : Int) : ∀ (l : List Int) (i : Nat), firstM x l i = -1 ∨ ((i : Int) ≤ firstM x l i ∧ firstM x l i < (i : Int) + l.length)
  | [], i => .inl rfl
  | y :: t, i => by
    simp only [firstM, List.length_cons]
    split
    · right; omega
    · rcases firstM_bd x t (i + 1) with h | h
      · exact .inl h
      · right; omega
theorem slices_Index_l0 (x : Int) (l : List Int) (hl : l.length ≤ 9223372036854775807) : ∀ (d i k : Nat), i + d = l.length → d < k → Q37.l0 k l x (l.length : Int) (i : Int) = some (firstM x (l.drop i) i)
  | 0, i, k, h, hk => by
    obtain ⟨k, rfl⟩ := succ_of (k := k) (by omega)
    simp only [Q37.l0]
    rw [if_neg (by omega), drop_end l i (by omega)]
    rfl
  | d + 1, i, k, h, hk => by
    obtain ⟨k, rfl⟩ := succ_of (k := k) (by omega)
    simp only [Q37.l0]
    rw [if_pos (by omega), if_pos (by omega), if_pos (by omega), wrap_succ (n := l.length) (by omega) hl, slices_Index_l0 x l hl d (i + 1) k (by omega) (by omega), drop_rd l i (by omega)]
    simp only [firstM]
    by_cases c : x = rd l (i : Int)
    · rw [if_pos c, if_pos c.symm]
    · rw [if_neg c, if_neg (fun h => c h.symm)]
theorem slices_Index_eq (k : Nat) (x : Int) (l : List Int) (hl : l.length ≤ 9223372036854775807) (hk : l.length < k) : Q37.f k l x = some (firstM x l 0) := by
  unfold Q37.f
  exact slices_Index_l0 x l hl l.length 0 k (by omega) hk
def worstM (L : List Int) : Int × Bool := if (L.any fun x => decide (x < 0)) = true then (0, false) else (L.foldl mx 0, true)
theorem impl_copied_eq (l : List Int) (hl : l.length ≤ 1048576) : Q58.f l = some l := by
  unfold Q58.f
  rw [Option.bind_some, if_pos (by simp; omega)]
  rfl
theorem firstM_ge7 (x : Int) : ∀ (l : List Int) (i : Nat), 0 ≤ firstM x l i ↔ (l.any fun y => decide (y = x)) = true
  | [], i => by simp [firstM]
  | y :: t, i => by
    have ih := firstM_ge7 x t (i + 1)
    have e : firstM x (y :: t) i = if y = x then (i : Int) else firstM x t (i + 1) := rfl
    rw [e, List.any_cons]
    by_cases c : y = x
    · rw [if_pos c, decide_eq_true c]
      exact ⟨fun _ => rfl, fun _ => by omega⟩
    · rw [if_neg c, decide_eq_false c, Bool.false_or]
      exact ih
theorem slices_Contains_eq7 (k : Nat) (x : Int) (l : List Int) (hl : l.length ≤ 9223372036854775807) (hk : l.length < k) : Q50.f k l x = some (l.any fun y => decide (y = x)) := by
  unfold Q50.f
  rw [slices_Index_eq k x l hl hk, Option.bind_some]
  congr 1
  rw [Bool.eq_iff_iff, decide_eq_true_iff]
  exact firstM_ge7 x l 0
theorem slices_Grow_nil_eq (a : Int) (h : 0 ≤ a ∧ a ≤ 1099511627776) : Q65.f a = some [] := by
  unfold Q65.f
  rw [if_neg (by omega), wrap64_id (by omega) (by omega)]
  by_cases c : a > 0
  · rw [if_pos c, if_pos (by omega), if_pos (by simp; omega), Option.bind_some, if_pos (by omega)]
    simp
  · rw [if_neg c]
theorem rdLLc (ws : List (List Int)) (i : Nat) (h : i < ws.length) : rd_L2 ws (i : Int) = ws[i] := by
  unfold rd_L2
  simp [List.getD_eq_getElem?_getD, List.getElem?_eq_getElem h]
theorem tot_drop (ls : List (List Int)) (i : Nat) (h : i < ls.length) : tot (ls.drop i) = ls[i].length + tot (ls.drop (i + 1)) := by rw [List.drop_eq_getElem_cons h]; rfl
theorem slices_Concat_l1 (ls : List (List Int)) (hl : ls.length ≤ 1048576) : ∀ (d i k : Nat) (acc : List Int), i + d = ls.length → acc.length + tot (ls.drop i) ≤ 1099511627776 → d < k →
    Q25.l1 k acc ls (ls.length : Int) (i : Int) = some (acc ++ (ls.drop i).flatten)
  | 0, i, k, acc, h, ha, hk => by
    obtain ⟨k, rfl⟩ := succ_of (k := k) (by omega)
    simp only [Q25.l1]
    rw [if_neg (by omega), drop_end ls i (by omega)]
    simp
  | d + 1, i, k, acc, h, ha, hk => by
    obtain ⟨k, rfl⟩ := succ_of (k := k) (by omega)
    have ht := tot_drop ls i (by omega)
    simp only [Q25.l1]
    rw [if_pos (by omega), if_pos (by omega), if_pos (by omega), rdLLc ls i (by omega), if_pos (by omega), wrap_succ (n := ls.length) (by omega) (by omega), slices_Concat_l1 ls hl d (i + 1) k _ (by omega) (by rw [List.length_append]; omega) (by omega), List.drop_eq_getElem_cons (show i < ls.length by omega), List.flatten_cons, List.append_assoc]
theorem slices_Concat_l0 (ls : List (List Int)) (hl : ls.length ≤ 1048576) (ht0 : tot ls ≤ 1099511627776) : ∀ (d i k : Nat) (a : Nat), i + d = ls.length → a + tot (ls.drop i) ≤ 1099511627776 → d + ls.length + 2 < k →
    Q25.l0 k ls (a : Int) ls (ls.length : Int) (i : Int) = some ls.flatten
  | 0, i, k, a, h, ha, hk => by
    obtain ⟨k, rfl⟩ := succ_of (k := k) (by omega)
    have := slices_Concat_l1 ls hl ls.length 0 k [] (by omega) (by simpa using ht0) (by omega)
    simp only [Q25.l0]
    rw [if_neg (by omega), slices_Grow_nil_eq _ (by omega), Option.bind_some]
    simpa using this
  | d + 1, i, k, a, h, ha, hk => by
    obtain ⟨k, rfl⟩ := succ_of (k := k) (by omega)
    have ht := tot_drop ls i (by omega)
    simp only [Q25.l0]
    rw [if_pos (by omega), if_pos (by omega), if_pos (by omega), rdLLc ls i (by omega), wrap64_id (x := (a : Int) + (ls[i].length : Int)) (by omega) (by omega), if_neg (by omega), wrap_succ (n := ls.length) (by omega) (by omega), show (a : Int) + (ls[i].length : Int) = ((a + ls[i].length : Nat) : Int) by omega]
    exact slices_Concat_l0 ls hl ht0 d (i + 1) k _ (by omega) (by omega) (by omega)
theorem slices_Concat_eq (k : Nat) (ls : List (List Int)) (hl : ls.length ≤ 1048576) (ht : tot ls ≤ 1099511627776) (hk : 2 * ls.length + 2 < k) : Q25.f k ls = some ls.flatten := by
  unfold Q25.f
  exact slices_Concat_l0 ls hl ht ls.length 0 k 0 (by omega) (by simpa using ht) (by omega)
def byteL (l : List Int) : Prop := ∀ x ∈ l, 0 ≤ x ∧ x ≤ 255
theorem rd_in {l : List Int} {i : Int} (h0 : 0 ≤ i) (h1 : i < (l.length : Int)) : rd l i ∈ l := by
  unfold rd
  rw [List.getD_eq_getElem?_getD, List.getElem?_eq_getElem (show i.toNat < l.length by omega)]
  exact List.getElem_mem _
theorem u64_bd (x : Int) : 0 ≤ IntKind.u64.wrap x ∧ IntKind.u64.wrap x < 18446744073709551616 := by
  simp [IntKind.wrap, IntKind.bits, IntKind.signed]
  omega
theorem and255 (x : Int) (h0 : 0 ≤ x) (h1 : x < 18446744073709551616) : 0 ≤ Go.bits .and .u64 x 255 ∧ Go.bits .and .u64 x 255 ≤ 255 := by
  obtain ⟨n, rfl⟩ := Int.eq_ofNat_of_zero_le h0
  have h := bits_and_u64_nat n 255 (by omega) (by decide)
  rw [show ((255 : Nat) : Int) = 255 from rfl] at h
  rw [h]
  have h2 := Nat.and_le_right (n := n) (m := 255)
  omega
theorem next_ok (l : List Int) (hl : byteL l) (a b : Int) (h0 : 0 ≤ a) (h1 : a + 1 ≤ 4000000000000000000) : ∃ x b', Q49.f l a b = some (x, a + 1, b') ∧ 0 ≤ x ∧ x ≤ 255 := by
  unfold Q49.f
  have e : wrap64 (a + 1) = a + 1 := wrap64_id (by omega) (by omega)
  rw [e]
  by_cases c : a < (l.length : Int)
  · rw [if_pos c, if_pos h0, if_pos (by omega)]
    have hx := hl _ (rd_in h0 c)
    rw [wrap64_id (x := rd l a) (by omega) (by omega)]
    exact ⟨_, _, rfl, hx.1, hx.2⟩
  · rw [if_neg c, if_neg (by omega)]
    have hb := u64_bd (IntKind.u64.wrap (IntKind.u64.wrap (b * 6364136223846793005)) + 462197)
    generalize IntKind.u64.wrap (IntKind.u64.wrap (IntKind.u64.wrap (b * 6364136223846793005)) + 462197) = U at hb ⊢
    have h := and255 (U / 1099511627776) (by omega) (by omega)
    refine ⟨_, _, rfl, ?_⟩
    rw [wrap64_id (by omega) (by omega)]
    exact h
theorem pick_ok (l : List Int) (hl : byteL l) (a b n : Int) (h0 : 0 ≤ a) (h1 : a + 1 ≤ 4000000000000000000) (hn : n ≤ 200) : ∃ x a' b', Q16.f l a b n = some (x, a', b') ∧ (0 ≤ x ∧ x ≤ 200 ∧ (x < n ∨ x = 0)) ∧ a ≤ a' ∧ a' ≤ a + 1 := by
  unfold Q16.f
  by_cases c : n ≤ 1
  · rw [if_pos c]
    exact ⟨0, a, b, rfl, by omega, by omega, by omega⟩
  · obtain ⟨x, b', e, hx⟩ := next_ok l hl a b h0 h1
    rw [if_neg c, e, Option.bind_some, if_neg (by omega), if_neg (by omega)]
    have h3 := Int.tmod_nonneg n hx.1
    have h4 := Int.tmod_lt_of_pos x (show 0 < n by omega)
    have h5 : 0 ≤ Int.tmod x n ∧ Int.tmod x n ≤ 200 ∧ (Int.tmod x n < n ∨ Int.tmod x n = 0) := by omega
    exact ⟨_, _, _, rfl, h5, by show a ≤ a + 1; omega, by show a + 1 ≤ a + 1; omega⟩
theorem one_ok (l : List Int) (hl : byteL l) (a b n : Int) (h0 : 0 ≤ a) (h1 : a + 1 ≤ 4000000000000000000) (hn : n ≤ 200) : ∃ (x : Bool) (a' b' : Int), Q23.f l a b n = some (x, a', b') ∧ a ≤ a' ∧ a' ≤ a + 1 := by
  unfold Q23.f
  obtain ⟨x, a', b', e, _, h3⟩ := pick_ok l hl a b n h0 h1 hn
  rw [e]
  exact ⟨_, _, _, rfl, h3⟩
theorem among_ok (l : List Int) (hl : byteL l) (a b : Int) (xs : List Int) (h0 : 0 ≤ a) (h1 : a + 1 ≤ 4000000000000000000) (hx : 0 < xs.length) (hx2 : xs.length ≤ 200) : ∃ x a' b', Q9.f l a b xs = some (x, a', b') ∧ x ∈ xs ∧ a ≤ a' ∧ a' ≤ a + 1 := by
  unfold Q9.f
  obtain ⟨x, a', b', e, h2, h3⟩ := pick_ok l hl a b (xs.length : Int) h0 h1 (by omega)
  rw [e, Option.bind_some, if_pos h2.1, if_pos (by show x < _; omega)]
  exact ⟨_, _, _, rfl, rd_in h2.1 (by omega), h3⟩
theorem size_ok (l : List Int) (hl : byteL l) (a b : Int) (h0 : 0 ≤ a) (h1 : a + 2 ≤ 4000000000000000000) : ∃ x a' b', Q43.f l a b = some (x, a', b') ∧ (-1 ≤ x ∧ x ≤ 4611686018427387904) ∧ a ≤ a' ∧ a' ≤ a + 2 := by
  unfold Q43.f
  obtain ⟨x, a1, b1, e, h2⟩ := one_ok l hl a b 40 h0 (by omega) (by omega)
  rw [e, Option.bind_some]
  cases x with
  | true =>
    obtain ⟨y, a2, b2, e2, hy, h3⟩ := among_ok l hl a1 b1 [1, 2, 24, 25, 0, (-1), 4611686018427387904] (by omega) (by omega) (by simp) (by simp)
    rw [if_pos rfl, e2]
    exact ⟨_, _, _, rfl, by simp at hy; omega, by show a ≤ a2; omega, by show a2 ≤ _; omega⟩
  | false =>
    obtain ⟨y, a2, b2, e2, hy, h3⟩ := among_ok l hl a1 b1 [5, 6, 4, 8, 3, 10, 7, 13, 24, 2] (by omega) (by omega) (by simp) (by simp)
    rw [if_neg (by simp), e2]
    exact ⟨_, _, _, rfl, by simp at hy; omega, by show a ≤ a2; omega, by show a2 ≤ _; omega⟩
theorem ring_ok (l : List Int) (hl : byteL l) (a b : Int) (h0 : 0 ≤ a) (h1 : a + 3 ≤ 4000000000000000000) : ∃ (x : Int) (r : Bool) (a' b' : Int), Q54.f l a b = some (x, r, a', b') ∧ (-1 ≤ x ∧ x ≤ 4611686018427387904) ∧ a ≤ a' ∧ a' ≤ a + 3 := by
  unfold Q54.f
  obtain ⟨x, a1, b1, e, hx, h2⟩ := size_ok l hl a b h0 (by omega)
  rw [e, Option.bind_some]
  by_cases c : x = 2
  · obtain ⟨y, a2, b2, e2, h3⟩ := one_ok l hl a1 b1 4 (by omega) (by omega) (by omega)
    rw [if_pos c, e2, Option.bind_some]
    cases y with
    | true => exact ⟨_, _, _, _, if_pos rfl, hx, by show a ≤ a2; omega, by show a2 ≤ _; omega⟩
    | false => exact ⟨_, _, _, _, if_neg (by simp), by omega, by show a ≤ a2; omega, by show a2 ≤ _; omega⟩
  · rw [if_neg c]
    exact ⟨_, _, _, _, rfl, hx, by show a ≤ a1; omega, by show a1 ≤ _; omega⟩
theorem line_ok (l : List Int) (hl : byteL l) (a b : Int) (h0 : 0 ≤ a) (h1 : a + 2 ≤ 4000000000000000000) : ∃ (x : Int) (r : Bool) (a' b' : Int), Q57.f l a b = some (x, r, a', b') ∧ (-1 ≤ x ∧ x ≤ 4611686018427387904) ∧ a ≤ a' ∧ a' ≤ a + 2 := by
  unfold Q57.f
  obtain ⟨x, a1, b1, e, hx, h2⟩ := size_ok l hl a b h0 (by omega)
  rw [e]
  exact ⟨_, _, _, _, rfl, hx, h2⟩
theorem roadd_ok (l : List Int) (hl : byteL l) (a b : Int) (h0 : 0 ≤ a) (h1 : a + 4 ≤ 4000000000000000000) : ∃ (x : Int) (r : Bool) (a' b' : Int), Q35.f l a b = some (x, r, a', b') ∧ (-1 ≤ x ∧ x ≤ 4611686018427387904) ∧ a ≤ a' ∧ a' ≤ a + 4 := by
  unfold Q35.f
  obtain ⟨y, a1, b1, e, h2⟩ := one_ok l hl a b 2 h0 (by omega) (by omega)
  rw [e, Option.bind_some]
  cases y with
  | true =>
    obtain ⟨x, r, a2, b2, e2, hx, h3⟩ := line_ok l hl a1 b1 (by omega) (by omega)
    rw [if_pos rfl, e2]
    exact ⟨_, _, _, _, rfl, hx, by show a ≤ a2; omega, by show a2 ≤ _; omega⟩
  | false =>
    obtain ⟨x, r, a2, b2, e2, hx, h3⟩ := ring_ok l hl a1 b1 (by omega) (by omega)
    rw [if_neg (by simp), e2]
    exact ⟨_, _, _, _, rfl, hx, by show a ≤ a2; omega, by show a2 ≤ _; omega⟩
theorem placeOn_ok (l : List Int) (hl : byteL l) (a b s : Int) (r : Bool) (hs : -1 ≤ s ∧ s ≤ 4611686018427387904) (h0 : 0 ≤ a) (h1 : a + 2 ≤ 4000000000000000000) : ∃ x a' b', Q39.f l a b s r = some (x, a', b') ∧ (-2 ≤ x ∧ x ≤ 4611686018427387904) ∧ a ≤ a' ∧ a' ≤ a + 2 := by
  unfold Q39.f
  obtain ⟨y, a1, b1, e, h2⟩ := one_ok l hl a b 30 h0 (by omega) (by omega)
  rw [e, Option.bind_some]
  cases y with
  | true =>
    obtain ⟨x, a2, b2, e2, hx, h3⟩ := among_ok l hl a1 b1 [(-1), 0, s, wrap64 (s - 1), 4611686018427387904] (by omega) (by omega) (by simp) (by simp)
    rw [if_pos rfl, e2]
    rw [wrap64_id (x := s - 1) (by omega) (by omega)] at hx
    exact ⟨_, _, _, rfl, by simp at hx; omega, by show a ≤ a2; omega, by show a2 ≤ _; omega⟩
  | false =>
    rw [if_neg (by simp)]
    have e3 : ∃ m, Q31.f s 24 = some m ∧ m ≤ 24 := by
      unfold Q31.f
      by_cases c : s < 24
      · exact ⟨s, if_pos c, by omega⟩
      · exact ⟨24, if_neg c, by omega⟩
    obtain ⟨m, e3, hm⟩ := e3
    have e4 : ∃ n, Q30.f m 1 = some n ∧ n ≤ 24 := by
      unfold Q30.f
      by_cases c : m > 1
      · exact ⟨m, if_pos c, by omega⟩
      · exact ⟨1, if_neg c, by omega⟩
    obtain ⟨n, e4, hn⟩ := e4
    obtain ⟨x, a2, b2, e2, hx, h3⟩ := pick_ok l hl a1 b1 n (by omega) (by omega) (by omega)
    rw [e3, Option.bind_some, e4, Option.bind_some, e2]
    exact ⟨_, _, _, rfl, by show -2 ≤ x ∧ x ≤ _; omega, by show a ≤ a2; omega, by show a2 ≤ _; omega⟩
theorem walkFrom_j1 (k : Nat) (l : List Int) (hl : byteL l) (a b s : Int) (r : Bool) (w : List Int) (x : Bool) (hw : 1 ≤ w.length ∧ w.length ≤ 62) (h0 : 0 ≤ a) (h1 : a + 2 ≤ 4000000000000000000) (hk : 0 < k) : ∃ v a' b', Q2.j1 k w x l a b s r = some (v, a', b') ∧ (1 ≤ v.length ∧ v.length ≤ 62) ∧ a ≤ a' ∧ a' ≤ a + 2 := by
  obtain ⟨k, rfl⟩ := succ_of (k := k) hk
  simp only [Q2.j1]
  cases x with
  | true =>
    obtain ⟨i, a1, b1, e1, hi, h2⟩ := pick_ok l hl a b (w.length : Int) h0 (by omega) (by omega)
    obtain ⟨y, a2, b2, e2, hy, h3⟩ := among_ok l hl a1 b1 [(-1), s, 0] (by omega) (by omega) (by simp) (by simp)
    rw [if_pos rfl, e1, Option.bind_some, e2, Option.bind_some, if_pos hi.1, if_pos (by show i < _; omega)]
    exact ⟨_, _, _, rfl, by simp only [List.length_set]; exact hw, by show a ≤ a2; omega, by show a2 ≤ _; omega⟩
  | false =>
    rw [if_neg (by simp)]
    exact ⟨_, _, _, rfl, hw, by omega, by omega⟩
theorem walkFrom_l0 (l : List Int) (hl : byteL l) (s : Int) (r : Bool) (hr : road s r = true) (n : Int) (hn : n ≤ 62) : ∀ (d k : Nat) (w : List Int) (x a b : Int), (1 ≤ w.length ∧ w.length ≤ 62) → allIn w 0 (s - 1) = true → (x = 1 ∨ x = -1) → n ≤ (w.length : Int) + d → d + 3 < k → 0 ≤ a → a + d + 3 ≤ 4000000000000000000 →
    ∃ v a' b', Q2.l0 k n w x l a b s r = some (v, a', b') ∧ (1 ≤ v.length ∧ v.length ≤ 62) ∧ a ≤ a' ∧ a' ≤ a + d + 3
  | 0, k, w, x, a, b, hw, hi, hx, hd, hk, h0, h1 => by
    obtain ⟨k, rfl⟩ := succ_of (k := k) (by omega)
    simp only [Q2.l0]
    rw [if_neg (by omega)]
    by_cases c : n > 1
    · obtain ⟨y, a1, b1, e1, h2⟩ := one_ok l hl a b 40 h0 (by omega) (by omega)
      obtain ⟨v, a2, b2, e2, hv, h3⟩ := walkFrom_j1 k l hl a1 b1 s r w y hw (by omega) (by omega) (by omega)
      rw [if_pos c, e1, Option.bind_some, e2]
      exact ⟨_, _, _, rfl, hv, by omega, by omega⟩
    · obtain ⟨v, a2, b2, e2, hv, h3⟩ := walkFrom_j1 k l hl a b s r w false hw (by omega) (by omega) (by omega)
      rw [if_neg c, e2]
      exact ⟨_, _, _, rfl, hv, by omega, by omega⟩
  | d + 1, k, w, x, a, b, hw, hi, hx, hd, hk, h0, h1 => by
    by_cases c0 : (w.length : Int) < n
    · obtain ⟨k, rfl⟩ := succ_of (k := k) (by omega)
      have hb := road_bd hr
      have hlast := rd_bd hi (w.length - 1) (by omega)
      have ew : wrap64 ((w.length : Int) - 1) = ((w.length - 1 : Nat) : Int) := by rw [wrap64_id (by omega) (by omega)]; omega
      have en : wrap64 (-x) = -x := wrap64_id (by omega) (by omega)
      have en2 : wrap64 (- -x) = x := by rw [Int.neg_neg]; exact wrap64_id (by omega) (by omega)
      obtain ⟨y, a1, b1, e1, hy, h2⟩ := pick_ok l hl a b 8 h0 (by omega) (by omega)
      have app : ∀ z, 0 ≤ z ∧ z ≤ s - 1 → ∀ x', (x' = 1 ∨ x' = -1) → ∃ v a' b', Q2.l0 k n (w ++ [z]) x' l a1 b1 s r = some (v, a', b') ∧ (1 ≤ v.length ∧ v.length ≤ 62) ∧ a ≤ a' ∧ a' ≤ a + ((d + 1 : Nat) : Int) + 3 := by
        intro z hz x' hx'
        obtain ⟨v, a', b', e, hv, h3⟩ := walkFrom_l0 l hl s r hr n hn d k (w ++ [z]) x' a1 b1 (by simp; omega) (by
          unfold allIn at hi ⊢
          rw [List.all_append, hi]
          simpa using inR_iff.2 hz) hx' (by simp; omega) (by omega) (by omega) (by omega)
        exact ⟨v, a', b', e, hv, by omega, by omega⟩
      have stp : ∀ z, (z = 1 ∨ z = -1) → Q41.f s r (rd w ((w.length - 1 : Nat) : Int)) z = some (stepW s r (rd w ((w.length - 1 : Nat) : Int)) z) ∧ 0 ≤ stepW s r (rd w ((w.length - 1 : Nat) : Int)) z ∧ stepW s r (rd w ((w.length - 1 : Nat) : Int)) z ≤ s - 1 := fun z hz =>
        ⟨spec_l2Step_eq s r _ z ⟨hb.1, hb.2.1⟩ hlast (by omega), stepW_bd hb.1 hlast (by omega)⟩
      simp only [Q2.l0]
      rw [if_pos c0, e1, Option.bind_some]
      simp only [ew, en, en2]
      by_cases c1 : y = 0
      · have hst := stp (-x) (by omega)
        rw [if_pos c1, if_pos (by omega), if_pos (by omega), hst.1, Option.bind_some]
        by_cases c2 : stepW s r (rd w ((w.length - 1 : Nat) : Int)) (-x) = rd w ((w.length - 1 : Nat) : Int)
        · rw [if_pos c2, if_pos (by omega)]
          exact app _ hst.2 _ (by omega)
        · rw [if_neg c2, if_pos (by omega)]
          exact app _ hst.2 _ (by omega)
      · rw [if_neg c1]
        by_cases c2 : y = 1
        · rw [if_pos c2, if_pos (by omega), if_pos (by omega), if_pos (by omega)]
          exact app _ hlast _ hx
        · have hst := stp x hx
          rw [if_neg c2, if_pos (by omega), if_pos (by omega), hst.1, Option.bind_some]
          by_cases c3 : stepW s r (rd w ((w.length - 1 : Nat) : Int)) x = rd w ((w.length - 1 : Nat) : Int)
          · rw [if_pos c3, if_pos (by omega)]
            exact app _ hst.2 _ (by omega)
          · rw [if_neg c3, if_pos (by omega)]
            exact app _ hst.2 _ hx
    · obtain ⟨v, a', b', e, hv, h3⟩ := walkFrom_l0 l hl s r hr n hn d k w x a b hw hi hx (by omega) (by omega) h0 (by omega)
      exact ⟨v, a', b', e, hv, by omega, by omega⟩
theorem walkFrom_ok (k : Nat) (l : List Int) (hl : byteL l) (a b s : Int) (r : Bool) (p n : Int) (hn : n ≤ 62) (h0 : 0 ≤ a) (h1 : a + 70 ≤ 4000000000000000000) (hk : 70 < k) : ∃ v a' b', Q2.f k l a b s r p n = some (v, a', b') ∧ (1 ≤ v.length ∧ v.length ≤ 62) ∧ a ≤ a' ∧ a' ≤ a + 70 := by
  unfold Q2.f
  rw [Option.bind_some, spec_l2Place_eq, Option.bind_some]
  by_cases c : (road s r && inR p 0 (s - 1)) = true
  · rw [if_pos c]
    rw [Bool.and_eq_true] at c
    obtain ⟨v, a', b', e, hv, h3⟩ := walkFrom_l0 l hl s r c.1 n hn 62 k [p] 1 a b (by simp) (by unfold allIn; simpa using c.2) (.inl rfl) (by simp; omega) (by omega) h0 (by omega)
    exact ⟨v, a', b', e, hv, by omega, by omega⟩
  · rw [if_neg c]
    exact ⟨_, _, _, rfl, by simp, by omega, by omega⟩
theorem walkd_ok (k : Nat) (l : List Int) (hl : byteL l) (a b s : Int) (r : Bool) (hs : -1 ≤ s ∧ s ≤ 4611686018427387904) (h0 : 0 ≤ a) (h1 : a + 73 ≤ 4000000000000000000) (hk : 70 < k) : ∃ v a' b', Q27.f k l a b s r = some (v, a', b') ∧ (1 ≤ v.length ∧ v.length ≤ 62) ∧ a ≤ a' ∧ a' ≤ a + 73 := by
  unfold Q27.f
  obtain ⟨p, a1, b1, e1, _, h2⟩ := placeOn_ok l hl a b s r hs h0 (by omega)
  obtain ⟨n, a2, b2, e2, hn, h3⟩ := among_ok l hl a1 b1 [6, 10, 4, 16, 1, 2, 30, 61, 62, 25] (by omega) (by omega) (by simp) (by simp)
  obtain ⟨v, a3, b3, e3, hv, h4⟩ := walkFrom_ok k l hl a2 b2 s r p n (by simp at hn; omega) (by omega) (by omega) hk
  rw [e1, Option.bind_some, e2, Option.bind_some, e3]
  exact ⟨_, _, _, rfl, hv, by show a ≤ a3; omega, by show a3 ≤ _; omega⟩
theorem DrawNeighborsOn_ok (l : List Int) (hl : byteL l) : ∃ (s : Int) (r : Bool) (p : Int), Q62.f l = some (s, r, p) ∧ (-2 ≤ p ∧ p ≤ 4611686018427387904) := by
  unfold Q62.f
  obtain ⟨s, r, a1, b1, e1, hs, h2⟩ := roadd_ok l hl 0 0 (by omega) (by omega)
  obtain ⟨p, a2, b2, e2, hp, _⟩ := placeOn_ok l hl a1 b1 s r hs (by omega) (by omega)
  rw [e1, Option.bind_some, e2]
  exact ⟨_, _, _, rfl, hp⟩
theorem laws_rInts_l0 (l : List Int) (hl : l.length ≤ 9223372036854775807) : ∀ (d i k : Nat), i + d = l.length → d < k → Q32.l0 k l l (i : Int) = some true
  | 0, i, k, h, hk => by
    obtain ⟨k, rfl⟩ := succ_of (k := k) (by omega)
    simp only [Q32.l0]
    rw [if_neg (by omega)]
  | d + 1, i, k, h, hk => by
    obtain ⟨k, rfl⟩ := succ_of (k := k) (by omega)
    simp only [Q32.l0]
    rw [if_pos (by omega), if_pos (by omega), if_pos (by omega), if_pos trivial, wrap_succ (n := l.length) (by omega) hl]
    exact laws_rInts_l0 l hl d (i + 1) k (by omega) (by omega)
theorem laws_rInts_self (k : Nat) (l : List Int) (hl : l.length ≤ 9223372036854775807) (hk : l.length < k) : Q32.f k l l = some true := by
  unfold Q32.f
  rw [if_pos rfl]
  have := laws_rInts_l0 l hl l.length 0 k (by omega) hk
  simpa using this
def visitsM (w : List Int) (n : Nat) : List Int := (List.range n).map fun (i : Nat) => firstM (i : Int) w 0
theorem visitsM_snoc (w : List Int) (n : Nat) : visitsM w (n + 1) = visitsM w n ++ [firstM (n : Int) w 0] := by unfold visitsM; rw [List.range_succ]; simp
theorem visitsM_len (w : List Int) (n : Nat) : (visitsM w n).length = n := by simp [visitsM]
theorem impl_Road_firstVisits_l0 (w : List Int) (hw : w.length ≤ 1000) (n : Nat) (hn : n ≤ 1000) : ∀ (d i k : Nat), i + d = n → d + 1100 < k → Q33.l0 k w (visitsM w i) (n : Int) (i : Int) = some (visitsM w n)
  | 0, i, k, h, hk => by
    obtain ⟨k, rfl⟩ := succ_of (k := k) (by omega)
    simp only [Q33.l0]
    rw [if_neg (by omega), show i = n by omega]
  | d + 1, i, k, h, hk => by
    obtain ⟨k, rfl⟩ := succ_of (k := k) (by omega)
    simp only [Q33.l0]
    rw [if_pos (by omega), slices_Index_eq k _ w (by omega) (by omega), Option.bind_some, visitsM_len, if_pos (by omega), wrap_succ (n := n) (by omega) (by omega), ← visitsM_snoc]
    exact impl_Road_firstVisits_l0 w hw n hn d (i + 1) k (by omega) (by omega)
theorem impl_Road_firstVisits_eq (k : Nat) (s : Int) (r : Bool) (hs : 0 ≤ s ∧ s ≤ 1000) (w : List Int) (hw : w.length ≤ 1000) (hk : 2200 < k) : Q33.f k s r w = some (visitsM w s.toNat) := by
  unfold Q33.f
  have := impl_Road_firstVisits_l0 w hw s.toNat (by omega) s.toNat 0 k (by omega) (by omega)
  rw [Int.toNat_of_nonneg hs.1] at this
  simpa [visitsM] using this
theorem firstM_m1 (x : Int) (w : List Int) : firstM x w 0 < 0 ↔ firstM x w 0 = -1 := by
  have := firstM_bd x w 0
  omega
theorem impl_CoverTime_eq (k : Nat) (s : Int) (r : Bool) (w : List Int) (hr : road s r = true) (hw : walkOkM s r w = true) (hl : w.length ≤ 1000) (hk : 2200 < k) : Q59.f k s r w = some (worstM (visitsM w s.toNat)) := by
  have hb := road_bd hr
  unfold Q59.f
  rw [impl_areWalks_eq k s r [w] (by intro x hx; rw [List.mem_singleton.1 hx]; omega) (by omega), Option.bind_some, hr, List.all_cons, hw, if_pos (by simp), impl_Road_firstVisits_eq k s r (by omega) w hl hk, Option.bind_some, slices_Contains_eq7 k _ _ (by rw [visitsM_len]; omega) (by rw [visitsM_len]; omega), Option.bind_some]
  have e : ((visitsM w s.toNat).any fun y => decide (y = -1)) = ((visitsM w s.toNat).any fun y => decide (y < 0)) := by
    unfold visitsM
    rw [List.any_map, List.any_map]
    congr 1
    funext i
    simp only [Function.comp]
    rw [decide_eq_decide]
    exact (firstM_m1 _ _).symm
  rw [e]
  unfold worstM
  cases c : (visitsM w s.toNat).any fun y => decide (y < 0) with
  | true => rw [if_pos rfl, if_pos rfl]
  | false =>
    rw [if_neg (by simp), if_neg (by simp)]
    have h0 : 0 < (visitsM w s.toNat).length := by rw [visitsM_len]; omega
    have hm : Q47.f k (visitsM w s.toNat) = some ((visitsM w s.toNat).foldl mx 0) := by
      unfold Q47.f
      rw [if_pos (by omega)]
      congr 1
      revert c h0
      cases visitsM w s.toNat with
      | nil => intro c h0; simp at h0
      | cons x t =>
        intro c h0
        simp only [List.any_cons, Bool.or_eq_false_iff, decide_eq_false_iff_not] at c
        have e2 : mx 0 x = x := by unfold mx; split <;> omega
        simp only [List.foldl_cons, e2, List.drop_succ_cons, List.drop_zero]
        rfl
    rw [hm]
    rfl
theorem le_foldMin {β : Type} (f : β → Int) (x : Int) : ∀ (l : List β) (b : Int), x ≤ l.foldl (fun b i => min b (f i)) b ↔ x ≤ b ∧ ∀ i ∈ l, x ≤ f i
  | [], b => by simp
  | a :: l, b => by
    rw [List.foldl_cons, le_foldMin f x l, List.forall_mem_cons, Int.le_min, and_assoc]
theorem foldMax_le {β : Type} (f : β → Int) (x : Int) : ∀ (l : List β) (b : Int), l.foldl (fun b i => max b (f i)) b ≤ x ↔ b ≤ x ∧ ∀ i ∈ l, f i ≤ x
  | [], b => by simp
  | a :: l, b => by
    rw [List.foldl_cons, foldMax_le f x l, List.forall_mem_cons, Int.max_le, and_assoc]
theorem foldMax_perm {β : Type} (f : β → Int) {l l' : List β} (h : ∀ i, i ∈ l ↔ i ∈ l') (b : Int) : l.foldl (fun b i => max b (f i)) b = l'.foldl (fun b i => max b (f i)) b := by
  apply Int.le_antisymm
  · rw [foldMax_le]
    have := (foldMax_le f _ l' b).1 (Int.le_refl _)
    exact ⟨this.1, fun i hi => this.2 i ((h i).1 hi)⟩
  · rw [foldMax_le]
    have := (foldMax_le f _ l b).1 (Int.le_refl _)
    exact ⟨this.1, fun i hi => this.2 i ((h i).2 hi)⟩
/-- How far one goes to the left where one goes so far to the right. -/
def leftAt (s : Int) (fs : List Int) (right : Int) : Int := fs.foldl (fun m f => max m (if right < f then s - f else 0)) 0
theorem leftAt_nn (s : Int) (fs : List Int) (right : Int) : 0 ≤ leftAt s fs right := ((foldMax_le _ _ fs 0).1 (Int.le_refl _)).1
theorem leftAt_ge {s : Int} {fs : List Int} {right f : Int} (hf : f ∈ fs) (h : right < f) : s - f ≤ leftAt s fs right := by
  have := ((foldMax_le (fun f => if right < f then s - f else 0) _ fs 0).1 (Int.le_refl _)).2 f hf
  rw [if_pos h] at this
  exact this
theorem leftAt_le {s : Int} {fs : List Int} {right x : Int} (h0 : 0 ≤ x) (h : ∀ f ∈ fs, right < f → s - f ≤ x) : leftAt s fs right ≤ x := by
  unfold leftAt
  rw [foldMax_le]
  refine ⟨h0, fun f hf => ?_⟩
  by_cases c : right < f
  · rw [if_pos c]; exact h f hf c
  · rw [if_neg c]; exact h0
/-- The least over all ways to the right. -/
def bestTo (s : Int) (c : Int → Int → Int) (fs : List Int) : Int := (List.range s.toNat).foldl (fun (b : Int) (i : Nat) => min b (c (leftAt s fs (i : Int)) (i : Int))) s
def upK (us : List Int) (k : Nat) : Int := if 0 < k then rd us ((k : Int) - 1) else 0
def downK (s : Int) (us : List Int) (k : Nat) : Int := if k < us.length then s - rd us (k : Int) else 0
/-- The least over all splits of the places in order. -/
def bestSp (s : Int) (c : Int → Int → Int) (us : List Int) (b0 : Int) : Int := (List.range (us.length + 1)).foldl (fun (b : Int) (k : Nat) => min b (c (downK s us k) (upK us k))) b0
theorem rd_nat (l : List Int) (i : Nat) (h : i < l.length) : rd l (i : Int) = l[i] := by
  unfold rd
  simp [List.getD_eq_getElem?_getD, h]
/-- Where a number parts a list in order. -/
theorem part_at (x : Int) : ∀ (us : List Int), us.Pairwise (· ≤ ·) → ∃ k, k ≤ us.length ∧ (∀ j (h : j < us.length), j < k → us[j] ≤ x) ∧ (∀ j (h : j < us.length), k ≤ j → x < us[j])
  | [], _ => ⟨0, by simp, fun j h => by simp at h, fun j h => by simp at h⟩
  | u :: us, hp => by
    rw [List.pairwise_cons] at hp
    by_cases c : u ≤ x
    · obtain ⟨k, hk, h1, h2⟩ := part_at x us hp.2
      refine ⟨k + 1, by simpa using hk, fun j h hj => ?_, fun j h hj => ?_⟩
      · cases j with
        | zero => exact c
        | succ j => exact h1 j (by simpa using h) (by omega)
      · cases j with
        | zero => omega
        | succ j => exact h2 j (by simpa using h) (by omega)
    · refine ⟨0, Nat.zero_le _, fun j h hj => by omega, fun j h _ => ?_⟩
      cases j with
      | zero => simpa using (by omega : x < u)
      | succ j =>
        have hj : j < us.length := by simpa using h
        have := hp.1 us[j] (List.getElem_mem hj)
        simp only [List.getElem_cons_succ]
        omega
theorem best_split (s : Int) (c : Int → Int → Int) (fs us : List Int) (b0 : Int) (hs : 2 ≤ s) (hf : ∀ f ∈ fs, 0 ≤ f ∧ f < s) (hu : ∀ u, u ∈ us ↔ u ∈ fs ∧ u ≠ 0) (hp : us.Pairwise (· ≤ ·))
    (hc : ∀ a b a' b', 0 ≤ a → 0 ≤ b → a ≤ a' → b ≤ b' → c a b ≤ c a' b') (hb : s ≤ b0) (hz : b0 = s ∨ ∀ d, 0 ≤ d → d ≤ s → c d 0 ≤ s) : bestSp s c us b0 = bestTo s c fs := by
  have hup : ∀ k, k ≤ us.length → 0 ≤ upK us k ∧ upK us k < s := by
    intro k hk
    unfold upK
    by_cases h : 0 < k
    · rw [if_pos h, show ((k : Int) - 1) = ((k - 1 : Nat) : Int) by omega, rd_nat us (k - 1) (by omega)]
      exact hf _ ((hu _).1 (List.getElem_mem _)).1
    · rw [if_neg h]; omega
  have hdn : ∀ k, 0 ≤ downK s us k ∧ downK s us k ≤ s := by
    intro k
    unfold downK
    by_cases h : k < us.length
    · rw [if_pos h, rd_nat us k h]
      have := hf _ ((hu _).1 (List.getElem_mem h)).1
      omega
    · rw [if_neg h]; omega
  have hmono : ∀ i j (hi : i < us.length) (hj : j < us.length), i ≤ j → us[i] ≤ us[j] := by
    intro i j hi hj hij
    rcases Nat.lt_or_ge i j with h | h
    · exact List.pairwise_iff_getElem.1 hp i j hi hj h
    · have : i = j := by omega
      subst this
      exact Int.le_refl _
  apply Int.le_antisymm
  · -- the splits' least is no more
    unfold bestTo
    have H := (le_foldMin (fun k => c (downK s us k) (upK us k)) (bestSp s c us b0) (List.range (us.length + 1)) b0).1 (Int.le_refl _)
    rw [le_foldMin]
    constructor
    · rcases hz with rfl | hz
      · exact H.1
      · have h0 := H.2 0 (List.mem_range.2 (by omega))
        have := hz (downK s us 0) (hdn 0).1 (hdn 0).2
        have hu0 : upK us 0 = 0 := rfl
        rw [hu0] at h0
        omega
    · intro i hi
      obtain ⟨k, hk, h1, h2⟩ := part_at (i : Int) us hp
      have h3 := H.2 k (List.mem_range.2 (by omega))
      refine Int.le_trans h3 (hc _ _ _ _ (hdn k).1 (hup k hk).1 ?_ ?_)
      · unfold downK
        by_cases h : k < us.length
        · rw [if_pos h, rd_nat us k h]
          exact leftAt_ge ((hu _).1 (List.getElem_mem h)).1 (h2 k h (Nat.le_refl _))
        · rw [if_neg h]; exact leftAt_nn _ _ _
      · unfold upK
        by_cases h : 0 < k
        · rw [if_pos h, show ((k : Int) - 1) = ((k - 1 : Nat) : Int) by omega, rd_nat us (k - 1) (by omega)]
          exact h1 (k - 1) (by omega) (by omega)
        · rw [if_neg h]; omega
  · unfold bestSp
    have H := (le_foldMin (fun i : Nat => c (leftAt s fs (i : Int)) (i : Int)) (bestTo s c fs) (List.range s.toNat) s).1 (Int.le_refl _)
    rw [le_foldMin]
    refine ⟨Int.le_trans H.1 hb, fun k hk => ?_⟩
    have hk := List.mem_range.1 hk
    obtain ⟨u, hu0⟩ := Int.eq_ofNat_of_zero_le (hup k (by omega)).1
    have hlt := (hup k (by omega)).2
    have h3 := H.2 u (List.mem_range.2 (by omega))
    rw [← hu0] at h3
    refine Int.le_trans h3 (hc _ _ _ _ (leftAt_nn _ _ _) (hup k (by omega)).1 (leftAt_le (hdn k).1 (fun f hf1 hf2 => ?_)) (Int.le_refl _))
    have hfu : f ∈ us := (hu f).2 ⟨hf1, by have := (hup k (by omega)).1; omega⟩
    obtain ⟨j, hj, rfl⟩ := List.getElem_of_mem hfu
    have hkj : k ≤ j := by
      rcases Nat.lt_or_ge j k with h | h
      · exfalso
        have := hmono j (k - 1) hj (by omega) (by omega)
        unfold upK at hf2
        rw [if_pos (by omega), show ((k : Int) - 1) = ((k - 1 : Nat) : Int) by omega, rd_nat us (k - 1) (by omega)] at hf2
        omega
      · exact h
    unfold downK
    rw [if_pos (by omega), rd_nat us k (by omega)]
    have := hmono k j (by omega) hj hkj
    omega
theorem hi2_max (a b : Int) : hi2 a b = max a b := by unfold hi2; split <;> omega
theorem lo2_min (a b : Int) : lo2 a b = min a b := by unfold lo2; split <;> omega
theorem mx_max (a b : Int) : mx a b = max a b := by unfold mx; split <;> omega
theorem mn_min (a b : Int) : mn a b = min a b := by unfold mn; split <;> omega
theorem rd_all {P : Int → Prop} {l : List Int} (hx : ∀ x ∈ l, P x) (i : Nat) (h : i < l.length) : P (rd l (i : Int)) := by
  rw [rd_nat l i h]
  exact hx _ (List.getElem_mem h)
def upRing (s p q : Int) : Int := Int.tmod (q - p + s) s
theorem upRing_bd {s p q : Int} (hs : 2 ≤ s) (hp : 0 ≤ p ∧ p ≤ s - 1) (hq : 0 ≤ q ∧ q ≤ s - 1) : 0 ≤ upRing s p q ∧ upRing s p q < s := by
  unfold upRing
  rw [Int.tmod_eq_emod_of_nonneg (by omega)]
  exact ⟨Int.emod_nonneg _ (by omega), Int.emod_lt_of_pos _ (by omega)⟩
def costT (a b : Int) : Int := a + b + min a b
theorem costT_mono : ∀ a b a' b' : Int, 0 ≤ a → 0 ≤ b → a ≤ a' → b ≤ b' → costT a b ≤ costT a' b' := by
  intro a b a' b' _ _ _ _
  unfold costT
  omega
/-- Where the line's places lead to: left and right. -/
def leftL (p : Int) (l : List Int) (a : Int) : Int := l.foldl (fun m q => max m (p - q)) a
def rightL (p : Int) (l : List Int) (a : Int) : Int := l.foldl (fun m q => max m (q - p)) a
/-- The least time of a way through places: on a ring over all ways to the right. -/
def wayM (c : Int → Int → Int) (s : Int) (r : Bool) (p : Int) (l : List Int) : Int := if r = true then bestTo s c (l.map (upRing s p)) else c (leftL p l 0) (rightL p l 0)
def lfF (s p right : Int) (m q : Int) : Int := max m (if right < upRing s p q then s - upRing s p q else 0)
theorem leftAt_map (s p right : Int) (l : List Int) : leftAt s (l.map (upRing s p)) right = l.foldl (lfF s p right) 0 := by
  unfold leftAt
  rw [List.foldl_map]
  rfl
def bestR (s : Int) (c : Int → Int → Int) (p : Int) (l : List Int) (i d : Nat) (b : Int) : Int := (List.range' i d).foldl (fun (b : Int) (i : Nat) => min b (c (l.foldl (lfF s p (i : Int)) 0) (i : Int))) b
theorem bestR_succ (s : Int) (c : Int → Int → Int) (p : Int) (l : List Int) (i d : Nat) (b : Int) : bestR s c p l i (d + 1) b = bestR s c p l (i + 1) d (min b (c (l.foldl (lfF s p (i : Int)) 0) (i : Int))) := by
  unfold bestR
  rw [List.range'_succ, List.foldl_cons]
theorem bestR_all (s : Int) (c : Int → Int → Int) (p : Int) (l : List Int) : bestR s c p l 0 s.toNat s = bestTo s c (l.map (upRing s p)) := by
  unfold bestR bestTo
  rw [List.range_eq_range']
  congr 1
  funext b i
  rw [leftAt_map]
def bestK (s : Int) (c : Int → Int → Int) (us : List Int) (i d : Nat) (b : Int) : Int := (List.range' i d).foldl (fun (b : Int) (k : Nat) => min b (c (downK s us k) (upK us k))) b
theorem bestK_succ (s : Int) (c : Int → Int → Int) (us : List Int) (i d : Nat) (b : Int) : bestK s c us i (d + 1) b = bestK s c us (i + 1) d (min b (c (downK s us i) (upK us i))) := by
  unfold bestK
  rw [List.range'_succ, List.foldl_cons]
theorem bestK_all (s : Int) (c : Int → Int → Int) (us : List Int) (b : Int) : bestK s c us 0 (us.length + 1) b = bestSp s c us b := by
  unfold bestK bestSp
  rw [List.range_eq_range']
theorem spec_l2Far_eq (s : Int) (r : Bool) (p q : Int) (hs : 2 ≤ s ∧ s ≤ 24) (hp : 0 ≤ p ∧ p ≤ s - 1) (hq : 0 ≤ q ∧ q ≤ s - 1) : Q61.f s r p q = some (upRing s p q) := by
  unfold Q61.f upRing
  rw [if_neg (by omega), wrap64_id (x := q - p) (by omega) (by omega), wrap64_id (x := q - p + s) (by omega) (by omega)]
theorem spec_l2Tour_eq (a b : Int) (ha : 0 ≤ a ∧ a ≤ 1000) (hb : 0 ≤ b ∧ b ≤ 1000) : Q56.f a b = some (costT a b) := by
  unfold Q56.f costT
  rw [spec_l1Least_eq, Option.bind_some, lo2_min, wrap64_id (x := a + b) (by omega) (by omega), wrap64_id (by omega) (by omega)]
theorem spec_TourTime_l1 (p : Int) (l : List Int) (hp : 0 ≤ p ∧ p ≤ 23) (hl : l.length ≤ 1048576) (hx : ∀ x ∈ l, 0 ≤ x ∧ x ≤ 23) : ∀ (d i k : Nat) (a b : Int), i + d = l.length → 0 ≤ a ∧ a ≤ 23 → 0 ≤ b ∧ b ≤ 23 → d < k →
    Q6.l1 k p l a b (i : Int) = some (costT (leftL p (l.drop i) a) (rightL p (l.drop i) b), true)
  | 0, i, k, a, b, h, ha, hb, hk => by
    obtain ⟨k, rfl⟩ := succ_of (k := k) (by omega)
    simp only [Q6.l1]
    rw [if_neg (by omega), drop_end l i (by omega), spec_l2Tour_eq a b (by omega) (by omega), Option.bind_some]
    rfl
  | d + 1, i, k, a, b, h, ha, hb, hk => by
    obtain ⟨k, rfl⟩ := succ_of (k := k) (by omega)
    have hq := rd_all hx i (by omega)
    simp only [Q6.l1]
    rw [if_pos (by omega), if_pos (by omega), wrap64_id (x := p - _) (by omega) (by omega), wrap64_id (x := _ - p) (by omega) (by omega), spec_l1Most_eq, Option.bind_some, spec_l1Most_eq, Option.bind_some, hi2_max, hi2_max, wrap_succ (n := l.length) (by omega) (by omega), spec_TourTime_l1 p l hp hl hx d (i + 1) k _ _ (by omega) (by omega) (by omega) (by omega), drop_rd l i (by omega)]
    rfl
theorem spec_TourTime_l3 (s : Int) (r : Bool) (p : Int) (l : List Int) (hs : 2 ≤ s ∧ s ≤ 24) (hp : 0 ≤ p ∧ p ≤ s - 1) (hl : l.length ≤ 1048576) (hx : ∀ x ∈ l, 0 ≤ x ∧ x ≤ s - 1) (best right : Int) (hr : 0 ≤ right ∧ right < s) : ∀ (d i k : Nat) (a : Int), i + d = l.length → 0 ≤ a ∧ a ≤ s →
    Q6.l3 (k + d + 1) p l best right a (i : Int) s r = Q6.l2 k p l (min best (costT ((l.drop i).foldl (lfF s p right) a) right)) (wrap64 (right + 1)) s r
  | 0, i, k, a, h, ha => by
    simp only [Q6.l3]
    rw [if_neg (by omega), drop_end l i (by omega), spec_l2Tour_eq a right (by omega) (by omega), Option.bind_some, spec_l1Least_eq, Option.bind_some, lo2_min]
    rfl
  | d + 1, i, k, a, h, ha => by
    have hq := rd_all hx i (by omega)
    have hf := upRing_bd hs.1 hp hq
    have ih := spec_TourTime_l3 s r p l hs hp hl hx best right hr d (i + 1) k
    obtain ⟨m, hm⟩ : ∃ m, m = k + d + 1 := ⟨_, rfl⟩
    simp only [← hm] at ih
    rw [show k + (d + 1) + 1 = m + 1 by omega]
    simp only [Q6.l3]
    rw [if_pos (by omega), if_pos (by omega), spec_l2Far_eq s r p _ hs hp hq, Option.bind_some, wrap_succ (n := l.length) (by omega) (by omega), drop_rd l i (by omega), List.foldl_cons]
    by_cases c : upRing s p (rd l (i : Int)) > right
    · rw [if_pos c, wrap64_id (x := s - _) (by omega) (by omega), spec_l1Most_eq, Option.bind_some, hi2_max]
      have e := ih (max a (s - upRing s p (rd l (i : Int)))) (by omega) (by omega)
      rw [e]
      unfold lfF
      rw [if_pos (show right < upRing s p (rd l (i : Int)) from c)]
    · rw [if_neg c]
      have e := ih a (by omega) ha
      rw [e]
      have : lfF s p right a (rd l (i : Int)) = a := by
        unfold lfF
        rw [if_neg (show ¬ right < upRing s p (rd l (i : Int)) from c)]
        omega
      rw [this]
theorem spec_TourTime_l2 (s : Int) (r : Bool) (p : Int) (l : List Int) (hs : 2 ≤ s ∧ s ≤ 24) (hp : 0 ≤ p ∧ p ≤ s - 1) (hl : l.length ≤ 1048576) (hx : ∀ x ∈ l, 0 ≤ x ∧ x ≤ s - 1) : ∀ (d i k : Nat) (best : Int), i + d = s.toNat → d * (l.length + 2) < k →
    Q6.l2 k p l best (i : Int) s r = some (bestR s costT p l i d best, true)
  | 0, i, k, best, h, hk => by
    obtain ⟨k, rfl⟩ := succ_of (k := k) (by omega)
    simp only [Q6.l2]
    rw [if_neg (by omega)]
    rfl
  | d + 1, i, k, best, h, hk => by
    have hm : (d + 1) * (l.length + 2) = d * (l.length + 2) + l.length + 2 := by rw [Nat.succ_mul]; omega
    rw [hm] at hk
    obtain ⟨k, rfl⟩ : ∃ k', k = k' + l.length + 1 + 1 := ⟨k - l.length - 2, by omega⟩
    simp only [Q6.l2]
    rw [if_pos (by omega)]
    have e := spec_TourTime_l3 s r p l hs hp hl hx best (i : Int) (by omega) l.length 0 k 0 (by omega) (by omega)
    rw [show ((0 : Nat) : Int) = 0 from rfl, List.drop_zero] at e
    rw [e, wrap_succ (n := s.toNat) (by omega) (by omega), spec_TourTime_l2 s r p l hs hp hl hx d (i + 1) k _ (by omega) (by omega), bestR_succ]
theorem spec_TourTime_l0 (s : Int) (r : Bool) (p : Int) (l : List Int) (hr : road s r = true) (hp : 0 ≤ p ∧ p ≤ s - 1) (hl : l.length ≤ 1048576) : ∀ (d i k : Nat), i + d = l.length → d + 30 * (l.length + 2) < k → (∀ j, j < i → inR (rd l (j : Int)) 0 (s - 1) = true) →
    Q6.l0 k p l (i : Int) s r = some (if allIn l 0 (s - 1) = true then (wayM costT s r p l, true) else (0, false))
  | 0, i, k, h, hk, hin => by
    obtain ⟨k, rfl⟩ := succ_of (k := k) (by omega)
    have hs := road_bd hr
    have hx : ∀ x ∈ l, 0 ≤ x ∧ x ≤ s - 1 := by
      intro x hx
      obtain ⟨j, hj, rfl⟩ := List.getElem_of_mem hx
      have := inR_iff.1 (hin j (by omega))
      rw [rd_nat l j hj] at this
      exact this
    have ha : allIn l 0 (s - 1) = true := List.all_eq_true.2 (fun x h => inR_iff.2 (hx x h))
    simp only [Q6.l0]
    rw [if_neg (by omega), if_pos ha]
    unfold wayM
    cases r with
    | true =>
      have h1 : s.toNat * (l.length + 2) ≤ 24 * (l.length + 2) := Nat.mul_le_mul (by omega) (by omega)
      have e := spec_TourTime_l2 s true p l ⟨hs.1, hs.2.1⟩ hp hl hx s.toNat 0 k s (by omega) (by omega)
      rw [show ((0 : Nat) : Int) = 0 from rfl] at e
      simp only [if_true]
      rw [e, bestR_all]
    | false =>
      have e := spec_TourTime_l1 p l (by omega) hl (fun x h => by have := hx x h; omega) l.length 0 k 0 0 (by omega) (by omega) (by omega) (by omega)
      rw [show ((0 : Nat) : Int) = 0 from rfl, List.drop_zero] at e
      rw [if_neg (by simp), if_neg (by simp), e]
  | d + 1, i, k, h, hk, hin => by
    obtain ⟨k, rfl⟩ := succ_of (k := k) (by omega)
    have hs := road_bd hr
    simp only [Q6.l0]
    rw [if_pos (by omega), if_pos (by omega), spec_l2Place_eq, Option.bind_some, hr, Bool.true_and]
    by_cases c : inR (rd l (i : Int)) 0 (s - 1) = true
    · rw [if_pos c, wrap_succ (n := l.length) (by omega) (by omega)]
      exact spec_TourTime_l0 s r p l hr hp hl d (i + 1) k (by omega) (by omega) (fun j hj => by
        rcases Nat.lt_or_ge j i with h1 | h1
        · exact hin j h1
        · have : j = i := by omega
          subst this
          exact c)
    · rw [if_neg c, if_neg]
      intro ha
      have := List.all_eq_true.1 ha _ (List.getElem_mem (show i < l.length by omega))
      rw [rd_nat l i (by omega)] at c
      exact c this
theorem spec_TourTime_eq (k : Nat) (s : Int) (r : Bool) (p : Int) (l : List Int) (hl : l.length ≤ 1048576) (hk : 31 * (l.length + 2) < k) : Q6.f k s r p l = some (if (road s r && inR p 0 (s - 1) && allIn l 0 (s - 1)) = true then (wayM costT s r p l, true) else (0, false)) := by
  unfold Q6.f
  rw [spec_l2Place_eq, Option.bind_some]
  cases hr : road s r with
  | false => simp
  | true =>
    cases hp : inR p 0 (s - 1) with
    | false => simp
    | true =>
      have e := spec_TourTime_l0 s r p l hr (inR_iff.1 hp) hl l.length 0 k (by omega) (by omega) (fun j hj => by omega)
      rw [show ((0 : Nat) : Int) = 0 from rfl] at e
      simp only [Bool.and_self, if_true, Bool.true_and]
      rw [e]
def upM (s : Int) (r : Bool) (p q : Int) : Int := if r = true then upRing s p q else q - p
theorem upM_bd {s p q : Int} {r : Bool} (hs : 2 ≤ s) (hp : 0 ≤ p ∧ p ≤ s - 1) (hq : 0 ≤ q ∧ q ≤ s - 1) : -s ≤ upM s r p q ∧ upM s r p q < s := by
  unfold upM
  have := upRing_bd hs hp hq
  cases r <;> simp <;> omega
def upF (us : List Int) (a : Int) : Int := us.foldl (fun m u => max m u) a
def dnF (us : List Int) (a : Int) : Int := us.foldl (fun m u => max m (-u)) a
theorem downK_bd {s : Int} {us : List Int} (hs : 2 ≤ s) (hu : ∀ u ∈ us, 0 ≤ u ∧ u ≤ s - 1) (k : Nat) : 0 ≤ downK s us k ∧ downK s us k ≤ s := by
  unfold downK
  by_cases h : k < us.length
  · have := rd_all hu k h
    rw [if_pos h]
    omega
  · rw [if_neg h]; omega
theorem upK_bd {s : Int} {us : List Int} (hs : 2 ≤ s) (hu : ∀ u ∈ us, 0 ≤ u ∧ u ≤ s - 1) (k : Nat) (hk : k ≤ us.length) : 0 ≤ upK us k ∧ upK us k ≤ s := by
  unfold upK
  by_cases h : 0 < k
  · have := rd_all hu (k - 1) (by omega)
    rw [if_pos h, show ((k : Int) - 1) = ((k - 1 : Nat) : Int) by omega]
    omega
  · rw [if_neg h]; omega
theorem sortI_len (l : List Int) : (sortI l).length = l.length := List.length_mergeSort _
theorem sortI_mem (l : List Int) (x : Int) : x ∈ sortI l ↔ x ∈ l := (List.mergeSort_perm l _).mem_iff
theorem sortI_sorted (l : List Int) : (sortI l).Pairwise (· ≤ ·) := by
  have h := List.pairwise_mergeSort (le := fun x y : Int => decide (x ≤ y)) (fun a b c hab hbc => by simp at hab hbc ⊢; omega) (fun a b => by simp; omega) l
  exact h.imp (fun h => by simpa using h)
/-- What the places in order come to. -/
theorem ways_sorted (c : Int → Int → Int) (s : Int) (p : Int) (l : List Int) (b0 : Int) (hs : 2 ≤ s) (hp : 0 ≤ p ∧ p ≤ s - 1) (hx : ∀ x ∈ l, 0 ≤ x ∧ x ≤ s - 1)
    (hc : ∀ a b a' b', 0 ≤ a → 0 ≤ b → a ≤ a' → b ≤ b' → c a b ≤ c a' b') (hb : s ≤ b0) (hz : b0 = s ∨ ∀ d, 0 ≤ d → d ≤ s → c d 0 ≤ s) :
    bestSp s c ((sortI (l.map (upM s true p))).filter fun x => !(x == 0)) b0 = wayM c s true p l := by
  have hm : l.map (upM s true p) = l.map (upRing s p) := rfl
  unfold wayM
  rw [if_pos rfl, hm]
  refine best_split s c (l.map (upRing s p)) _ b0 hs (fun f hf => ?_) (fun u => ?_) ?_ hc hb hz
  · obtain ⟨q, hq, rfl⟩ := List.mem_map.1 hf
    exact upRing_bd hs hp (hx q hq)
  · rw [List.mem_filter, sortI_mem]
    simp
  · exact (sortI_sorted _).filter _
theorem ways_line (c : Int → Int → Int) (s p : Int) (l : List Int) : c (dnF (sortI (l.map (upM s false p))) 0) (upF (sortI (l.map (upM s false p))) 0) = wayM c s false p l := by
  unfold wayM
  rw [if_neg (by simp)]
  have h1 : dnF (sortI (l.map (upM s false p))) 0 = leftL p l 0 := by
    unfold dnF leftL
    rw [foldMax_perm (fun u => -u) (fun i => sortI_mem (l.map (upM s false p)) i), List.foldl_map]
    congr 1
    funext m q
    show max m (-(q - p)) = max m (p - q)
    rw [Int.neg_sub]
  have h2 : upF (sortI (l.map (upM s false p))) 0 = rightL p l 0 := by
    unfold upF rightL
    rw [foldMax_perm (fun u => u) (fun i => sortI_mem (l.map (upM s false p)) i), List.foldl_map]
    rfl
  rw [h1, h2]
theorem impl_Road_tour_1_eq (s : Int) (r : Bool) (p q : Int) (hs : 2 ≤ s ∧ s ≤ 24) (hp : 0 ≤ p ∧ p ≤ s - 1) (hq : 0 ≤ q ∧ q ≤ s - 1) : Q66.f q s r p = some (upM s r p q) := by
  unfold Q66.f upM upRing
  rw [if_neg (show ¬ s = 0 by omega), wrap64_id (x := q - p) (by omega) (by omega), wrap64_id (x := q - p + s) (by omega) (by omega)]
  cases r <;> simp
theorem impl_mapped_tour_l0 (s : Int) (r : Bool) (p : Int) (l : List Int) (hs : 2 ≤ s ∧ s ≤ 24) (hp : 0 ≤ p ∧ p ≤ s - 1) (hl : l.length ≤ 1048576) (hx : ∀ x ∈ l, 0 ≤ x ∧ x ≤ s - 1) : ∀ (d i k : Nat) (acc : List Int), i + d = l.length → acc.length ≤ i → d < k →
    Q34.l0 k acc l (l.length : Int) (i : Int) s r p = some (acc ++ (l.drop i).map (upM s r p))
  | 0, i, k, acc, h, ha, hk => by
    obtain ⟨k, rfl⟩ := succ_of (k := k) (by omega)
    simp only [Q34.l0]
    rw [if_neg (by omega), drop_end l i (by omega)]
    simp
  | d + 1, i, k, acc, h, ha, hk => by
    obtain ⟨k, rfl⟩ := succ_of (k := k) (by omega)
    have hq := rd_all hx i (by omega)
    simp only [Q34.l0]
    rw [if_pos (by omega), if_pos (by omega), if_pos (by omega), impl_Road_tour_1_eq s r p _ hs hp hq, Option.bind_some, if_pos (by omega), wrap_succ (n := l.length) (by omega) (by omega), impl_mapped_tour_l0 s r p l hs hp hl hx d (i + 1) k _ (by omega) (by simp; omega) (by omega), drop_rd l i (by omega)]
    simp
theorem impl_mapped_tour_eq (k : Nat) (s : Int) (r : Bool) (p : Int) (l : List Int) (hs : 2 ≤ s ∧ s ≤ 24) (hp : 0 ≤ p ∧ p ≤ s - 1) (hl : l.length ≤ 1048576) (hx : ∀ x ∈ l, 0 ≤ x ∧ x ≤ s - 1) (hk : l.length < k) : Q34.f k l s r p = some (l.map (upM s r p)) := by
  unfold Q34.f
  have := impl_mapped_tour_l0 s r p l hs hp hl hx l.length 0 k [] (by omega) (by simp) hk
  simpa using this
theorem impl_Road_tour_3_eq (a b : Int) (ha : 0 ≤ a ∧ a ≤ 1000) (hb : 0 ≤ b ∧ b ≤ 1000) : Q24.f a b = some (costT b a) := by
  unfold Q24.f costT
  rw [mn_min, wrap64_id (x := a + b) (by omega) (by omega), wrap64_id (by omega) (by omega)]
  congr 1
  omega
theorem impl_Road_tour_l0 (us : List Int) (hl : us.length ≤ 1048576) (hu : ∀ u ∈ us, -24 ≤ u ∧ u ≤ 24) : ∀ (d i k : Nat) (a b : Int), i + d = us.length → 0 ≤ a ∧ a ≤ 24 → 0 ≤ b ∧ b ≤ 24 → d < k →
    Q7.l0 k a b us (us.length : Int) (i : Int) = some (costT (dnF (us.drop i) b) (upF (us.drop i) a))
  | 0, i, k, a, b, h, ha, hb, hk => by
    obtain ⟨k, rfl⟩ := succ_of (k := k) (by omega)
    simp only [Q7.l0]
    rw [if_neg (by omega), drop_end us i (by omega), impl_Road_tour_3_eq a b (by omega) (by omega), Option.bind_some]
    rfl
  | d + 1, i, k, a, b, h, ha, hb, hk => by
    obtain ⟨k, rfl⟩ := succ_of (k := k) (by omega)
    have hq := rd_all hu i (by omega)
    simp only [Q7.l0]
    rw [if_pos (by omega), if_pos (by omega), if_pos (by omega), wrap64_id (x := -_) (by omega) (by omega), mx_max, mx_max, wrap_succ (n := us.length) (by omega) (by omega), impl_Road_tour_l0 us hl hu d (i + 1) k _ _ (by omega) (by omega) (by omega) (by omega), drop_rd us i (by omega)]
    rfl
theorem impl_Road_tour_l1 (s : Int) (r : Bool) (us : List Int) (hs : 2 ≤ s ∧ s ≤ 24) (hl : us.length ≤ 1048576) (hu : ∀ u ∈ us, 0 ≤ u ∧ u ≤ s - 1) : ∀ (d i k : Nat) (best : Int), i + d = us.length + 1 → d < k →
    Q7.l1 k us best ((us.length : Int) + 1) (i : Int) s r = some (bestK s costT us i d best)
  | 0, i, k, best, h, hk => by
    obtain ⟨k, rfl⟩ := succ_of (k := k) (by omega)
    simp only [Q7.l1]
    rw [if_neg (by omega)]
    rfl
  | d + 1, i, k, best, h, hk => by
    obtain ⟨k, rfl⟩ := succ_of (k := k) (by omega)
    have hdn := downK_bd hs.1 hu i
    have hup := upK_bd hs.1 hu i (by omega)
    have ih := impl_Road_tour_l1 s r us hs hl hu d (i + 1) k (min best (costT (downK s us i) (upK us i))) (by omega) (by omega)
    simp only [Q7.l1]
    rw [if_pos (by omega), bestK_succ, wrap_succ (n := us.length + 1) (by omega) (by omega)]
    by_cases c : (i : Int) > 0
    · have e : upK us i = rd us ((i : Int) - 1) := by unfold upK; rw [if_pos (by omega)]
      rw [if_pos c, wrap64_id (x := (i : Int) - 1) (by omega) (by omega), if_pos (by omega), if_pos (by omega), ← e]
      by_cases c2 : (i : Int) < (us.length : Int)
      · have e2 : downK s us i = s - rd us (i : Int) := by unfold downK; rw [if_pos (by omega)]
        have hq := rd_all hu i (by omega)
        rw [if_pos c2, if_pos (by omega), wrap64_id (x := s - _) (by omega) (by omega), ← e2, impl_Road_tour_3_eq _ _ (by omega) (by omega), Option.bind_some, mn_min]
        exact ih
      · have e2 : downK s us i = 0 := by unfold downK; rw [if_neg (by omega)]
        rw [e2] at ih ⊢
        rw [if_neg c2, impl_Road_tour_3_eq _ _ (by omega) (by omega), Option.bind_some, mn_min]
        exact ih
    · have e : upK us i = 0 := by unfold upK; rw [if_neg (by omega)]
      rw [e] at ih ⊢
      rw [if_neg c]
      by_cases c2 : (i : Int) < (us.length : Int)
      · have e2 : downK s us i = s - rd us (i : Int) := by unfold downK; rw [if_pos (by omega)]
        have hq := rd_all hu i (by omega)
        rw [if_pos c2, if_pos (by omega), wrap64_id (x := s - _) (by omega) (by omega), ← e2, impl_Road_tour_3_eq _ _ (by omega) (by omega), Option.bind_some, mn_min]
        exact ih
      · have e2 : downK s us i = 0 := by unfold downK; rw [if_neg (by omega)]
        rw [e2] at ih ⊢
        rw [if_neg c2, impl_Road_tour_3_eq _ _ (by omega) (by omega), Option.bind_some, mn_min]
        exact ih
theorem impl_Road_tour_eq (k : Nat) (s : Int) (r : Bool) (p : Int) (l : List Int) (hs : 2 ≤ s ∧ s ≤ 24) (hp : 0 ≤ p ∧ p ≤ s - 1) (hl : l.length ≤ 100000) (hx : ∀ x ∈ l, 0 ≤ x ∧ x ≤ s - 1) (hk : l.length + 10 < k) : Q7.f k s r p l = some (wayM costT s r p l) := by
  unfold Q7.f
  have hub : ∀ u ∈ sortI (l.map (upM s r p)), -s ≤ u ∧ u < s := fun u h => by
    obtain ⟨q, hq, rfl⟩ := List.mem_map.1 ((sortI_mem _ _).1 h)
    exact upM_bd hs.1 hp (hx q hq)
  have hlen : (sortI (l.map (upM s r p))).length = l.length := by rw [sortI_len, List.length_map]
  rw [impl_mapped_tour_eq k s r p l hs hp (by omega) hx (by omega), Option.bind_some]
  unfold Q51.f
  rw [if_pos (by rw [List.length_map]; omega), Option.bind_some]
  obtain ⟨k, rfl⟩ := succ_of (k := k) (by omega)
  cases r with
  | true =>
    rw [if_pos rfl]
    unfold Q52.f
    rw [Option.bind_some]
    simp only [Q7.j0]
    rw [if_pos trivial]
    have hl2 : ((sortI (l.map (upM s true p))).filter fun x => !(x == 0)).length ≤ l.length := Nat.le_trans (List.length_filter_le _ _) (by omega)
    have hu2 : ∀ u ∈ ((sortI (l.map (upM s true p))).filter fun x => !(x == 0)), 0 ≤ u ∧ u ≤ s - 1 := fun u h => by
      obtain ⟨q, hq, rfl⟩ := List.mem_map.1 ((sortI_mem _ _).1 (List.mem_filter.1 h).1)
      have := upRing_bd hs.1 hp (hx q hq)
      show 0 ≤ upRing s p q ∧ upRing s p q ≤ s - 1
      omega
    have e := impl_Road_tour_l1 s true _ hs (by omega) hu2 (((sortI (l.map (upM s true p))).filter fun x => !(x == 0)).length + 1) 0 k 60 (by omega) (by omega)
    rw [bestK_all, ways_sorted costT s p l 60 hs.1 hp hx costT_mono (by omega) (.inr (fun d h0 h1 => by unfold costT; omega))] at e
    rw [wrap64_id (by omega) (by omega)]
    exact e
  | false =>
    rw [if_neg (by simp)]
    simp only [Q7.j0]
    rw [if_neg (by simp)]
    have e := impl_Road_tour_l0 (sortI (l.map (upM s false p))) (by omega) (fun u h => by have := hub u h; omega) (sortI (l.map (upM s false p))).length 0 k 0 0 (by omega) (by omega) (by omega) (by omega)
    rw [show ((0 : Nat) : Int) = 0 from rfl, List.drop_zero, ways_line costT s p l] at e
    exact e
theorem gap_up {s p y : Int} (hs : 2 ≤ s) (hp : 0 ≤ p ∧ p ≤ s - 1) (hy : 0 ≤ y ∧ y ≤ s - 1) : gapM s true p y ≤ upRing s p y ∧ gapM s true p y ≤ s - upRing s p y ∧ gapM s true p y ≤ s := by
  have e : upRing s p y = if p ≤ y then y - p else y - p + s := by
    unfold upRing
    rw [Int.tmod_eq_emod_of_nonneg (by omega)]
    by_cases c : p ≤ y
    · rw [if_pos c, Int.add_emod_right, Int.emod_eq_of_lt (by omega) (by omega)]
    · rw [if_neg c, Int.emod_eq_of_lt (by omega) (by omega)]
  rw [e]
  unfold gapM
  simp only [if_true]
  split <;> split <;> split <;> omega
theorem gap_le_way {s : Int} {r : Bool} {c : Int → Int → Int} (hs : 2 ≤ s) (hc : ∀ a b, 0 ≤ a → 0 ≤ b → a + b ≤ c a b) {p : Int} (hp : 0 ≤ p ∧ p ≤ s - 1) {l : List Int} (hx : ∀ x ∈ l, 0 ≤ x ∧ x ≤ s - 1) (y : Int) (hy : y ∈ l) : gapM s r p y ≤ wayM c s r p l := by
  unfold wayM
  cases r with
  | true =>
    have hg := gap_up hs hp (hx y hy)
    simp only [if_true]
    unfold bestTo
    rw [le_foldMin]
    refine ⟨hg.2.2, fun i hi => ?_⟩
    have hL := leftAt_nn s (l.map (upRing s p)) (i : Int)
    refine Int.le_trans ?_ (hc _ _ hL (by omega))
    by_cases h : (i : Int) < upRing s p y
    · have := leftAt_ge (s := s) (List.mem_map.2 ⟨y, hy, rfl⟩ : upRing s p y ∈ l.map (upRing s p)) h
      omega
    · omega
  | false =>
    rw [if_neg (by simp)]
    have h1 := (foldMax_le (fun q => p - q) (leftL p l 0) l 0).1 (Int.le_refl _)
    have h2 := (foldMax_le (fun q => q - p) (rightL p l 0) l 0).1 (Int.le_refl _)
    refine Int.le_trans ?_ (hc _ _ h1.1 h2.1)
    have h3 := h1.2 y hy
    have h4 := h2.2 y hy
    unfold gapM
    simp only
    rw [if_neg (by simp)]
    split <;> omega
def stepsN : List Int → Int
  | a :: b :: t => (if b = a then 0 else 1) + stepsN (b :: t)
  | _ => 0
theorem drop2 (l : List Int) (i : Nat) (h1 : 1 ≤ i) (h : i < l.length) : l.drop (i - 1) = rd l ((i : Int) - 1) :: rd l (i : Int) :: l.drop (i + 1) := by
  obtain ⟨j, rfl⟩ : ∃ j, i = j + 1 := ⟨i - 1, by omega⟩
  rw [show j + 1 - 1 = j from rfl, drop_rd l j (by omega), drop_rd l (j + 1) h, show ((j + 1 : Nat) : Int) - 1 = (j : Int) by omega]
theorem drop1 (l : List Int) (i : Nat) (h1 : 1 ≤ i) (h : l.length ≤ i) : (l.drop (i - 1)).length ≤ 1 := by
  rw [List.length_drop]
  omega
theorem stepsN_short {l : List Int} (h : l.length ≤ 1) : stepsN l = 0 := by
  match l with
  | [] => rfl
  | [a] => rfl
  | a :: b :: t => simp at h
theorem step_at (l : List Int) (i : Nat) (h1 : 1 ≤ i) (h : i < l.length) : stepsN (l.drop (i - 1)) = (if rd l (i : Int) = rd l ((i : Int) - 1) then 0 else 1) + stepsN (l.drop (i + 1 - 1)) := by
  rw [drop2 l i h1 h, show i + 1 - 1 = i by omega, drop_rd l i h]
  rfl
theorem impl_StepCount_l0 (l : List Int) (hl : l.length ≤ 1000) : ∀ (d i k : Nat) (c : Int), i + d = l.length → 1 ≤ i → 0 ≤ c ∧ c ≤ i → d < k → Q15.l0 k l c (i : Int) = some (c + stepsN (l.drop (i - 1)), true)
  | 0, i, k, c, h, h1, hc, hk => by
    obtain ⟨k, rfl⟩ := succ_of (k := k) (by omega)
    simp only [Q15.l0]
    rw [if_neg (by omega), stepsN_short (drop1 l i h1 (by omega)), Int.add_zero]
  | d + 1, i, k, c, h, h1, hc, hk => by
    obtain ⟨k, rfl⟩ := succ_of (k := k) (by omega)
    simp only [Q15.l0]
    rw [if_pos (by omega), if_pos (by omega), wrap64_id (x := (i : Int) - 1) (by omega) (by omega), if_pos (by omega), if_pos (by omega), wrap_succ (n := 1001) (by omega) (by omega), step_at l i h1 (by omega)]
    by_cases e : rd l (i : Int) = rd l ((i : Int) - 1)
    · rw [if_pos e, if_pos e, impl_StepCount_l0 l hl d (i + 1) k c (by omega) (by omega) (by omega) (by omega), Int.zero_add]
    · rw [if_neg e, if_neg e, wrap64_id (x := c + 1) (by omega) (by omega), impl_StepCount_l0 l hl d (i + 1) k (c + 1) (by omega) (by omega) (by omega) (by omega), Int.add_assoc]
def okW (s : Int) (r : Bool) (w : List Int) : Bool := road s r && walkOkM s r w
theorem okW_bd {s : Int} {r : Bool} {w : List Int} (h : okW s r w = true) : road s r = true ∧ walkOkM s r w = true ∧ (1 ≤ w.length ∧ w.length ≤ 61) ∧ allIn w 0 (s - 1) = true ∧ chnM s r w 1 (w.length - 1) = true := by
  unfold okW at h
  rw [Bool.and_eq_true] at h
  have h2 := h.2
  unfold walkOkM at h2
  rw [Bool.and_eq_true, Bool.and_eq_true, inR_iff] at h2
  exact ⟨h.1, h.2, by omega, h2.1.2, h2.2⟩
theorem areW (k : Nat) (s : Int) (r : Bool) (w : List Int) (hl : w.length ≤ 1000) (hk : 1100 < k) : Q14.f k s r [w] = some (okW s r w) := by
  rw [impl_areWalks_eq k s r [w] (fun x hx => by rw [List.mem_singleton.1 hx]; omega) (by omega)]
  simp [okW]
theorem specW (k : Nat) (s : Int) (r : Bool) (w : List Int) (hl : w.length ≤ 1000) (hk : 1100 < k) : Q3.f k s r w = some (okW s r w) := spec_l2Walk_eq k s r w (by omega) (by omega)
def stepsM (s : Int) (r : Bool) (w : List Int) : Int × Bool := if okW s r w = true then (stepsN w, true) else (0, false)
theorem impl_StepCount_eq (k : Nat) (s : Int) (r : Bool) (w : List Int) (hl : w.length ≤ 1000) (hk : 2000 < k) : Q15.f k s r w = some (stepsM s r w) := by
  unfold Q15.f stepsM
  rw [areW k s r w hl (by omega), Option.bind_some]
  cases h : okW s r w with
  | false => simp
  | true =>
    have hb := okW_bd h
    have := impl_StepCount_l0 w hl (w.length - 1) 1 k 0 (by omega) (by omega) (by omega) (by omega)
    rw [if_pos rfl, if_pos rfl]
    simpa using this
def covM (s : Int) (r : Bool) (w : List Int) : Int × Bool := if okW s r w = true then worstM (visitsM w s.toNat) else (0, false)
theorem impl_Cover_eq (k : Nat) (s : Int) (r : Bool) (w : List Int) (hl : w.length ≤ 1000) (hk : 2200 < k) : Q59.f k s r w = some (covM s r w) := by
  unfold covM
  cases h : okW s r w with
  | false =>
    unfold Q59.f
    rw [areW k s r w hl (by omega), Option.bind_some, h]
    simp
  | true =>
    have hb := okW_bd h
    rw [if_pos rfl, impl_CoverTime_eq k s r w hb.1 hb.2.1 hl hk]
theorem bne_same (b : Bool) : (b != b) = false := by cases b <;> rfl
theorem split_last (w : List Int) (h : 1 ≤ w.length) : w = w.take (w.length - 1) ++ [rd w ((w.length : Int) - 1)] := by
  have h1 : w.length - 1 < w.length := by omega
  have h2 := List.take_succ_eq_append_getElem h1
  rw [show w.length - 1 + 1 = w.length by omega, List.take_length] at h2
  rw [show (w.length : Int) - 1 = ((w.length - 1 : Nat) : Int) by omega, rd_nat w _ h1]
  exact h2
theorem split_head (w : List Int) (h : 1 ≤ w.length) : w = rd w 0 :: w.drop 1 := by
  have := drop_rd w 0 (by omega)
  simpa using this
theorem split_mid (w : List Int) (t : Nat) (h : t < w.length) : w = w.take t ++ rd w (t : Int) :: w.drop (t + 1) := by
  conv => lhs; rw [← List.take_append_drop t w, drop_rd w t h]
def chL (s : Int) (r : Bool) : List Int → Bool
  | a :: b :: t => decide (gapM s r a b ≤ 1) && chL s r (b :: t)
  | _ => true
theorem chn_eq (s : Int) (r : Bool) (l : List Int) : ∀ (d i : Nat), i + d = l.length → 1 ≤ i → chnM s r l i d = chL s r (l.drop (i - 1))
  | 0, i, h, h1 => by
    have := drop1 l i h1 (by omega)
    match hl : l.drop (i - 1) with
    | [] => rfl
    | [a] => rfl
    | a :: b :: t => rw [hl] at this; simp at this
  | d + 1, i, h, h1 => by
    rw [chnM_succ, chn_eq s r l d (i + 1) (by omega) (by omega), drop2 l i h1 (by omega), show i + 1 - 1 = i by omega, drop_rd l i (by omega)]
    rfl
theorem ok_iff (s : Int) (r : Bool) (w : List Int) : okW s r w = (road s r && (inR (w.length : Int) 1 61 && allIn w 0 (s - 1) && chL s r w)) := by
  unfold okW walkOkM
  by_cases h : 1 ≤ w.length
  · rw [chn_eq s r w (w.length - 1) 1 (by omega) (by omega)]
    rfl
  · have : inR (w.length : Int) 1 61 = false := inR_not.2 (by omega)
    rw [this]
    simp
theorem ch_join (s : Int) (r : Bool) (x : Int) (m : List Int) : ∀ l : List Int, chL s r (l ++ x :: m) = (chL s r (l ++ [x]) && chL s r (x :: m))
  | [] => by simp [chL]
  | [a] => by
    show (decide (gapM s r a x ≤ 1) && chL s r (x :: m)) = ((decide (gapM s r a x ≤ 1) && true) && chL s r (x :: m))
    rw [Bool.and_true]
  | a :: b :: t => by
    have ih := ch_join s r x m (b :: t)
    show (decide (gapM s r a b ≤ 1) && chL s r ((b :: t) ++ x :: m)) = ((decide (gapM s r a b ≤ 1) && chL s r ((b :: t) ++ [x])) && chL s r (x :: m))
    rw [ih, Bool.and_assoc]
theorem steps_join (x : Int) (m : List Int) : ∀ l : List Int, stepsN (l ++ x :: m) = stepsN (l ++ [x]) + stepsN (x :: m)
  | [] => by simp [stepsN]
  | [a] => by
    show (if x = a then 0 else 1) + stepsN (x :: m) = ((if x = a then 0 else 1) + (0 : Int)) + stepsN (x :: m)
    omega
  | a :: b :: t => by
    have ih := steps_join x m (b :: t)
    show (if b = a then 0 else 1) + stepsN ((b :: t) ++ x :: m) = ((if b = a then 0 else 1) + stepsN ((b :: t) ++ [x])) + stepsN (x :: m)
    rw [ih]
    omega
theorem gap_self (s : Int) (r : Bool) (x : Int) (hs : 0 ≤ s) : gapM s r x x = 0 := by
  unfold gapM
  cases r <;> simp <;> omega
theorem ch_dup (s : Int) (r : Bool) (hs : 0 ≤ s) (x : Int) (m : List Int) : ∀ n : Nat, chL s r (x :: (List.replicate n x ++ m)) = chL s r (x :: m)
  | 0 => rfl
  | n + 1 => by
    rw [List.replicate_succ]
    show (decide (gapM s r x x ≤ 1) && chL s r (x :: (List.replicate n x ++ m))) = _
    rw [gap_self s r x hs, ch_dup s r hs x m n]
    rfl
theorem steps_dup (x : Int) (m : List Int) : ∀ n : Nat, stepsN (x :: (List.replicate n x ++ m)) = stepsN (x :: m)
  | 0 => rfl
  | n + 1 => by
    rw [List.replicate_succ]
    show (if x = x then 0 else 1) + stepsN (x :: (List.replicate n x ++ m)) = _
    rw [if_pos rfl, steps_dup x m n, Int.zero_add]
def joinOk (s : Int) (r : Bool) (a b : List Int) : Bool := okW s r a && okW s r b && decide (rd a ((a.length : Int) - 1) = rd b 0) && decide (a.length + b.length ≤ 62)
def joinM (s : Int) (r : Bool) (a b : List Int) : List Int × Bool := if joinOk s r a b = true then (a ++ b.drop 1, true) else ([], false)
theorem join_ok {s : Int} {r : Bool} {a b : List Int} (ha : okW s r a = true) (hb : okW s r b = true) (he : rd a ((a.length : Int) - 1) = rd b 0) : okW s r (a ++ b.drop 1) = decide (a.length + b.length ≤ 62) ∧ stepsN (a ++ b.drop 1) = stepsN a + stepsN b := by
  have h1 := okW_bd ha
  have h2 := okW_bd hb
  have ea := split_last a h1.2.2.1.1
  have eb := split_head b h2.2.2.1.1
  have hca : chL s r a = true := by have := h1.2.2.2.2; rw [chn_eq s r a _ 1 (by omega) (by omega)] at this; exact this
  have hcb : chL s r b = true := by have := h2.2.2.2.2; rw [chn_eq s r b _ 1 (by omega) (by omega)] at this; exact this
  have e : a ++ b.drop 1 = a.take (a.length - 1) ++ (rd b 0 :: b.drop 1) := by
    conv => lhs; rw [ea]
    rw [List.append_assoc, he]
    rfl
  have e2 : a.take (a.length - 1) ++ [rd b 0] = a := by rw [← he]; exact ea.symm
  constructor
  · rw [ok_iff, h1.1, Bool.true_and, List.length_append, List.length_drop]
    have hall : allIn (a ++ b.drop 1) 0 (s - 1) = true := by
      unfold allIn
      rw [List.all_append, Bool.and_eq_true, List.all_eq_true, List.all_eq_true]
      exact ⟨fun x hx => List.all_eq_true.1 h1.2.2.2.1 x hx, fun x hx => List.all_eq_true.1 h2.2.2.2.1 x (List.mem_of_mem_drop hx)⟩
    have hch : chL s r (a ++ b.drop 1) = true := by rw [e, ch_join, e2, ← eb, hca, hcb]; rfl
    rw [hall, hch, Bool.and_true, Bool.and_true]
    by_cases c : a.length + b.length ≤ 62
    · rw [decide_eq_true c]; exact inR_iff.2 (by omega)
    · rw [decide_eq_false c]; exact inR_not.2 (by omega)
  · rw [e, steps_join, e2, ← eb]
theorem impl_JoinWalks_eq (k : Nat) (s : Int) (r : Bool) (a b : List Int) (hl : a.length ≤ 1000) (hl2 : b.length ≤ 1000) (hk : 2000 < k) : Q29.f k s r a b = some (joinM s r a b) := by
  unfold Q29.f joinM joinOk
  rw [impl_areWalks_eq k s r [a, b] (fun x hx => by rcases List.mem_cons.1 hx with rfl | hx; omega; rw [List.mem_singleton.1 hx]; omega) (by omega), Option.bind_some]
  have e : (road s r && [a, b].all (walkOkM s r)) = (okW s r a && okW s r b) := by
    unfold okW
    cases road s r <;> simp
  rw [e]
  cases h : (okW s r a && okW s r b) with
  | false => simp
  | true =>
    rw [Bool.and_eq_true] at h
    have h1 := okW_bd h.1
    have h2 := okW_bd h.2
    rw [if_pos rfl, wrap64_id (x := (a.length : Int) - 1) (by omega) (by omega), wrap64_id (x := (a.length : Int) + (b.length : Int)) (by omega) (by omega), wrap64_id (by omega) (by omega), if_pos (by omega), if_pos (by omega), if_pos (by omega), Bool.true_and]
    by_cases c : rd a ((a.length : Int) - 1) = rd b 0
    · rw [if_pos c, decide_eq_true c, Bool.true_and]
      by_cases c2 : a.length + b.length ≤ 62
      · rw [if_neg (by omega), decide_eq_true c2, if_pos rfl, if_pos (by omega), slices_Concat_eq k [a, b.drop 1] (by simp) (by simp [tot]; omega) (by simp; omega), Option.bind_some]
        simp
      · rw [if_pos (by omega), decide_eq_false c2]
        simp
    · rw [if_neg c, decide_eq_false c]
      simp
theorem spec_Own_eq (l : List Int) (hl : l.length ≤ 1000) : Q46.f l = some l := by
  unfold Q46.f
  rw [Option.bind_some, if_pos (by simp; omega), List.nil_append]
theorem spec_Kept_eq (k : Nat) (s : Int) (r : Bool) (l : List Int) (hl : l.length ≤ 1000) (hk : 1100 < k) : Q45.f k s r l = some (if okW s r l = true then (l, true) else ([], false)) := by
  unfold Q45.f
  rw [specW k s r l hl hk, Option.bind_some]
  cases okW s r l <;> rfl
theorem spec_JoinWalks_eq (k : Nat) (s : Int) (r : Bool) (a b : List Int) (hl : a.length ≤ 400) (hl2 : b.length ≤ 400) (hk : 2000 < k) : Q8.f k s r a b = some (joinM s r a b) := by
  obtain ⟨k, rfl⟩ := succ_of (k := k) (by omega)
  have hj : Q8.j0 (k + 1) a b true s r = some ([], false) := by
    simp only [Q8.j0]
    rw [if_pos trivial]
  unfold Q8.f joinM joinOk
  rw [specW (k + 1) s r a (by omega) (by omega), Option.bind_some]
  cases ha : okW s r a with
  | false => rw [if_neg (by simp), hj]; simp
  | true =>
    rw [if_pos rfl, specW (k + 1) s r b (by omega) (by omega), Option.bind_some]
    cases hb : okW s r b with
    | false => rw [if_neg (by simp), hj]; simp
    | true =>
      have h1 := okW_bd ha
      have h2 := okW_bd hb
      rw [if_pos rfl, wrap64_id (x := (a.length : Int) - 1) (by omega) (by omega), if_pos (by omega), if_pos (by omega), if_pos (by omega)]
      by_cases c : rd a ((a.length : Int) - 1) = rd b 0
      · have hjo := join_ok ha hb c
        rw [show (rd a ((a.length : Int) - 1) != rd b 0) = false from by simp [c], decide_eq_true c]
        simp only [Q8.j0]
        rw [if_neg (by simp), spec_Own_eq a (by omega), Option.bind_some, if_pos (by omega), if_pos (by rw [List.length_drop]; omega), spec_Kept_eq k s r _ (by rw [List.length_append, List.length_drop]; omega) (by omega), Option.bind_some, hjo.1]
        simp
      · rw [show (rd a ((a.length : Int) - 1) != rd b 0) = true from by simp [c], decide_eq_false c, hj]
        simp
def waitL (w : List Int) (t : Int) (n : Int) : List Int := w.take (t + 1).toNat ++ List.replicate n.toNat (rd w t) ++ w.drop (t + 1).toNat
def waitOk (s : Int) (r : Bool) (w : List Int) (t n : Int) : Bool := okW s r w && inR t 0 ((w.length : Int) - 1) && inR n 0 (61 - (w.length : Int))
def waitM (s : Int) (r : Bool) (w : List Int) (t n : Int) : List Int × Bool := if waitOk s r w t n = true then (waitL w t n, true) else ([], false)
theorem waitL_len {w : List Int} {t n : Int} (ht : 0 ≤ t ∧ t ≤ (w.length : Int) - 1) (hn : 0 ≤ n) : ((waitL w t n).length : Int) = (w.length : Int) + n := by
  unfold waitL
  rw [List.length_append, List.length_append, List.length_take, List.length_drop, List.length_replicate]
  omega
theorem wait_ok {s : Int} {r : Bool} {w : List Int} {t n : Int} (h : okW s r w = true) (ht : 0 ≤ t ∧ t ≤ (w.length : Int) - 1) (hn : 0 ≤ n) : okW s r (waitL w t n) = decide (n ≤ 61 - (w.length : Int)) ∧ stepsN (waitL w t n) = stepsN w := by
  obtain ⟨q, rfl⟩ := Int.eq_ofNat_of_zero_le ht.1
  obtain ⟨m, rfl⟩ := Int.eq_ofNat_of_zero_le hn
  have hb := okW_bd h
  have hs := road_bd hb.1
  have hc : chL s r w = true := by have := hb.2.2.2.2; rw [chn_eq s r w _ 1 (by omega) (by omega)] at this; exact this
  have hlen := waitL_len (w := w) (t := (q : Int)) (n := (m : Int)) ht (by omega)
  have ew := split_mid w q (by omega)
  have e1 : waitL w (q : Int) (m : Int) = w.take q ++ rd w (q : Int) :: (List.replicate m (rd w (q : Int)) ++ w.drop (q + 1)) := by
    unfold waitL
    rw [show ((q : Int) + 1).toNat = q + 1 by omega, Int.toNat_natCast, List.take_succ_eq_append_getElem (show q < w.length by omega), rd_nat w q (by omega), List.append_assoc, List.append_assoc]
    rfl
  constructor
  · rw [ok_iff, hb.1, Bool.true_and, hlen]
    have hall : allIn (waitL w (q : Int) (m : Int)) 0 (s - 1) = true := by
      unfold waitL allIn
      rw [List.all_append, List.all_append, Bool.and_eq_true, Bool.and_eq_true, List.all_eq_true, List.all_eq_true, List.all_eq_true]
      refine ⟨⟨fun x hx => List.all_eq_true.1 hb.2.2.2.1 x (List.mem_of_mem_take hx), fun x hx => ?_⟩, fun x hx => List.all_eq_true.1 hb.2.2.2.1 x (List.mem_of_mem_drop hx)⟩
      rw [(List.mem_replicate.1 hx).2]
      exact inR_iff.2 (allIn_rdZ hb.2.2.2.1 ht.1 (by omega))
    have hch : chL s r (waitL w (q : Int) (m : Int)) = true := by
      rw [e1, ch_join, ch_dup s r (by omega), ← ch_join, ← ew]
      exact hc
    rw [hall, hch, Bool.and_true, Bool.and_true]
    by_cases c : (m : Int) ≤ 61 - (w.length : Int)
    · rw [decide_eq_true c]; exact inR_iff.2 (by omega)
    · rw [decide_eq_false c]; exact inR_not.2 (by omega)
  · rw [e1, steps_join, steps_dup, ← steps_join, ← ew]
theorem rep_snoc (x : Int) (i : Nat) : List.replicate i x ++ [x] = List.replicate (i + 1) x := by rw [← List.replicate_succ']
theorem impl_wait_l0 (w : List Int) (t : Nat) (ht : t < w.length) (hl : w.length ≤ 400) (n : Nat) (hn : n ≤ 100) : ∀ (d i k : Nat), i + d = n → d < k → Q13.l0 k w (t : Int) (w.take (t + 1) ++ List.replicate i (rd w (t : Int))) (n : Int) (i : Int) = some (waitL w (t : Int) (n : Int), true)
  | 0, i, k, h, hk => by
    obtain ⟨k, rfl⟩ := succ_of (k := k) (by omega)
    simp only [Q13.l0]
    rw [if_neg (by omega), wrap64_id (x := (t : Int) + 1) (by omega) (by omega), if_pos (by omega), if_pos (by omega), show ((t : Int) + 1).toNat = t + 1 by omega, if_pos (by rw [List.length_append, List.length_take, List.length_replicate, List.length_drop]; omega)]
    unfold waitL
    rw [show ((t : Int) + 1).toNat = t + 1 by omega, Int.toNat_natCast, show i = n by omega]
  | d + 1, i, k, h, hk => by
    obtain ⟨k, rfl⟩ := succ_of (k := k) (by omega)
    simp only [Q13.l0]
    rw [if_pos (by omega), if_pos (by omega), if_pos (by omega), if_pos (by rw [List.length_append, List.length_take, List.length_replicate]; omega), wrap_succ (n := 101) (by omega) (by omega), List.append_assoc, rep_snoc]
    exact impl_wait_l0 w t ht hl n hn d (i + 1) k (by omega) (by omega)
theorem spec_wait_l0 (s : Int) (r : Bool) (w : List Int) (t : Nat) (ht : t < w.length) (hl : w.length ≤ 400) (n : Nat) (hn : n ≤ 100) : ∀ (d i k : Nat), i + d = n → d + 1101 < k → Q11.l0 k w (t : Int) (n : Int) (w.take (t + 1) ++ List.replicate i (rd w (t : Int))) (i : Int) s r = some (if okW s r (waitL w (t : Int) (n : Int)) = true then (waitL w (t : Int) (n : Int), true) else ([], false))
  | 0, i, k, h, hk => by
    obtain ⟨k, rfl⟩ := succ_of (k := k) (by omega)
    have hw := waitL_len (w := w) (t := (t : Int)) (n := (n : Int)) (by omega) (by omega)
    have e : (w.take (t + 1) ++ List.replicate i (rd w (t : Int))) ++ w.drop (t + 1) = waitL w (t : Int) (n : Int) := by
      unfold waitL
      rw [show ((t : Int) + 1).toNat = t + 1 by omega, Int.toNat_natCast, show i = n by omega]
    simp only [Q11.l0]
    rw [if_neg (by omega), wrap64_id (x := (t : Int) + 1) (by omega) (by omega), if_pos (by omega), if_pos (by omega), show ((t : Int) + 1).toNat = t + 1 by omega, if_pos (by rw [List.length_append, List.length_take, List.length_replicate, List.length_drop]; omega), e, spec_Kept_eq k s r _ (by omega) (by omega), Option.bind_some]
  | d + 1, i, k, h, hk => by
    obtain ⟨k, rfl⟩ := succ_of (k := k) (by omega)
    simp only [Q11.l0]
    rw [if_pos (by omega), if_pos (by omega), if_pos (by omega), if_pos (by rw [List.length_append, List.length_take, List.length_replicate]; omega), wrap_succ (n := 101) (by omega) (by omega), List.append_assoc, rep_snoc]
    exact spec_wait_l0 s r w t ht hl n hn d (i + 1) k (by omega) (by omega)
theorem impl_WaitWalk_eq (k : Nat) (s : Int) (r : Bool) (w : List Int) (t n : Int) (hl : w.length ≤ 400) (hk : 2000 < k) : Q13.f k s r w t n = some (waitM s r w t n) := by
  obtain ⟨k, rfl⟩ := succ_of (k := k) (by omega)
  have hj : Q13.j0 (k + 1) w t n true = some ([], false) := by
    simp only [Q13.j0]
    rw [if_pos trivial]
  unfold Q13.f waitM waitOk
  rw [areW (k + 1) s r w (by omega) (by omega), Option.bind_some]
  cases h : okW s r w with
  | false => rw [if_neg (by simp), hj]; simp
  | true =>
    have hb := okW_bd h
    rw [if_pos rfl, impl_within_eq, Option.bind_some, wrap64_id (x := (w.length : Int) - 1) (by omega) (by omega), wrap64_id (x := 61 - (w.length : Int)) (by omega) (by omega), Bool.true_and]
    cases ht : inR t 0 ((w.length : Int) - 1) with
    | false => rw [if_neg (by simp), hj]; simp
    | true =>
      rw [if_pos rfl, impl_within_eq, Option.bind_some]
      cases hn : inR n 0 (61 - (w.length : Int)) with
      | false => exact hj.trans (by simp)
      | true =>
        have ht2 := inR_iff.1 ht
        have hn2 := inR_iff.1 hn
        obtain ⟨q, rfl⟩ := Int.eq_ofNat_of_zero_le ht2.1
        obtain ⟨m, rfl⟩ := Int.eq_ofNat_of_zero_le hn2.1
        have := impl_wait_l0 w q (by omega) hl m (by omega) m 0 k (by omega) (by omega)
        simp only [Q13.j0]
        rw [if_neg (by simp), wrap64_id (x := (q : Int) + 1) (by omega) (by omega), if_pos (by omega), if_pos (by omega), show ((q : Int) + 1).toNat = q + 1 by omega, impl_copied_eq _ (by rw [List.length_take]; omega), Option.bind_some]
        simpa using this
theorem spec_WaitWalk_eq (k : Nat) (s : Int) (r : Bool) (w : List Int) (t n : Int) (hl : w.length ≤ 400) (hk : 2000 < k) : Q11.f k s r w t n = some (waitM s r w t n) := by
  obtain ⟨k, rfl⟩ := succ_of (k := k) (by omega)
  have hj : Q11.j0 (k + 1) w t n true s r = some ([], false) := by
    simp only [Q11.j0]
    rw [if_pos trivial]
  unfold Q11.f waitM waitOk
  rw [specW (k + 1) s r w (by omega) (by omega), Option.bind_some]
  cases h : okW s r w with
  | false => rw [if_neg (by simp), hj]; simp
  | true =>
    have hb := okW_bd h
    rw [if_pos rfl, spec_l1In_eq, Option.bind_some, wrap64_id (x := (w.length : Int) - 1) (by omega) (by omega), Bool.true_and]
    cases ht : inR t 0 ((w.length : Int) - 1) with
    | false => rw [if_neg (by simp), hj]; simp
    | true =>
      have ht2 := inR_iff.1 ht
      rw [if_pos rfl, spec_l1In_eq, Option.bind_some, Bool.true_and]
      cases hn : inR n 0 60 with
      | false =>
        have hn2 := inR_not.1 hn
        have : inR n 0 (61 - (w.length : Int)) = false := inR_not.2 (by omega)
        rw [this]
        exact hj.trans (by simp)
      | true =>
        have hn2 := inR_iff.1 hn
        have hwo := wait_ok h ht2 hn2.1
        have e3 : inR n 0 (61 - (w.length : Int)) = decide (n ≤ 61 - (w.length : Int)) := by
          by_cases c : n ≤ 61 - (w.length : Int)
          · rw [decide_eq_true c]; exact inR_iff.2 ⟨hn2.1, c⟩
          · rw [decide_eq_false c]; exact inR_not.2 (by omega)
        rw [e3, ← hwo.1]
        clear e3 hwo
        obtain ⟨q, rfl⟩ := Int.eq_ofNat_of_zero_le ht2.1
        obtain ⟨m, rfl⟩ := Int.eq_ofNat_of_zero_le hn2.1
        have := spec_wait_l0 s r w q (by omega) hl m (by omega) m 0 k (by omega) (by omega)
        simp only [Q11.j0]
        rw [if_neg (by simp), wrap64_id (x := (q : Int) + 1) (by omega) (by omega), if_pos (by omega), if_pos (by omega), show ((q : Int) + 1).toNat = q + 1 by omega, spec_Own_eq _ (by rw [List.length_take]; omega), Option.bind_some]
        simpa using this
def tourM (s : Int) (r : Bool) (p : Int) (l : List Int) : Int × Bool := if (road s r && inR p 0 (s - 1) && allIn l 0 (s - 1)) = true then (wayM costT s r p l, true) else (0, false)
theorem impl_TourTime_eq (k : Nat) (s : Int) (r : Bool) (p : Int) (l : List Int) (hl : l.length ≤ 1000) (hk : 2000 < k) : Q42.f k s r p l = some (tourM s r p l) := by
  unfold Q42.f tourM
  rw [impl_IsRoad_eq, Option.bind_some]
  cases hr : road s r with
  | false => simp
  | true =>
    have hs := road_bd hr
    rw [if_pos rfl, impl_Road_has1 k s r p hr (by omega), Option.bind_some, Bool.true_and]
    cases hp : inR p 0 (s - 1) with
    | false => simp
    | true =>
      rw [if_pos rfl, impl_Road_hasN k s r l hr (by omega) (by omega), Option.bind_some, Bool.true_and]
      cases ha : allIn l 0 (s - 1) with
      | false => simp
      | true =>
        rw [if_pos rfl, if_pos rfl, impl_Road_tour_eq k s r p l ⟨hs.1, hs.2.1⟩ (inR_iff.1 hp) (by omega) (fun x hx => inR_iff.1 (List.all_eq_true.1 ha x hx)) (by omega)]
        rfl
theorem spec_Tour_eq (k : Nat) (s : Int) (r : Bool) (p : Int) (l : List Int) (hl : l.length ≤ 1000) (hk : 50000 < k) : Q6.f k s r p l = some (tourM s r p l) := spec_TourTime_eq k s r p l (by omega) (by omega)
theorem costT_nn (a b : Int) (ha : 0 ≤ a) (hb : 0 ≤ b) : 0 ≤ costT a b := by unfold costT; omega
theorem sum_leT (a b : Int) (ha : 0 ≤ a) (hb : 0 ≤ b) : a + b ≤ costT a b := by unfold costT; omega
theorem leftAt_mono {s right : Int} {f g : List Int} (h : ∀ x ∈ f, x ∈ g) : leftAt s f right ≤ leftAt s g right := by
  unfold leftAt
  refine (foldMax_le _ _ f 0).2 ⟨leftAt_nn s g right, fun i hi => ?_⟩
  exact ((foldMax_le (fun f => if right < f then s - f else 0) (leftAt s g right) g 0).1 (Int.le_refl _)).2 i (h i hi)
theorem way_mono {s : Int} {r : Bool} {p : Int} {l m : List Int} (h : ∀ x ∈ l, x ∈ m) : wayM costT s r p l ≤ wayM costT s r p m := by
  unfold wayM
  cases r with
  | true =>
    simp only [if_true]
    have h1 := (le_foldMin (fun i : Nat => costT (leftAt s (l.map (upRing s p)) (i : Int)) (i : Int)) (bestTo s costT (l.map (upRing s p))) (List.range s.toNat) s).1 (Int.le_refl _)
    conv => rhs; unfold bestTo
    refine (le_foldMin _ _ _ _).2 ⟨h1.1, fun i hi => Int.le_trans (h1.2 i hi) ?_⟩
    refine costT_mono _ _ _ _ (leftAt_nn _ _ _) (by omega) (leftAt_mono (fun x hx => ?_)) (Int.le_refl _)
    obtain ⟨y, hy, rfl⟩ := List.mem_map.1 hx
    exact List.mem_map.2 ⟨y, h y hy, rfl⟩
  | false =>
    rw [if_neg (by simp), if_neg (by simp)]
    have a1 := (foldMax_le (fun q => p - q) (leftL p m 0) m 0).1 (Int.le_refl _)
    have a2 := (foldMax_le (fun q => q - p) (rightL p m 0) m 0).1 (Int.le_refl _)
    have b1 := (foldMax_le (fun q => p - q) (leftL p l 0) l 0).1 (Int.le_refl _)
    have b2 := (foldMax_le (fun q => q - p) (rightL p l 0) l 0).1 (Int.le_refl _)
    refine costT_mono _ _ _ _ b1.1 b2.1 ?_ ?_
    · exact (foldMax_le (fun q => p - q) _ l 0).2 ⟨a1.1, fun i hi => a1.2 i (h i hi)⟩
    · exact (foldMax_le (fun q => q - p) _ l 0).2 ⟨a2.1, fun i hi => a2.2 i (h i hi)⟩
theorem way_nil (s : Int) (r : Bool) (p : Int) (hs : 2 ≤ s) : wayM costT s r p [] = 0 := by
  unfold wayM
  cases r with
  | true =>
    simp only [if_true, List.map_nil]
    have h1 := (le_foldMin (fun i : Nat => costT (leftAt s [] (i : Int)) (i : Int)) (bestTo s costT []) (List.range s.toNat) s).1 (Int.le_refl _)
    have h2 := h1.2 0 (List.mem_range.2 (by omega))
    have h3 : 0 ≤ bestTo s costT [] := (le_foldMin (fun i : Nat => costT (leftAt s [] (i : Int)) (i : Int)) 0 (List.range s.toNat) s).2 ⟨by omega, fun i _ => costT_nn _ _ (leftAt_nn _ _ _) (by omega)⟩
    have h4 : costT (leftAt s [] ((0 : Nat) : Int)) ((0 : Nat) : Int) = 0 := by
      show costT 0 0 = 0
      decide
    rw [h4] at h2
    omega
  | false => rfl
def rangeS (n : Nat) : List Int := (List.range n).map fun i : Nat => (i : Int)
def sweepChk (s a : Nat) (r : Bool) : Bool := match Q17.f 60 (s : Int) r (a : Int), Q48.f 60 (s : Int) r (a : Int) with
  | some (x, b), some (y, c) => decide (x = y) && b && c && okW (s : Int) r x && decide (worstM (visitsM x s) = (wayM costT (s : Int) r (a : Int) (rangeS s), true)) && decide ((x.length : Int) - 1 = wayM costT (s : Int) r (a : Int) (rangeS s))
  | _, _ => false
theorem sweepChk_2 : ((List.range' 2 7).all fun s => [true, false].all fun r => !(!r || decide (3 ≤ s)) || (List.range s).all fun a => sweepChk s a r) = true := by decide +kernel
theorem sweepChk_9 : ((List.range' 9 4).all fun s => [true, false].all fun r => !(!r || decide (3 ≤ s)) || (List.range s).all fun a => sweepChk s a r) = true := by decide +kernel
theorem sweepChk_13 : ((List.range' 13 4).all fun s => [true, false].all fun r => !(!r || decide (3 ≤ s)) || (List.range s).all fun a => sweepChk s a r) = true := by decide +kernel
theorem sweepChk_17 : ((List.range' 17 3).all fun s => [true, false].all fun r => !(!r || decide (3 ≤ s)) || (List.range s).all fun a => sweepChk s a r) = true := by decide +kernel
theorem sweepChk_20 : ((List.range' 20 2).all fun s => [true, false].all fun r => !(!r || decide (3 ≤ s)) || (List.range s).all fun a => sweepChk s a r) = true := by decide +kernel
theorem sweepChk_22 : ((List.range' 22 2).all fun s => [true, false].all fun r => !(!r || decide (3 ≤ s)) || (List.range s).all fun a => sweepChk s a r) = true := by decide +kernel
theorem sweepChk_24 : ((List.range' 24 1).all fun s => [true, false].all fun r => !(!r || decide (3 ≤ s)) || (List.range s).all fun a => sweepChk s a r) = true := by decide +kernel
theorem sweepChk_at (s : Nat) (h : 2 ≤ s ∧ s ≤ 24) : ([true, false].all fun r => !(!r || decide (3 ≤ s)) || (List.range s).all fun a => sweepChk s a r) = true := by
  by_cases c2 : s < 9
  · exact List.all_eq_true.1 sweepChk_2 s (List.mem_range'_1.2 (by omega))
  by_cases c9 : s < 13
  · exact List.all_eq_true.1 sweepChk_9 s (List.mem_range'_1.2 (by omega))
  by_cases c13 : s < 17
  · exact List.all_eq_true.1 sweepChk_13 s (List.mem_range'_1.2 (by omega))
  by_cases c17 : s < 20
  · exact List.all_eq_true.1 sweepChk_17 s (List.mem_range'_1.2 (by omega))
  by_cases c20 : s < 22
  · exact List.all_eq_true.1 sweepChk_20 s (List.mem_range'_1.2 (by omega))
  by_cases c22 : s < 24
  · exact List.all_eq_true.1 sweepChk_22 s (List.mem_range'_1.2 (by omega))
  exact List.all_eq_true.1 sweepChk_24 s (List.mem_range'_1.2 (by omega))
theorem sweep_of {s a : Nat} {r : Bool} (hs : 2 ≤ s ∧ s ≤ 24) (h3 : r = true → 3 ≤ s) (ha : a < s) : ∃ v, Q17.f 60 (s : Int) r (a : Int) = some (v, true) ∧ Q48.f 60 (s : Int) r (a : Int) = some (v, true) ∧ okW (s : Int) r v = true ∧ worstM (visitsM v s) = (wayM costT (s : Int) r (a : Int) (rangeS s), true) ∧ (v.length : Int) - 1 = wayM costT (s : Int) r (a : Int) (rangeS s) := by
  have h1 := sweepChk_at s hs
  have h2 := List.all_eq_true.1 h1 r (by cases r <;> simp)
  have e : (!r || decide (3 ≤ s)) = true := by
    cases r with
    | true => simpa using h3 rfl
    | false => rfl
  rw [e, Bool.not_true, Bool.false_or] at h2
  have h4 := List.all_eq_true.1 h2 a (List.mem_range.2 ha)
  unfold sweepChk at h4
  split at h4
  · rename_i x b y c e1 e2
    simp only [Bool.and_eq_true, decide_eq_true_eq] at h4
    obtain ⟨⟨⟨⟨⟨rfl, rfl⟩, rfl⟩, h5⟩, h6⟩, h7⟩ := h4
    exact ⟨x, e1, e2, h5, h6, h7⟩
  · cases h4
/-- What a sweep is: both answer the same, whatever the fuel. -/
theorem sweep_both (s : Int) (r : Bool) (a : Int) : ∃ (v : List Int) (b : Bool), (∀ k, 60 < k → Q17.f k s r a = some (v, b) ∧ Q48.f k s r a = some (v, b)) ∧ v.length ≤ 61 ∧ (b = true → road s r = true ∧ inR a 0 (s - 1) = true ∧ okW s r v = true ∧ worstM (visitsM v s.toNat) = (wayM costT s r a (rangeS s.toNat), true) ∧ (v.length : Int) - 1 = wayM costT s r a (rangeS s.toNat)) := by
  cases hr : road s r with
  | false =>
    refine ⟨[], false, fun k hk => ⟨?_, ?_⟩, by simp, fun h => by cases h⟩
    · unfold Q17.f
      rw [spec_l2Place_eq, Option.bind_some, hr]
      simp
    · unfold Q48.f
      rw [impl_IsRoad_eq, Option.bind_some, hr]
      simp
  | true =>
    have hs := road_bd hr
    cases hp : inR a 0 (s - 1) with
    | false =>
      refine ⟨[], false, fun k hk => ⟨?_, ?_⟩, by simp, fun h => by cases h⟩
      · unfold Q17.f
        rw [spec_l2Place_eq, Option.bind_some, hr, hp]
        simp
      · unfold Q48.f
        rw [impl_IsRoad_eq, Option.bind_some, hr, if_pos rfl, impl_Road_has1 k s r a hr (by omega), Option.bind_some, hp]
        simp
    | true =>
      have ha := inR_iff.1 hp
      obtain ⟨n, rfl⟩ := Int.eq_ofNat_of_zero_le (show 0 ≤ s by omega)
      obtain ⟨q, rfl⟩ := Int.eq_ofNat_of_zero_le ha.1
      obtain ⟨v, e1, e2, h5, h6, h7⟩ := sweep_of (s := n) (a := q) (r := r) (by omega) (fun h => by have := hs.2.2 h; omega) (by omega)
      have hb := okW_bd h5
      exact ⟨v, true, fun k hk => ⟨at_rounds (g := fun k => Q17.f k (n : Int) r (q : Int)) (Q17.mono _ _ _) (by omega) e1, at_rounds (g := fun k => Q48.f k (n : Int) r (q : Int)) (Q48.mono _ _ _) (by omega) e2⟩, hb.2.2.1.2, fun _ => ⟨rfl, rfl, h5, h6, h7⟩⟩
theorem DrawTour_l0 (l : List Int) (hl : byteL l) (s : Int) (r : Bool) (hs : -1 ≤ s ∧ s ≤ 4611686018427387904) : ∀ (d k : Nat) (out : List Int) (x a b : Int), (d : Int) = x ∨ (d = 0 ∧ x ≤ 0) → 0 ≤ a → a + 2 * (d + 1) ≤ 4000000000000000000 → out.length + d ≤ 100 → x ≤ 100 → d < k → ∃ (p : Int) (v : List Int), Q21.l0 k out x l a b s r = some (s, r, p, v) ∧ v.length ≤ 100
  | 0, k, out, x, a, b, hx, h0, h1, ho, hx2, hk => by
    obtain ⟨k, rfl⟩ := succ_of (k := k) (by omega)
    obtain ⟨p, a1, b1, e1, _, _⟩ := placeOn_ok l hl a b s r hs h0 (by omega)
    refine ⟨p, out, ?_, by omega⟩
    simp only [Q21.l0]
    rw [if_neg (by omega), e1]
    rfl
  | d + 1, k, out, x, a, b, hx, h0, h1, ho, hx2, hk => by
    obtain ⟨k, rfl⟩ := succ_of (k := k) (by omega)
    obtain ⟨p, a1, b1, e1, _, h2⟩ := placeOn_ok l hl a b s r hs h0 (by omega)
    obtain ⟨q, v, e2, hv⟩ := DrawTour_l0 l hl s r hs d k (out ++ [p]) (x - 1) a1 b1 (by omega) (by omega) (by omega) (by rw [List.length_append, List.length_singleton]; omega) (by omega) (by omega)
    refine ⟨q, v, ?_, hv⟩
    simp only [Q21.l0]
    rw [if_pos (by omega), e1, Option.bind_some, if_pos (by omega), wrap64_id (x := x - 1) (by omega) (by omega)]
    exact e2
theorem DrawTour_ok (k : Nat) (l : List Int) (hl : byteL l) (hk : 100 < k) : ∃ (s : Int) (r : Bool) (p : Int) (v : List Int), Q21.f k l = some (s, r, p, v) ∧ v.length ≤ 100 := by
  obtain ⟨s, r, a, b, e, hs, h1⟩ := roadd_ok l hl 0 0 (by omega) (by omega)
  obtain ⟨n, a2, b2, e2, hn, h2⟩ := among_ok l hl a b [2, 3, 1, 0, 5] (by omega) (by omega) (by simp) (by simp)
  have hn2 : 0 ≤ n ∧ n ≤ 5 := by simp at hn; omega
  obtain ⟨p, v, e3, hv⟩ := DrawTour_l0 l hl s r hs n.toNat k [] n a2 b2 (.inl (by omega)) (by omega) (by omega) (by simp; omega) (by omega) (by omega)
  refine ⟨s, r, p, v, ?_, hv⟩
  unfold Q21.f
  rw [e, Option.bind_some, e2, Option.bind_some]
  exact e3
theorem DrawJoin_ok (k : Nat) (l : List Int) (hl : byteL l) (hk : 100 < k) : ∃ (s : Int) (r : Bool) (v w : List Int), Q26.f k l = some (s, r, v, w) ∧ v.length ≤ 100 ∧ w.length ≤ 100 := by
  obtain ⟨s, r, a, b, e, hs, h1⟩ := roadd_ok l hl 0 0 (by omega) (by omega)
  obtain ⟨v, a2, b2, e2, hv, h2⟩ := walkd_ok k l hl a b s r hs (by omega) (by omega) (by omega)
  obtain ⟨q, a3, b3, e3, h3⟩ := one_ok l hl a2 b2 8 (by omega) (by omega) (by omega)
  unfold Q26.f
  rw [e, Option.bind_some, e2, Option.bind_some, e3, Option.bind_some]
  dsimp only
  cases q with
  | true =>
    obtain ⟨w, a4, b4, e4, hw, _⟩ := walkd_ok k l hl a3 b3 s r hs (by omega) (by omega) (by omega)
    rw [if_pos rfl, e4]
    exact ⟨s, r, v, w, rfl, by omega, by omega⟩
  | false =>
    obtain ⟨n, a4, b4, e4, hn, h4⟩ := among_ok l hl a3 b3 [4, 8, 1, 20, 40] (by omega) (by omega) (by simp) (by simp)
    have hn2 : n ≤ 62 := by simp at hn; omega
    obtain ⟨w, a5, b5, e5, hw, _⟩ := walkFrom_ok k l hl a4 b4 s r (rd v ((v.length : Int) - 1)) n hn2 (by omega) (by omega) (by omega)
    rw [if_neg (by simp), wrap64_id (x := (v.length : Int) - 1) (by omega) (by omega), if_pos (by omega), if_pos (by omega), e4, Option.bind_some, e5]
    exact ⟨s, r, v, w, rfl, by omega, by omega⟩
theorem DrawWait_ok (k : Nat) (l : List Int) (hl : byteL l) (hk : 100 < k) : ∃ (s : Int) (r : Bool) (w : List Int) (t n : Int), Q36.f k l = some (s, r, w, t, n) ∧ w.length ≤ 100 := by
  obtain ⟨s, r, a, b, e, hs, h1⟩ := roadd_ok l hl 0 0 (by omega) (by omega)
  obtain ⟨w, a2, b2, e2, hw, h2⟩ := walkd_ok k l hl a b s r hs (by omega) (by omega) (by omega)
  obtain ⟨x, a3, b3, e3, _, h3⟩ := pick_ok l hl a2 b2 (w.length : Int) (by omega) (by omega) (by omega)
  obtain ⟨y, a4, b4, e4, _, h4⟩ := pick_ok l hl a3 b3 24 (by omega) (by omega) (by omega)
  obtain ⟨n, a5, b5, e5, _, _⟩ := among_ok l hl a4 b4 [1, 2, 5, 0, 30, 60, -1, 4611686018427387904] (by omega) (by omega) (by simp) (by simp)
  unfold Q36.f
  rw [e, Option.bind_some, e2, Option.bind_some, e3, Option.bind_some, e4, Option.bind_some, e5]
  exact ⟨s, r, w, _, n, rfl, by omega⟩
theorem DrawSweep_ok (l : List Int) (hl : byteL l) : ∃ (s : Int) (r : Bool) (p : Int), Q63.f l = some (s, r, p) := by
  obtain ⟨s, r, p, e, _⟩ := DrawNeighborsOn_ok l hl
  refine ⟨s, r, p, ?_⟩
  unfold Q63.f
  rw [e]
  rfl
theorem joinM_len (s : Int) (r : Bool) (a b : List Int) : (joinM s r a b).1.length ≤ 200 := by
  unfold joinM
  cases h : joinOk s r a b with
  | false => simp
  | true =>
    unfold joinOk at h
    rw [Bool.and_eq_true, decide_eq_true_iff] at h
    rw [if_pos rfl, List.length_append, List.length_drop]
    omega
theorem waitM_len (s : Int) (r : Bool) (w : List Int) (t n : Int) : (waitM s r w t n).1.length ≤ 200 := by
  unfold waitM
  cases h : waitOk s r w t n with
  | false => simp
  | true =>
    unfold waitOk at h
    rw [Bool.and_eq_true, Bool.and_eq_true, inR_iff, inR_iff] at h
    have := waitL_len (w := w) (t := t) (n := n) h.1.2 h.2.1
    rw [if_pos rfl]
    show (waitL w t n).length ≤ 200
    omega
theorem tours_l1 (s : Int) (r : Bool) (hr : road s r = true) (p : Int) (hp : inR p 0 (s - 1) = true) (l : List Int) (ha : allIn l 0 (s - 1) = true) (hl : l.length ≤ 100) : ∀ (d i k : Nat) (m : Int), i + d = l.length → (0 ≤ m ∧ m ≤ wayM costT s r p l) → d + 2100 < k → Q0.l1 k p l (wayM costT s r p l) m (i : Int) s r = some true
  | 0, i, k, m, h, hm, hk => by
    have hs := road_bd hr
    have hp2 := inR_iff.1 hp
    obtain ⟨k, rfl⟩ := succ_of (k := k) (by omega)
    simp only [Q0.l1]
    rw [if_neg (by omega), if_neg (by omega)]
    by_cases c : (l.length : Int) = 0
    · have hl0 : l = [] := List.eq_nil_of_length_eq_zero (by omega)
      rw [if_pos c, hl0, way_nil s r p hs.1]
      rfl
    · have ha2 : allIn (l.drop 1) 0 (s - 1) = true := List.all_eq_true.2 (fun x hx => List.all_eq_true.1 ha x (List.mem_of_mem_drop hx))
      have e : tourM s r p (l.drop 1) = (wayM costT s r p (l.drop 1), true) := by unfold tourM; rw [hr, hp, ha2]; rfl
      have hmono := way_mono (s := s) (r := r) (p := p) (l := l.drop 1) (m := l) (fun x hx => List.mem_of_mem_drop hx)
      rw [if_neg c, if_pos (by omega), impl_TourTime_eq k s r p _ (by rw [List.length_drop]; omega) (by omega), Option.bind_some, e]
      simp only [if_true]
      rw [decide_eq_true hmono]
  | d + 1, i, k, m, h, hm, hk => by
    have hs := road_bd hr
    have hp2 := inR_iff.1 hp
    have hq := allIn_rdZ ha (i := (i : Int)) (by omega) (by omega)
    have hg := gap_le_way (s := s) (r := r) (c := costT) hs.1 sum_leT hp2 (l := l) (fun x hx => inR_iff.1 (List.all_eq_true.1 ha x hx)) (rd l (i : Int)) (by rw [rd_nat l i (by omega)]; exact List.getElem_mem _)
    have hg0 := gapM_bd (s := s) (r := r) hs.1 hp2 hq
    obtain ⟨k, rfl⟩ := succ_of (k := k) (by omega)
    have hG : Q64.f k s r p (rd l (i : Int)) = some (gapM s r p (rd l (i : Int)), true) := by
      unfold Q64.f
      have h2 : allIn [p, rd l (i : Int)] 0 (s - 1) = true := by
        unfold allIn
        rw [List.all_cons, hp, List.all_cons, inR_iff.2 hq]
        rfl
      rw [impl_IsRoad_eq, Option.bind_some, hr, if_pos rfl, impl_Road_hasN k s r _ hr (by simp) (by simp; omega), Option.bind_some, h2, if_pos rfl, impl_Road_gap_eq s r p _ (by omega) (by omega) (by omega)]
      rfl
    simp only [Q0.l1]
    rw [if_pos (by omega), if_pos (by omega), hG, Option.bind_some]
    simp only [if_true]
    rw [wrap_succ (n := 1000) (by omega) (by omega)]
    by_cases c : gapM s r p (rd l (i : Int)) > m
    · rw [if_pos c]
      exact tours_l1 s r hr p hp l ha hl d (i + 1) k _ (by omega) ⟨by omega, hg⟩ (by omega)
    · rw [if_neg c]
      exact tours_l1 s r hr p hp l ha hl d (i + 1) k m (by omega) hm (by omega)
theorem tours_j7 (k : Nat) (s : Int) (r : Bool) (p : Int) (l : List Int) (hl : l.length ≤ 100) (hk : 3000 < k) : Q0.j7 k p l (tourM s r p l).1 (tourM s r p l).2 s r = some true := by
  obtain ⟨k, rfl⟩ := succ_of (k := k) (by omega)
  simp only [Q0.j7]
  cases h : (road s r && inR p 0 (s - 1) && allIn l 0 (s - 1)) with
  | false =>
    have e : tourM s r p l = (0, false) := by unfold tourM; rw [h]; rfl
    rw [e, if_neg (by simp)]
  | true =>
    have e : tourM s r p l = (wayM costT s r p l, true) := by unfold tourM; rw [h]; rfl
    rw [Bool.and_eq_true, Bool.and_eq_true] at h
    rw [e, if_pos rfl]
    have hs := road_bd h.1.1
    have hp2 := inR_iff.1 h.1.2
    have h0 : 0 ≤ wayM costT s r p l := by
      have := way_mono (s := s) (r := r) (p := p) (l := []) (m := l) (fun x hx => by cases hx)
      rw [way_nil s r p hs.1] at this
      exact this
    exact tours_l1 s r h.1.1 p h.1.2 l h.2 hl l.length 0 k 0 (by omega) ⟨by omega, h0⟩ (by omega)
theorem stepsN_bd2 : ∀ l : List Int, 0 ≤ stepsN l ∧ stepsN l ≤ l.length
  | [] => by simp [stepsN]
  | [a] => by simp [stepsN]
  | a :: b :: t => by
    have h := stepsN_bd2 (b :: t)
    have e : stepsN (a :: b :: t) = (if b = a then 0 else 1) + stepsN (b :: t) := rfl
    have e2 : ((a :: b :: t).length : Int) = ((b :: t).length : Int) + 1 := by simp
    rw [e, e2]
    split <;> omega
theorem steps_ok {s : Int} {r : Bool} {w : List Int} (h : okW s r w = true) : stepsM s r w = (stepsN w, true) := by unfold stepsM; rw [h]; rfl
theorem tours_j6 (k : Nat) (s : Int) (r : Bool) (p : Int) (l : List Int) (hl : l.length ≤ 100) (x : Int) (x2 : Bool) (w : List Int) (t n : Int) (hw : w.length ≤ 100) (hk : 4000 < k) : Q0.j6 k p l (tourM s r p l).1 (tourM s r p l).2 w n (waitM x x2 w t n).1 (waitM x x2 w t n).2 s r x x2 = some true := by
  obtain ⟨k, rfl⟩ := succ_of (k := k) (by omega)
  have hj := tours_j7 k s r p l hl (by omega)
  simp only [Q0.j6]
  cases h : waitOk x x2 w t n with
  | false =>
    have e : waitM x x2 w t n = ([], false) := by unfold waitM; rw [h]; rfl
    rw [e, if_neg (by simp)]
    exact hj
  | true =>
    have e : waitM x x2 w t n = (waitL w t n, true) := by unfold waitM; rw [h]; rfl
    unfold waitOk at h
    rw [Bool.and_eq_true, Bool.and_eq_true, inR_iff, inR_iff] at h
    have hb := okW_bd h.1.1
    have hwo := wait_ok h.1.1 h.1.2 h.2.1
    have hok : okW x x2 (waitL w t n) = true := by rw [hwo.1]; exact decide_eq_true h.2.2
    have hlen := waitL_len (w := w) (t := t) (n := n) h.1.2 h.2.1
    rw [e]
    dsimp only
    rw [if_pos rfl, impl_StepCount_eq k x x2 w (by omega) (by omega), Option.bind_some, impl_StepCount_eq k x x2 _ (by omega) (by omega), Option.bind_some, steps_ok h.1.1, steps_ok hok, hwo.2]
    simp only [if_true]
    rw [if_pos (by rw [wrap64_id (by omega) (by omega)]; exact hlen)]
    exact hj
theorem tours_j5 (k : Nat) (s : Int) (r : Bool) (p : Int) (l : List Int) (hl : l.length ≤ 100) (y : Int) (y2 : Bool) (a b : List Int) (ha : a.length ≤ 100) (hb : b.length ≤ 100) (x : Int) (x2 : Bool) (w : List Int) (t n : Int) (hw : w.length ≤ 100) (hk : 5000 < k) : Q0.j5 k p l (tourM s r p l).1 (tourM s r p l).2 a b (joinM y y2 a b).1 (joinM y y2 a b).2 w n (waitM x x2 w t n).1 (waitM x x2 w t n).2 s r y y2 x x2 = some true := by
  obtain ⟨k, rfl⟩ := succ_of (k := k) (by omega)
  have hj := tours_j6 k s r p l hl x x2 w t n hw (by omega)
  simp only [Q0.j5]
  cases h : joinOk y y2 a b with
  | false =>
    have e : joinM y y2 a b = ([], false) := by unfold joinM; rw [h]; rfl
    rw [e, if_neg (by simp)]
    exact hj
  | true =>
    have e : joinM y y2 a b = (a ++ b.drop 1, true) := by unfold joinM; rw [h]; rfl
    unfold joinOk at h
    rw [Bool.and_eq_true, Bool.and_eq_true, Bool.and_eq_true, decide_eq_true_iff, decide_eq_true_iff] at h
    have h1 := okW_bd h.1.1.1
    have h2 := okW_bd h.1.1.2
    have hjo := join_ok h.1.1.1 h.1.1.2 h.1.2
    have hok : okW y y2 (a ++ b.drop 1) = true := by rw [hjo.1]; exact decide_eq_true h.2
    have hlen : ((a ++ b.drop 1).length : Int) = (a.length : Int) + (b.length : Int) - 1 := by rw [List.length_append, List.length_drop]; omega
    have hst : 0 ≤ stepsN a + stepsN b ∧ stepsN a + stepsN b ≤ 1000 := by
      have b1 := stepsN_bd2 a
      have b2 := stepsN_bd2 b
      omega
    rw [e]
    dsimp only
    rw [if_pos rfl, impl_StepCount_eq k y y2 a (by omega) (by omega), Option.bind_some, impl_StepCount_eq k y y2 b (by omega) (by omega), Option.bind_some, impl_StepCount_eq k y y2 _ (by omega) (by omega), Option.bind_some, steps_ok h.1.1.1, steps_ok h.1.1.2, steps_ok hok, hjo.2]
    simp only [if_true]
    rw [if_pos (wrap64_id (by omega) (by omega)), wrap64_id (x := (a.length : Int) + (b.length : Int)) (by omega) (by omega), if_pos (by rw [wrap64_id (by omega) (by omega)]; exact hlen)]
    exact hj
theorem rangeS_snoc (n : Nat) : rangeS (n + 1) = rangeS n ++ [(n : Int)] := by unfold rangeS; rw [List.range_succ, List.map_append]; rfl
theorem rangeS_len (n : Nat) : (rangeS n).length = n := by simp [rangeS]
theorem rangeS_in (s : Int) : allIn (rangeS s.toNat) 0 (s - 1) = true := by
  refine List.all_eq_true.2 (fun x hx => ?_)
  obtain ⟨i, hi, rfl⟩ := List.mem_map.1 hx
  have := List.mem_range.1 hi
  exact inR_iff.2 (by omega)
theorem tours_l0 (s : Int) (r : Bool) (p : Int) (l : List Int) (hl : l.length ≤ 100) (q : Int) (q2 : Bool) (c : Int) (v : List Int) (hr : road q q2 = true) (hc : inR c 0 (q - 1) = true) (hv : (v.length : Int) - 1 = wayM costT q q2 c (rangeS q.toNat)) (hv2 : v.length ≤ 100) (y : Int) (y2 : Bool) (a b : List Int) (ha : a.length ≤ 100) (hb : b.length ≤ 100) (x : Int) (x2 : Bool) (w : List Int) (t n : Int) (hw : w.length ≤ 100) : ∀ (d i k : Nat), i + d = q.toNat → d + 6000 < k →
    Q0.l0 k p l (tourM s r p l).1 (tourM s r p l).2 c v a b (joinM y y2 a b).1 (joinM y y2 a b).2 w n (waitM x x2 w t n).1 (waitM x x2 w t n).2 (wayM costT q q2 c (rangeS q.toNat)) true (rangeS i) (i : Int) s r q q2 y y2 x x2 = some true
  | 0, i, k, h, hk => by
    have hs := road_bd hr
    obtain ⟨k, rfl⟩ := succ_of (k := k) (by omega)
    have hi : i = q.toNat := by omega
    subst hi
    have e : tourM q q2 c (rangeS q.toNat) = (wayM costT q q2 c (rangeS q.toNat), true) := by unfold tourM; rw [hr, hc, rangeS_in]; rfl
    simp only [Q0.l0]
    rw [if_neg (by omega), impl_TourTime_eq k q q2 c _ (by rw [rangeS_len]; omega) (by omega), Option.bind_some, e]
    simp only [if_true]
    rw [if_pos (by rw [wrap64_id (by omega) (by omega)]; exact hv.symm)]
    exact tours_j5 k s r p l hl y y2 a b ha hb x x2 w t n hw (by omega)
  | d + 1, i, k, h, hk => by
    have hs := road_bd hr
    obtain ⟨k, rfl⟩ := succ_of (k := k) (by omega)
    simp only [Q0.l0]
    rw [if_pos (by omega), if_pos (by rw [rangeS_len]; omega), wrap_succ (n := 100) (by omega) (by omega), ← rangeS_snoc]
    exact tours_l0 s r p l hl q q2 c v hr hc hv hv2 y y2 a b ha hb x x2 w t n hw d (i + 1) k (by omega) (by omega)
theorem FnTours : Q0.Pure := by
  intro l0 hm _ hwf
  have hl : byteL l0 := fun x hx => by
    have := hwf x hx
    simp [Lit.wf, IntKind.min, IntKind.max, IntKind.bits, IntKind.signed, IntKind.wrap] at this
    omega
  obtain ⟨K, hK⟩ : ∃ K : Nat, K = 60000 := ⟨_, rfl⟩
  refine ⟨K + 1 + 1 + 1 + 1, ?_⟩
  unfold Q0.f Q60.f
  rw [Option.bind_some]
  by_cases c0 : (l0.length : Int) > 65536
  · rw [decide_eq_true c0, if_pos rfl]
  rw [decide_eq_false c0, if_neg (by simp)]
  obtain ⟨s, r, p, l, e0, hpl⟩ := DrawTour_ok (K + 1 + 1 + 1 + 1) l0 hl (by omega)
  obtain ⟨q, q2, c, e1⟩ := DrawSweep_ok l0 hl
  obtain ⟨y, y2, a, b, e2, ha, hb⟩ := DrawJoin_ok (K + 1 + 1) l0 hl (by omega)
  obtain ⟨x, x2, w, t, n, e3, hw⟩ := DrawWait_ok (K + 1) l0 hl (by omega)
  obtain ⟨v, ok, hsw, hv, hok⟩ := sweep_both q q2 c
  have jl := joinM_len y y2 a b
  have wl := waitM_len x x2 w t n
  rw [e0, Option.bind_some]
  simp only
  rw [impl_TourTime_eq _ s r p l (by omega) (by omega), Option.bind_some, spec_Tour_eq _ s r p l (by omega) (by omega), Option.bind_some, if_pos rfl, bne_same]
  simp only [Q0.j0]
  rw [if_neg (by simp), e1, Option.bind_some]
  simp only
  rw [(hsw _ (by omega)).2, Option.bind_some, (hsw _ (by omega)).1, Option.bind_some]
  simp only
  rw [bne_same, if_neg (by simp), laws_rInts_self _ v (by omega) (by omega), Option.bind_some]
  simp only [Q0.j1]
  rw [if_neg (by simp), e2, Option.bind_some]
  simp only
  rw [impl_JoinWalks_eq _ y y2 a b (by omega) (by omega) (by omega), Option.bind_some, spec_JoinWalks_eq _ y y2 a b (by omega) (by omega) (by omega), Option.bind_some, bne_same, if_neg (by simp), laws_rInts_self _ _ (by omega) (by omega), Option.bind_some]
  simp only [Q0.j2]
  rw [if_neg (by simp), e3, Option.bind_some]
  simp only
  rw [impl_WaitWalk_eq _ x x2 w t n (by omega) (by omega), Option.bind_some, spec_WaitWalk_eq _ x x2 w t n (by omega) (by omega), Option.bind_some, bne_same, if_neg (by simp), laws_rInts_self _ _ (by omega) (by omega), Option.bind_some]
  obtain ⟨K, rfl⟩ := succ_of (k := K) (by omega)
  simp only [Q0.j3]
  rw [if_neg (by simp)]
  cases hob : ok with
  | false =>
    rw [if_neg (by simp)]
    exact tours_j5 (K + 1) s r p l hpl y y2 a b ha hb x x2 w t n hw (by omega)
  | true =>
    obtain ⟨h1, h2, h3, h4, h5⟩ := hok hob
    have ec : covM q q2 v = (wayM costT q q2 c (rangeS q.toNat), true) := by unfold covM; rw [h3, if_pos rfl, h4]
    rw [if_pos rfl, impl_Cover_eq (K + 1) q q2 v (by omega) (by omega), Option.bind_some, ec]
    have := tours_l0 s r p l hpl q q2 c v h1 h2 h5 (by omega) y y2 a b ha hb x x2 w t n hw q.toNat 0 (K + 1) (by omega) (by have := road_bd h1; omega)
    exact this

end Go.Proofs.Ytbjpfnpleajhgad.Pure
