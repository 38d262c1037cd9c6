/- Plain facts on numbers and lists: what the functions that the law FnLabels reaches answer, and that the law's own function answers true. No program, no memory. -/
import Derived.Test.YtmamhnbhahafgaaPFnLabelsx1
import Derived.Test.YtmamhnbhahafgaaPFnLabelsx2
import Derived.Test.YtmamhnbhahafgaaPFnLabelsx3
import Derived.Test.YtmamhnbhahafgaaPFnLabelsx4
import Derived.Test.YtmamhnbhahafgaaPFnLabelsx5
import Derived.Test.YtmamhnbhahafgaaPFnLabelsx6
import Derived.Test.YtmamhnbhahafgaaPFnLabelsx7
import Derived.Test.YtmamhnbhahafgaaPFnLabelsx8
import Derived.Test.YtmamhnbhahafgaaPFnLabelsx9
import Derived.Test.YtmamhnbhahafgaaPFnLabelsx10
import Derived.Test.YtmamhnbhahafgaaPFnLabelsx11
import Derived.Test.YtmamhnbhahafgaaPFnLabelsx12
import Derived.Laws.Bits64b
namespace Go.Proofs.Ytmamhnbhahafgaa.Pure
open Go.RowKit Go.Proofs.Ytmamhnbhahafgaa.PFnLabels Go.Proofs.YtmamhnbhahafgaaW.PrintWords Go.Proofs.YtmamhnbhahafgaaW.PrintLast Go.Proofs.YtmamhnbhahafgaaW.PrintMore
set_option linter.unusedVariables false
set_option linter.unusedSimpArgs false
theorem wrap64_id {x : Int} (h1 : -9223372036854775808 ≤ x) (h2 : x ≤ 9223372036854775807) : wrap64 x = x := by unfold wrap64; omega
def inR (x a b : Int) : Bool := decide (a ≤ x) && decide (x ≤ b)
theorem inR_iff {x a b : Int} : inR x a b = true ↔ a ≤ x ∧ x ≤ b := by unfold inR; simp
theorem inR_not {x a b : Int} : inR x a b = false ↔ ¬ (a ≤ x ∧ x ≤ b) := by rw [← inR_iff]; simp
def road (s : Int) (r : Bool) : Bool := inR s 2 24 && (!r || decide (3 ≤ s))
theorem road_bd {s : Int} {r : Bool} (h : road s r = true) : 2 ≤ s ∧ s ≤ 24 ∧ (r = true → 3 ≤ s) := by
  unfold road at h
  rw [Bool.and_eq_true, inR_iff] at h
  refine ⟨h.1.1, h.1.2, fun hr => ?_⟩
  have := h.2
  simp [hr] at this
  exact this
theorem spec_l1In_eq (a b c : Int) : spec_l1In.f a b c = some (inR a b c) := by
  unfold spec_l1In.f inR
  by_cases h : a ≥ b
  · have h' : b ≤ a := h
    simp [h, h']
  · have h' : ¬ b ≤ a := h
    simp [h, h']
theorem impl_within_eq (a b c : Int) : impl_within.f a b c = some (inR a b c) := by
  unfold impl_within.f inR
  by_cases h : a ≥ b
  · have h' : b ≤ a := h
    simp [h, h']
  · have h' : ¬ b ≤ a := h
    simp [h, h']
theorem spec_l2Road_eq (s : Int) (r : Bool) : spec_l2Road.f s r = some (road s r) := by
  unfold spec_l2Road.f road
  rw [spec_l1In_eq, Option.bind_some]
  cases inR s 2 24 <;> cases r <;> simp
  omega
theorem impl_IsRoad_eq (s : Int) (r : Bool) : impl_IsRoad.f s r = some (road s r) := by
  unfold impl_IsRoad.f road
  rw [impl_within_eq, Option.bind_some]
  cases inR s 2 24 <;> cases r <;> simp
theorem wrap_succ {i n : Nat} (h : i < n) (hn : n ≤ 9223372036854775807) : wrap64 ((i : Int) + 1) = ((i + 1 : Nat) : Int) := by unfold wrap64; omega
theorem drop_rd (l : List Int) (i : Nat) (h : i < l.length) : l.drop i = rd l (i : Int) :: l.drop (i + 1) := by
  rw [List.drop_eq_getElem_cons h]
  unfold rd
  simp [List.getD_eq_getElem?_getD, h]
theorem rd_get (l : List Int) (i : Nat) (h : i < l.length) : rd l (i : Int) = l[i] := by
  unfold rd
  simp [List.getD_eq_getElem?_getD, h]
theorem succ_of {k : Nat} (h : 0 < k) : ∃ m, k = m + 1 := ⟨k - 1, by omega⟩
theorem drop_end {α : Type} (l : List α) (i : Nat) (h : l.length ≤ i) : l.drop i = [] := List.drop_of_length_le h
def allIn (l : List Int) (a b : Int) : Bool := l.all (fun x => inR x a b)
theorem impl_allWithin_l0 (lo hi : Int) (l : List Int) (hl : l.length ≤ 9223372036854775807) : ∀ (d i k : Nat), i + d = l.length → d < k →
    impl_allWithin.l0 k lo hi l (l.length : Int) (i : Int) = some (allIn (l.drop i) lo hi)
  | 0, i, k, h, hk => by
    obtain ⟨k, rfl⟩ := succ_of (k := k) (by omega)
    simp only [impl_allWithin.l0]
    rw [if_neg (by omega), drop_end l i (by omega)]
    rfl
  | d + 1, i, k, h, hk => by
    obtain ⟨k, rfl⟩ := succ_of (k := k) (by omega)
    simp only [impl_allWithin.l0]
    rw [if_pos (by omega), if_pos (by omega), if_pos (by omega), impl_within_eq, Option.bind_some, wrap_succ (n := l.length) (by omega) hl, impl_allWithin_l0 lo hi l hl d (i + 1) k (by omega) (by omega), drop_rd l i (by omega)]
    unfold allIn
    rw [List.all_cons]
    cases inR (rd l (i : Int)) lo hi <;> simp
theorem impl_allWithin_eq (k : Nat) (l : List Int) (a b : Int) (hl : l.length ≤ 9223372036854775807) (hk : l.length < k) : impl_allWithin.f k l a b = some (allIn l a b) := by
  unfold impl_allWithin.f
  have := impl_allWithin_l0 a b l hl l.length 0 k (by omega) hk
  simpa using this
theorem impl_Road_has_eq (k : Nat) (s : Int) (r : Bool) (l : List Int) (hl : l.length ≤ 9223372036854775807) (hk : l.length < k) : impl_Road_has.f k s r l = some (allIn l 0 (wrap64 (s - 1))) := by
  unfold impl_Road_has.f
  rw [impl_allWithin_eq k l _ _ hl hk, Option.bind_some]
theorem impl_Road_has1 (k : Nat) (s : Int) (r : Bool) (x : Int) (hs : road s r = true) (hk : 1 < k) : impl_Road_has.f k s r [x] = some (inR x 0 (s - 1)) := by
  rw [impl_Road_has_eq k s r [x] (by simp) (by simpa using hk)]
  have := road_bd hs
  rw [wrap64_id (by omega) (by omega)]
  simp [allIn]
theorem spec_l2Place_eq (s : Int) (r : Bool) (x : Int) : spec_l2Place.f s r x = some (road s r && inR x 0 (s - 1)) := by
  unfold spec_l2Place.f
  rw [spec_l2Road_eq, Option.bind_some]
  cases h : road s r with
  | false => simp
  | true =>
    have := road_bd h
    rw [wrap64_id (by omega) (by omega)]
    simp [spec_l1In_eq]
def lo2 (a b : Int) : Int := if a < b then a else b
theorem spec_l1Least_eq (a b : Int) : spec_l1Least.f a b = some (lo2 a b) := by unfold spec_l1Least.f lo2; split <;> rfl
def hi2 (a b : Int) : Int := if b < a then a else b
theorem spec_l1Most_eq (a b : Int) : spec_l1Most.f a b = some (hi2 a b) := by unfold spec_l1Most.f hi2; by_cases h : b < a <;> simp [h]
def movesOk (l : List Int) : Bool := inR (l.length : Int) 1 24 && allIn l (-1) 1
def walkerOk (s st f d : Int) (l : List Int) : Bool := inR st 0 (s - 1) && (decide (f = 1) || decide (f = -1)) && inR d 0 60 && movesOk l
theorem spec_l4Moves_l0 (l : List Int) (hl : l.length ≤ 9223372036854775807) : ∀ (d i k : Nat), i + d = min 25 l.length → 2 * d + 1 < k →
    spec_l4Moves.l0 k l (i : Int) = some (inR (l.length : Int) 1 24 && allIn (l.drop i) (-1) 1)
  | 0, i, k, h, hk => by
    obtain ⟨k, rfl⟩ := succ_of (k := k) (by omega)
    obtain ⟨k, rfl⟩ := succ_of (k := k) (by omega)
    have hf : (if (i : Int) < (l.length : Int) then spec_l4Moves.j1 (k + 1) l (i : Int) (decide ((i : Int) ≤ 24)) else spec_l4Moves.j1 (k + 1) l (i : Int) false) = spec_l4Moves.j1 (k + 1) l (i : Int) false := by
      by_cases c : (i : Int) < (l.length : Int)
      · rw [if_pos c, decide_eq_false (by omega)]
      · rw [if_neg c]
    simp only [spec_l4Moves.l0]
    rw [hf]
    simp only [spec_l4Moves.j1]
    rw [if_neg (by simp), spec_l1In_eq, Option.bind_some]
    by_cases c : l.length ≤ 25
    · rw [drop_end l i (by omega)]
      simp [allIn]
    · have : inR (l.length : Int) 1 24 = false := inR_not.2 (by omega)
      simp [this]
  | d + 1, i, k, h, hk => by
    obtain ⟨k, rfl⟩ := succ_of (k := k) (by omega)
    obtain ⟨k, rfl⟩ := succ_of (k := k) (by omega)
    simp only [spec_l4Moves.l0]
    rw [if_pos (by omega), decide_eq_true (by omega)]
    simp only [spec_l4Moves.j1]
    rw [if_pos trivial, if_pos (by omega), if_pos (by omega), spec_l1In_eq, Option.bind_some, drop_rd l i (by omega), wrap_succ (n := l.length) (by omega) hl, spec_l4Moves_l0 l hl d (i + 1) k (by omega) (by omega)]
    unfold allIn
    rw [List.all_cons]
    cases inR (rd l (i : Int)) (-1) 1 <;> simp
theorem spec_l4Moves_eq (k : Nat) (l : List Int) (hl : l.length ≤ 9223372036854775807) (hk : 60 < k) : spec_l4Moves.f k l = some (movesOk l) := by
  unfold spec_l4Moves.f
  have := spec_l4Moves_l0 l hl (min 25 l.length) 0 k (by omega) (by omega)
  unfold movesOk
  simpa using this
theorem spec_l4Walker_eq (k : Nat) (s : Int) (r : Bool) (st f d : Int) (l : List Int) (hl : l.length ≤ 9223372036854775807) (hk : 60 < k) :
    spec_l4Walker.f k s r st f d l = some (road s r && walkerOk s st f d l) := by
  unfold spec_l4Walker.f walkerOk
  rw [spec_l2Place_eq, Option.bind_some]
  simp only [spec_l1In_eq, Option.bind_some, spec_l4Moves_eq k l hl hk]
  cases road s r
  · simp
  · cases inR st 0 (s - 1)
    · simp
    · by_cases h1 : f = 1
      · cases inR d 0 60 <;> simp [h1]
      · by_cases h2 : f = -1
        · cases inR d 0 60 <;> simp [h2]
        · simp [h1, h2]
def tot : List (List Int) → Nat
  | [] => 0
  | x :: t => x.length + tot t
theorem allIn_rdZ {l : List Int} {a b : Int} (h : allIn l a b = true) {i : Int} (h0 : 0 ≤ i) (h1 : i < (l.length : Int)) : a ≤ rd l i ∧ rd l i ≤ b := by
  obtain ⟨n, rfl⟩ := Int.eq_ofNat_of_zero_le h0
  have hn : n < l.length := by omega
  have e := rd_get l n hn
  unfold allIn at h
  have := List.all_eq_true.1 h _ (List.getElem_mem hn)
  rw [inR_iff] at this
  rw [e]
  exact this
def stepW (s : Int) (r : Bool) (p x : Int) : Int := if r = true then Int.tmod (p + x + s) s else if inR (p + x) 0 (s - 1) = true then p + x else p
theorem stepW_bd {s : Int} {r : Bool} {p x : Int} (hs : 2 ≤ s) (hp : 0 ≤ p ∧ p ≤ s - 1) (hx : -1 ≤ x ∧ x ≤ 1) : 0 ≤ stepW s r p x ∧ stepW s r p x ≤ s - 1 := by
  unfold stepW
  by_cases c : r = true
  · rw [if_pos c]
    have h1 := Int.tmod_nonneg s (show 0 ≤ p + x + s by omega)
    have h2 := Int.tmod_lt_of_pos (p + x + s) (show 0 < s by omega)
    omega
  · rw [if_neg c]
    by_cases d : inR (p + x) 0 (s - 1) = true
    · rw [if_pos d]
      exact inR_iff.1 d
    · rw [if_neg d]
      exact hp
theorem stepW_zero {s : Int} {r : Bool} {p : Int} (hs : 2 ≤ s) (hp : 0 ≤ p ∧ p ≤ s - 1) : stepW s r p 0 = p := by
  unfold stepW
  by_cases c : r = true
  · rw [if_pos c, Int.add_zero, Int.tmod_eq_emod_of_nonneg (by omega), Int.add_emod_right, Int.emod_eq_of_lt (by omega) (by omega)]
  · rw [if_neg c, Int.add_zero, if_pos (inR_iff.2 hp)]
/-- A walker's move at a time. -/
def mvW (f d : Int) (l : List Int) (t : Nat) : Int := if d ≤ (t : Int) then f * rd l (Int.tmod ((t : Int) - d) (l.length : Int)) else 0
/-- A walker's place at a time. -/
def atW (s : Int) (r : Bool) (st f d : Int) (l : List Int) : Nat → Int
  | 0 => st
  | t + 1 => stepW s r (atW s r st f d l t) (mvW f d l t)
def walkM (s : Int) (r : Bool) (st f d : Int) (l : List Int) (n : Nat) : List Int := (List.range (n + 1)).map (atW s r st f d l)
theorem walkM_len (s : Int) (r : Bool) (st f d : Int) (l : List Int) (n : Nat) : (walkM s r st f d l n).length = n + 1 := by simp [walkM]
theorem walkM_snoc (s : Int) (r : Bool) (st f d : Int) (l : List Int) (n : Nat) : walkM s r st f d l (n + 1) = walkM s r st f d l n ++ [atW s r st f d l (n + 1)] := by
  unfold walkM
  rw [List.range_succ (n := n + 1)]
  simp
theorem walkM_zero (s : Int) (r : Bool) (st f d : Int) (l : List Int) : walkM s r st f d l 0 = [st] := by simp [walkM, atW]
theorem walkM_rd (s : Int) (r : Bool) (st f d : Int) (l : List Int) (n i : Nat) (h : i ≤ n) : rd (walkM s r st f d l n) (i : Int) = atW s r st f d l i := by
  rw [rd_get _ _ (by rw [walkM_len]; omega)]
  simp [walkM]
/-- The facts of a walker that is valid. -/
theorem walkerOk_bd {s st f d : Int} {l : List Int} (h : walkerOk s st f d l = true) : (0 ≤ st ∧ st ≤ s - 1) ∧ (f = 1 ∨ f = -1) ∧ (0 ≤ d ∧ d ≤ 60) ∧ (1 ≤ (l.length : Int) ∧ (l.length : Int) ≤ 24) ∧ allIn l (-1) 1 = true := by
  unfold walkerOk movesOk at h
  simp only [Bool.and_eq_true, Bool.or_eq_true, decide_eq_true_eq, inR_iff] at h
  exact ⟨h.1.1.1, h.1.1.2, h.1.2, h.2.1, h.2.2⟩
theorem mvW_ix {d : Int} {l : List Int} {t : Nat} (hl : 1 ≤ (l.length : Int)) (c : d ≤ (t : Int)) : 0 ≤ Int.tmod ((t : Int) - d) (l.length : Int) ∧ Int.tmod ((t : Int) - d) (l.length : Int) < (l.length : Int) :=
  ⟨Int.tmod_nonneg _ (by omega), Int.tmod_lt_of_pos _ (by omega)⟩
theorem mvW_bd {f d : Int} {l : List Int} {t : Nat} (hf : f = 1 ∨ f = -1) (hl : 1 ≤ (l.length : Int)) (ha : allIn l (-1) 1 = true) : -1 ≤ mvW f d l t ∧ mvW f d l t ≤ 1 := by
  unfold mvW
  by_cases c : d ≤ (t : Int)
  · rw [if_pos c]
    have hi := mvW_ix hl c
    have := allIn_rdZ ha hi.1 hi.2
    rcases hf with rfl | rfl <;> omega
  · rw [if_neg c]; omega
theorem atW_bd {s : Int} {r : Bool} {st f d : Int} {l : List Int} (hs : 2 ≤ s) (h : walkerOk s st f d l = true) : ∀ t, 0 ≤ atW s r st f d l t ∧ atW s r st f d l t ≤ s - 1
  | 0 => (walkerOk_bd h).1
  | t + 1 => stepW_bd hs (atW_bd hs h t) (mvW_bd (walkerOk_bd h).2.1 (walkerOk_bd h).2.2.2.1.1 (walkerOk_bd h).2.2.2.2)
theorem spec_l2Step_eq (s : Int) (r : Bool) (p x : Int) (hs : 2 ≤ s ∧ s ≤ 24) (hp : 0 ≤ p ∧ p ≤ s - 1) (hx : -1 ≤ x ∧ x ≤ 1) : spec_l2Step.f s r p x = some (stepW s r p x) := by
  unfold spec_l2Step.f stepW
  by_cases c : r = true
  · rw [if_pos c, if_pos c, if_neg (by omega), wrap64_id (x := p + x) (by omega) (by omega), wrap64_id (by omega) (by omega)]
  · rw [if_neg c, if_neg c, wrap64_id (x := p + x) (by omega) (by omega), wrap64_id (by omega) (by omega), spec_l1Least_eq, Option.bind_some, spec_l1Most_eq, Option.bind_some]
    congr 1
    unfold inR lo2 hi2
    by_cases d : 0 ≤ p + x <;> by_cases e : p + x ≤ s - 1 <;> simp [d, e] <;> (repeat' split) <;> omega
theorem spec_l4Walk_l0 (s : Int) (r : Bool) (st f d : Int) (l : List Int) (n : Nat) (hs : 2 ≤ s ∧ s ≤ 24) (h : walkerOk s st f d l = true) (hn : n ≤ 1000) : ∀ (e t k : Nat), t + e = n → e < k →
    spec_l4Walk.l0 k (n : Int) (walkM s r st f d l t) (atW s r st f d l t) (t : Int) s r st f d l = some (walkM s r st f d l n)
  | 0, t, k, he, hk => by
    obtain ⟨k, rfl⟩ := succ_of (k := k) (by omega)
    simp only [spec_l4Walk.l0]
    rw [if_neg (by omega), show t = n by omega]
  | e + 1, t, k, he, hk => by
    obtain ⟨k, rfl⟩ := succ_of (k := k) (by omega)
    have hb := walkerOk_bd h
    have hp := atW_bd (r := r) hs.1 h t
    have hm := mvW_bd (t := t) (d := d) hb.2.1 hb.2.2.2.1.1 hb.2.2.2.2
    have ih := spec_l4Walk_l0 s r st f d l n hs h hn e (t + 1) k (by omega) (by omega)
    rw [walkM_snoc] at ih
    have hlen : (walkM s r st f d l t).length < 17592186044416 := by rw [walkM_len]; omega
    simp only [spec_l4Walk.l0]
    rw [if_pos (by omega), wrap_succ (n := n) (by omega) (by omega)]
    by_cases c : d ≤ (t : Int)
    · have hi := mvW_ix hb.2.2.2.1.1 c
      have em : mvW f d l t = f * rd l (Int.tmod ((t : Int) - d) (l.length : Int)) := by unfold mvW; rw [if_pos c]
      rw [if_pos (by omega), wrap64_id (x := (t : Int) - d) (by omega) (by omega), if_neg (by omega), if_pos hi.1, if_pos hi.2]
      by_cases z : rd l (Int.tmod ((t : Int) - d) (l.length : Int)) = 0
      · have ez : atW s r st f d l (t + 1) = atW s r st f d l t := by
          show stepW s r _ (mvW f d l t) = _
          rw [em, z, Int.mul_zero, stepW_zero hs.1 hp]
        rw [if_pos z, if_pos hlen]
        rw [ez] at ih
        exact ih
      · rw [if_neg z, Int.mul_comm, ← em, wrap64_id (x := mvW f d l t) (by omega) (by omega), spec_l2Step_eq s r _ _ hs hp hm, Option.bind_some, if_pos hlen]
        exact ih
    · have ez : atW s r st f d l (t + 1) = atW s r st f d l t := by
        show stepW s r _ (mvW f d l t) = _
        unfold mvW
        rw [if_neg c, stepW_zero hs.1 hp]
      rw [if_neg (by omega), if_pos hlen]
      rw [ez] at ih
      exact ih
theorem spec_l4Walk_eq (k : Nat) (s : Int) (r : Bool) (st f d : Int) (l : List Int) (n : Int) (hs : 2 ≤ s ∧ s ≤ 24) (h : walkerOk s st f d l = true) (hn : 0 ≤ n ∧ n ≤ 1000) (hk : n.toNat < k) :
    spec_l4Walk.f k s r st f d l n = some (walkM s r st f d l n.toNat) := by
  unfold spec_l4Walk.f
  have := spec_l4Walk_l0 s r st f d l n.toNat hs h (by omega) n.toNat 0 k (by omega) hk
  rw [Int.toNat_of_nonneg hn.1, walkM_zero] at this
  exact this
theorem impl_Road_walk_l0 (s : Int) (r : Bool) (st f d : Int) (l : List Int) (n : Nat) (hr : road s r = true) (h : walkerOk s st f d l = true) (hn : n ≤ 1000) : ∀ (e t k : Nat), t + e = n → e + 2 < k →
    impl_Road_walk.l0 k (walkM s r st f d l t) (atW s r st f d l t) (n : Int) (t : Int) s r st f d l = some (walkM s r st f d l n)
  | 0, t, k, he, hk => by
    obtain ⟨k, rfl⟩ := succ_of (k := k) (by omega)
    simp only [impl_Road_walk.l0]
    rw [if_neg (by omega), show t = n by omega]
  | e + 1, t, k, he, hk => by
    obtain ⟨k, rfl⟩ := succ_of (k := k) (by omega)
    have hs := road_bd hr
    have hb := walkerOk_bd h
    have hp := atW_bd (r := r) hs.1 h t
    have hm := mvW_bd (t := t) (d := d) hb.2.1 hb.2.2.2.1.1 hb.2.2.2.2
    have ih := impl_Road_walk_l0 s r st f d l n hr h hn e (t + 1) k (by omega) (by omega)
    rw [walkM_snoc] at ih
    have hlen : (walkM s r st f d l t).length < 17592186044416 := by rw [walkM_len]; omega
    have hq := atW_bd (r := r) hs.1 h (t + 1)
    simp only [impl_Road_walk.l0]
    rw [if_pos (by omega), wrap_succ (n := n) (by omega) (by omega)]
    by_cases c : d ≤ (t : Int)
    · have hi := mvW_ix hb.2.2.2.1.1 c
      have em : mvW f d l t = f * rd l (Int.tmod ((t : Int) - d) (l.length : Int)) := by unfold mvW; rw [if_pos c]
      rw [if_pos (by omega), wrap64_id (x := (t : Int) - d) (by omega) (by omega), if_neg (by omega), if_pos hi.1, if_pos hi.2]
      simp only [← em, wrap64_id (x := mvW f d l t) (by omega) (by omega), wrap64_id (x := atW s r st f d l t + mvW f d l t) (by omega) (by omega)]
      by_cases z : r = true
      · have ez : atW s r st f d l (t + 1) = Int.tmod (atW s r st f d l t + mvW f d l t + s) s := by
          show stepW s r _ (mvW f d l t) = _
          unfold stepW
          rw [if_pos z]
        rw [if_pos z, if_neg (by omega), wrap64_id (by omega) (by omega), ← ez, impl_Road_has1 k s r _ hr (by omega), inR_iff.2 hq, Option.bind_some, if_pos rfl, if_pos hlen]
        exact ih
      · rw [if_neg z, impl_Road_has1 k s r _ hr (by omega), Option.bind_some]
        have ez : atW s r st f d l (t + 1) = if inR (atW s r st f d l t + mvW f d l t) 0 (s - 1) = true then atW s r st f d l t + mvW f d l t else atW s r st f d l t := by
          show stepW s r _ (mvW f d l t) = _
          unfold stepW
          rw [if_neg z]
        rw [ez] at ih
        by_cases y : inR (atW s r st f d l t + mvW f d l t) 0 (s - 1) = true
        · rw [if_pos y] at ih ⊢
          rw [if_pos hlen]
          exact ih
        · rw [if_neg y] at ih ⊢
          rw [if_pos hlen]
          exact ih
    · have ez : atW s r st f d l (t + 1) = atW s r st f d l t := by
        show stepW s r _ (mvW f d l t) = _
        unfold mvW
        rw [if_neg c, stepW_zero hs.1 hp]
      rw [if_neg (by omega), if_pos hlen]
      rw [ez] at ih
      exact ih
theorem impl_Road_walk_eq (k : Nat) (s : Int) (r : Bool) (st f d : Int) (l : List Int) (n : Int) (hr : road s r = true) (h : walkerOk s st f d l = true) (hn : 0 ≤ n ∧ n ≤ 1000) (hk : n.toNat + 2 < k) :
    impl_Road_walk.f k s r st f d l n = some (walkM s r st f d l n.toNat) := by
  unfold impl_Road_walk.f
  have := impl_Road_walk_l0 s r st f d l n.toNat hr h (by omega) n.toNat 0 k (by omega) hk
  rw [Int.toNat_of_nonneg hn.1, walkM_zero] at this
  exact this
/-- The first time, from t on and d times long, at which all walks are at one place, or -1. -/
def meetF (ws : List (List Int)) : Nat → Nat → Int
  | 0, _ => -1
  | d + 1, t => if (ws.all fun w => rd w (t : Int) == rd (ws.headD []) (t : Int)) = true then (t : Int) else meetF ws d (t + 1)
theorem meetF_succ (ws : List (List Int)) (d t : Nat) : meetF ws (d + 1) t = if (ws.all fun w => rd w (t : Int) == rd (ws.headD []) (t : Int)) = true then (t : Int) else meetF ws d (t + 1) := rfl
theorem meetF_bd (ws : List (List Int)) : ∀ d t, meetF ws d t = -1 ∨ ((t : Int) ≤ meetF ws d t ∧ meetF ws d t < (t : Int) + d)
  | 0, t => .inl rfl
  | d + 1, t => by
    unfold meetF
    split
    · right; omega
    · rcases meetF_bd ws d (t + 1) with h | h
      · exact .inl h
      · right; omega
theorem rdLL_get (ws : List (List Int)) (i : Nat) (h : i < ws.length) : rd_L2 ws (i : Int) = ws[i] := by
  unfold rd_L2
  simp [List.getD_eq_getElem?_getD, List.getElem?_eq_getElem h]
theorem drop_rdLL (ws : List (List Int)) (i : Nat) (h : i < ws.length) : ws.drop i = rd_L2 ws (i : Int) :: ws.drop (i + 1) := by
  rw [List.drop_eq_getElem_cons h, rdLL_get ws i h]
theorem rdLL_head (ws : List (List Int)) : rd_L2 ws 0 = ws.headD [] := by unfold rd_L2; cases ws <;> simp
theorem spec_l4Meet_l1 (ws : List (List Int)) (hn : ws.length ≤ 1000) (h0 : 0 < ws.length) (hw : ∀ w ∈ ws, w.length = 61) (t : Nat) (ht : t ≤ 60) : ∀ (d i k : Nat) (b : Bool), i + d = ws.length →
    spec_l4Meet.l1 (k + d + 1) ws (t : Int) b (i : Int) = if (b && (ws.drop i).all fun w => rd w (t : Int) == rd (ws.headD []) (t : Int)) = true then some (t : Int) else spec_l4Meet.l0 k ws ((t + 1 : Nat) : Int)
  | 0, i, k, b, hi => by
    simp only [spec_l4Meet.l1]
    rw [if_neg (by omega), drop_end ws i (by omega), wrap64_id (by omega) (by omega)]
    cases b <;> simp
  | d + 1, i, k, b, hi => by
    have ih := spec_l4Meet_l1 ws hn h0 hw t ht d (i + 1) k
    have hi' : i < ws.length := by omega
    have e1 : (rd_L2 ws (i : Int)).length = 61 := by rw [rdLL_get ws i hi']; exact hw _ (List.getElem_mem hi')
    have e2 : (rd_L2 ws 0).length = 61 := by
      have := rdLL_get ws 0 h0
      rw [show ((0 : Nat) : Int) = 0 from rfl] at this
      rw [this]; exact hw _ (List.getElem_mem h0)
    show spec_l4Meet.l1 ((k + d + 1) + 1) ws (t : Int) b (i : Int) = _
    generalize k + d + 1 = m at ih ⊢
    simp only [spec_l4Meet.l1]
    rw [if_pos (by omega), drop_rdLL ws i hi', List.all_cons, wrap_succ (n := ws.length) hi' (by omega)]
    cases b with
    | true =>
      rw [if_pos rfl, if_pos (by omega), if_pos (by omega), if_pos (by omega), if_pos (by omega), if_pos (by omega), ih _ (by omega), rdLL_head, Bool.true_and]
    | false =>
      rw [if_neg (by simp), ih _ (by omega)]
      simp
theorem spec_l4Meet_l0 (ws : List (List Int)) (hn : ws.length ≤ 1000) (h0 : 0 < ws.length) (hw : ∀ w ∈ ws, w.length = 61) : ∀ (d t k : Nat), t + d = 61 →
    spec_l4Meet.l0 (k + d * (ws.length + 1) + 1) ws (t : Int) = some (meetF ws d t)
  | 0, t, k, h => by
    simp only [spec_l4Meet.l0]
    rw [if_neg (by omega)]
    rfl
  | d + 1, t, k, h => by
    have ih := spec_l4Meet_l0 ws hn h0 hw d (t + 1) k (by omega)
    simp only [spec_l4Meet.l0]
    rw [if_pos (by omega)]
    have e : k + (d + 1) * (ws.length + 1) = (k + d * (ws.length + 1) + 1) + (ws.length - 1) + 1 := by rw [Nat.succ_mul]; omega
    rw [e]
    have := spec_l4Meet_l1 ws hn h0 hw t (by omega) (ws.length - 1) 1 (k + d * (ws.length + 1) + 1) true (by omega)
    rw [show (1 : Int) = ((1 : Nat) : Int) from rfl, this, ih, Bool.true_and]
    rw [meetF_succ]
    have hh : (ws.all fun w => rd w (t : Int) == rd (ws.headD []) (t : Int)) = ((ws.drop 1).all fun w => rd w (t : Int) == rd (ws.headD []) (t : Int)) := by
      cases ws with
      | nil => simp at h0
      | cons x xs => simp
    rw [hh]
    split <;> rfl
theorem spec_l4Meet_eq (k : Nat) (ws : List (List Int)) (hn : ws.length ≤ 1000) (h0 : 0 < ws.length) (hw : ∀ w ∈ ws, w.length = 61) (hk : 61 * (ws.length + 1) < k) : spec_l4Meet.f k ws = some (meetF ws 61 0) := by
  unfold spec_l4Meet.f
  have := spec_l4Meet_l0 ws hn h0 hw 61 0 (k - (61 * (ws.length + 1) + 1)) rfl
  rw [show k - (61 * (ws.length + 1) + 1) + 61 * (ws.length + 1) + 1 = k by omega] at this
  exact this
open Go.Proofs.Ytmamhnbhahafgaa.Own in
theorem anyO_eqT {α : Type} {q : α → Option Bool} {p : α → Bool} : ∀ {l : List α}, (∀ x ∈ l, q x = some (p x)) → anyO q l = some (l.any p)
  | [], _ => rfl
  | x :: t, h => by
    simp only [anyO]
    rw [h x (List.mem_cons_self ..), Option.bind_some, anyO_eqT (fun y hy => h y (List.mem_cons_of_mem _ hy)), List.any_cons]
    cases p x <;> simp
theorem togO_eq (ws : List (List Int)) (hw : ∀ w ∈ ws, w.length = 61) (row : List Int) (hrow : row = ws.headD []) (hlen : row.length = 61) : ∀ (d t : Nat), t + d = 61 → togO ws (row.drop t) t = some (meetF ws d t)
  | 0, t, h => by
    rw [drop_end row t (by omega)]
    rfl
  | d + 1, t, h => by
    rw [drop_rd row t (by omega)]
    simp only [togO]
    rw [anyO_eqT (p := fun w => rd w (t : Int) != rd row (t : Int)) (fun w hm => by unfold togQ; rw [if_pos (by rw [hw w hm]; omega)]), Option.bind_some, togO_eq ws hw row hrow hlen d (t + 1) (by omega)]
    rw [meetF_succ]
    rw [← hrow]
    have e : (ws.any fun w => rd w (t : Int) != rd row (t : Int)) = !(ws.all fun w => rd w (t : Int) == rd row (t : Int)) := by
      rw [List.all_eq_not_any_not]
      simp [bne]
    rw [e]
    cases (ws.all fun w => rd w (t : Int) == rd row (t : Int)) <;> simp
theorem impl_together_eq (k : Nat) (ws : List (List Int)) (h0 : 0 < ws.length) (hw : ∀ w ∈ ws, w.length = 61) : impl_together.f k ws = some (meetF ws 61 0) := by
  unfold impl_together.f
  rw [if_pos (by omega)]
  have e0 : rd_L2 ws 0 = ws.headD [] := by unfold rd_L2; cases ws <;> simp
  have e1 : (ws.headD []).length = 61 := by
    cases ws with
    | nil => simp at h0
    | cons x xs => exact hw x (List.mem_cons_self ..)
  rw [e0]
  have := togO_eq ws hw _ rfl e1 61 0 rfl
  simpa using this
theorem impl_found_eq (t : Int) : impl_found.f t = some (if t < 0 then (0, false) else (t, true)) := by
  unfold impl_found.f mx
  by_cases c : t < 0
  · rw [if_pos c, if_neg (by omega), decide_eq_false (by omega)]
  · rw [if_neg c, decide_eq_true (by omega)]
    by_cases d : 0 < t
    · rw [if_pos d]
    · rw [if_neg d, show t = 0 by omega]
theorem spec_l4Both_eq (k : Nat) (s : Int) (r : Bool) (st f d : Int) (l : List Int) (st' f' d' : Int) (l' : List Int) (hl : l.length ≤ 9223372036854775807) (hl' : l'.length ≤ 9223372036854775807) (hk : 60 < k) :
    spec_l4Both.f k s r st f d l st' f' d' l' = some (road s r && (walkerOk s st f d l && walkerOk s st' f' d' l')) := by
  unfold spec_l4Both.f
  rw [spec_l4Walker_eq k _ _ _ _ _ _ hl hk, Option.bind_some, spec_l4Walker_eq k _ _ _ _ _ _ hl' hk]
  cases road s r <;> cases walkerOk s st f d l <;> cases walkerOk s st' f' d' l' <;> simp
/-- The place of the first x in a list whose places begin with i, or -1. -/
def firstM (x : Int) : List Int → Nat → Int
  | [], _ => -1
  | y :: t, i => if y = x then (i : Int) else firstM x t (i + 1)
theorem slices_Index_l0 (x : Int) (l : List Int) (hl : l.length ≤ 9223372036854775807) : ∀ (d i k : Nat), i + d = l.length → d < k → slices_Index_int_int.l0 k l x (l.length : Int) (i : Int) = some (firstM x (l.drop i) i)
  | 0, i, k, h, hk => by
    obtain ⟨k, rfl⟩ := succ_of (k := k) (by omega)
    simp only [slices_Index_int_int.l0]
    rw [if_neg (by omega), drop_end l i (by omega)]
    rfl
  | d + 1, i, k, h, hk => by
    obtain ⟨k, rfl⟩ := succ_of (k := k) (by omega)
    simp only [slices_Index_int_int.l0]
    rw [if_pos (by omega), if_pos (by omega), if_pos (by omega), wrap_succ (n := l.length) (by omega) hl, slices_Index_l0 x l hl d (i + 1) k (by omega) (by omega), drop_rd l i (by omega)]
    simp only [firstM]
    by_cases c : x = rd l (i : Int)
    · rw [if_pos c, if_pos c.symm]
    · rw [if_neg c, if_neg (fun h => c h.symm)]
theorem slices_Index_eq (k : Nat) (x : Int) (l : List Int) (hl : l.length ≤ 9223372036854775807) (hk : l.length < k) : slices_Index_int_int.f k l x = some (firstM x l 0) := by
  unfold slices_Index_int_int.f
  exact slices_Index_l0 x l hl l.length 0 k (by omega) hk
theorem mx_bd (a b : Int) : a ≤ mx a b ∧ b ≤ mx a b ∧ (mx a b = a ∨ mx a b = b) := by unfold mx; split <;> omega
/-- The greatest of some numbers, or -1 if one is less than 0. -/
def pauseM (T : List Int) : Int := if (T.any fun x => decide (x < 0)) = true then -1 else T.foldl mx 0
theorem foldl_mx_le (T : List Int) : ∀ m : Int, m ≤ T.foldl mx m := by
  induction T with
  | nil => intro m; simp
  | cons x t ih => intro m; have := ih (mx m x); have := mx_bd m x; rw [List.foldl_cons]; omega
theorem slices_Max_pause (k : Nat) (T : List Int) (h0 : 0 < T.length) (h : (T.any fun x => decide (x < 0)) = false) : slices_Max_int_int.f k T = some (pauseM T) := by
  unfold slices_Max_int_int.f pauseM
  rw [if_pos (by omega), h, if_neg (by simp)]
  congr 1
  cases T with
  | nil => simp at h0
  | cons x t =>
    simp only [List.any_cons, Bool.or_eq_false_iff, decide_eq_false_iff_not] at h
    have e2 : mx 0 x = x := by unfold mx; split <;> omega
    simp only [List.foldl_cons, e2, List.drop_succ_cons, List.drop_zero]
    rfl
theorem firstM_ge7 (x : Int) : ∀ (l : List Int) (i : Nat), 0 ≤ firstM x l i ↔ (l.any fun y => decide (y = x)) = true
  | [], i => by simp [firstM]
  | y :: t, i => by
    have ih := firstM_ge7 x t (i + 1)
    have e : firstM x (y :: t) i = if y = x then (i : Int) else firstM x t (i + 1) := rfl
    rw [e, List.any_cons]
    by_cases c : y = x
    · rw [if_pos c, decide_eq_true c]
      exact ⟨fun _ => rfl, fun _ => by omega⟩
    · rw [if_neg c, decide_eq_false c, Bool.false_or]
      exact ih
theorem slices_Contains_eq7 (k : Nat) (x : Int) (l : List Int) (hl : l.length ≤ 9223372036854775807) (hk : l.length < k) : slices_Contains_int_int.f k l x = some (l.any fun y => decide (y = x)) := by
  unfold slices_Contains_int_int.f
  rw [slices_Index_eq k x l hl hk, Option.bind_some]
  congr 1
  rw [Bool.eq_iff_iff, decide_eq_true_iff]
  exact firstM_ge7 x l 0
theorem slices_Grow_nil_eq (a : Int) (h : 0 ≤ a ∧ a ≤ 1099511627776) : slices_Grow_nil_int_int.f a = some [] := by
  unfold slices_Grow_nil_int_int.f
  rw [if_neg (by omega), wrap64_id (by omega) (by omega)]
  by_cases c : a > 0
  · rw [if_pos c, if_pos (by omega), if_pos (by simp; omega), Option.bind_some, if_pos (by omega)]
    simp
  · rw [if_neg c]
theorem rdLLc (ws : List (List Int)) (i : Nat) (h : i < ws.length) : rd_L2 ws (i : Int) = ws[i] := by
  unfold rd_L2
  simp [List.getD_eq_getElem?_getD, List.getElem?_eq_getElem h]
theorem tot_drop (ls : List (List Int)) (i : Nat) (h : i < ls.length) : tot (ls.drop i) = ls[i].length + tot (ls.drop (i + 1)) := by rw [List.drop_eq_getElem_cons h]; rfl
theorem slices_Concat_l1 (ls : List (List Int)) (hl : ls.length ≤ 1048576) : ∀ (d i k : Nat) (acc : List Int), i + d = ls.length → acc.length + tot (ls.drop i) ≤ 1099511627776 → d < k →
    slices_Concat_int_int.l1 k acc ls (ls.length : Int) (i : Int) = some (acc ++ (ls.drop i).flatten)
  | 0, i, k, acc, h, ha, hk => by
    obtain ⟨k, rfl⟩ := succ_of (k := k) (by omega)
    simp only [slices_Concat_int_int.l1]
    rw [if_neg (by omega), drop_end ls i (by omega)]
    simp
  | d + 1, i, k, acc, h, ha, hk => by
    obtain ⟨k, rfl⟩ := succ_of (k := k) (by omega)
    have ht := tot_drop ls i (by omega)
    simp only [slices_Concat_int_int.l1]
    rw [if_pos (by omega), if_pos (by omega), if_pos (by omega), rdLLc ls i (by omega), if_pos (by omega), wrap_succ (n := ls.length) (by omega) (by omega), slices_Concat_l1 ls hl d (i + 1) k _ (by omega) (by rw [List.length_append]; omega) (by omega), List.drop_eq_getElem_cons (show i < ls.length by omega), List.flatten_cons, List.append_assoc]
theorem slices_Concat_l0 (ls : List (List Int)) (hl : ls.length ≤ 1048576) (ht0 : tot ls ≤ 1099511627776) : ∀ (d i k : Nat) (a : Nat), i + d = ls.length → a + tot (ls.drop i) ≤ 1099511627776 → d + ls.length + 2 < k →
    slices_Concat_int_int.l0 k ls (a : Int) ls (ls.length : Int) (i : Int) = some ls.flatten
  | 0, i, k, a, h, ha, hk => by
    obtain ⟨k, rfl⟩ := succ_of (k := k) (by omega)
    have := slices_Concat_l1 ls hl ls.length 0 k [] (by omega) (by simpa using ht0) (by omega)
    simp only [slices_Concat_int_int.l0]
    rw [if_neg (by omega), slices_Grow_nil_eq _ (by omega), Option.bind_some]
    simpa using this
  | d + 1, i, k, a, h, ha, hk => by
    obtain ⟨k, rfl⟩ := succ_of (k := k) (by omega)
    have ht := tot_drop ls i (by omega)
    simp only [slices_Concat_int_int.l0]
    rw [if_pos (by omega), if_pos (by omega), if_pos (by omega), rdLLc ls i (by omega), wrap64_id (x := (a : Int) + (ls[i].length : Int)) (by omega) (by omega), if_neg (by omega), wrap_succ (n := ls.length) (by omega) (by omega), show (a : Int) + (ls[i].length : Int) = ((a + ls[i].length : Nat) : Int) by omega]
    exact slices_Concat_l0 ls hl ht0 d (i + 1) k _ (by omega) (by omega) (by omega)
theorem slices_Concat_eq (k : Nat) (ls : List (List Int)) (hl : ls.length ≤ 1048576) (ht : tot ls ≤ 1099511627776) (hk : 2 * ls.length + 2 < k) : slices_Concat_int_int.f k ls = some ls.flatten := by
  unfold slices_Concat_int_int.f
  exact slices_Concat_l0 ls hl ht ls.length 0 k 0 (by omega) (by simpa using ht) (by omega)
theorem walkerOk_at {s st f d : Int} {l : List Int} (h : walkerOk s st f d l = true) (p : Nat) (hp : (p : Int) < s) : walkerOk s (p : Int) f d l = true := by
  unfold walkerOk at h ⊢
  simp only [Bool.and_eq_true] at h ⊢
  exact ⟨⟨⟨inR_iff.2 ⟨by omega, by omega⟩, h.1.1.2⟩, h.1.2⟩, h.2⟩
theorem rangeMap_snoc {α : Type} (g : Nat → α) (n : Nat) : (List.range (n + 1)).map g = (List.range n).map g ++ [g n] := by rw [List.range_succ]; simp
/-- The walks from the first n places. -/
def rowsW (S : Nat) (r : Bool) (f d : Int) (l : List Int) (n : Nat) : List (List Int) := (List.range n).map fun (p : Nat) => walkM (S : Int) r (p : Int) f d l 60
theorem rowsW_len (S : Nat) (r : Bool) (f d : Int) (l : List Int) (n : Nat) : (rowsW S r f d l n).length = n := by simp [rowsW]
theorem rowsW_snoc (S : Nat) (r : Bool) (f d : Int) (l : List Int) (n : Nat) : rowsW S r f d l n ++ [walkM (S : Int) r (n : Int) f d l 60] = rowsW S r f d l (n + 1) := (rangeMap_snoc _ n).symm
/-- One row of the table: the times at which the walk w meets the walks ws. -/
def rowT (w : List Int) (ws : List (List Int)) (n : Nat) : List Int := (ws.take n).map fun v => meetF [w, v] 61 0
theorem rowT_snoc (w : List Int) (ws : List (List Int)) (n : Nat) (h : n < ws.length) : rowT w ws n ++ [meetF [w, ws[n]] 61 0] = rowT w ws (n + 1) := by
  unfold rowT
  rw [List.take_succ_eq_append_getElem h, List.map_append]
  rfl
theorem rowT_len (w : List Int) (ws : List (List Int)) (n : Nat) (h : n ≤ ws.length) : (rowT w ws n).length = n := by unfold rowT; simp; omega
def tabT (us ws : List (List Int)) (n : Nat) : List (List Int) := (us.take n).map fun w => rowT w ws ws.length
theorem tabT_snoc (us ws : List (List Int)) (n : Nat) (h : n < us.length) : tabT us ws n ++ [rowT us[n] ws ws.length] = tabT us ws (n + 1) := by
  unfold tabT
  rw [List.take_succ_eq_append_getElem h, List.map_append]
  rfl
theorem tabT_len (us ws : List (List Int)) (n : Nat) (h : n ≤ us.length) : (tabT us ws n).length = n := by unfold tabT; simp; omega
theorem tabT_rows (us ws : List (List Int)) (n : Nat) : ∀ x ∈ tabT us ws n, x.length = ws.length := by
  intro x hx
  obtain ⟨w, _, rfl⟩ := List.mem_map.1 hx
  exact rowT_len _ _ _ (Nat.le_refl _)
theorem tabT_vals (us ws : List (List Int)) (n : Nat) : ∀ x ∈ tabT us ws n, ∀ y ∈ x, y = -1 ∨ 0 ≤ y := by
  intro x hx y hy
  obtain ⟨w, _, rfl⟩ := List.mem_map.1 hx
  obtain ⟨v, _, rfl⟩ := List.mem_map.1 hy
  rcases meetF_bd [w, v] 61 0 with h | h
  · exact .inl h
  · exact .inr (by omega)
theorem rowsW_61 (S : Nat) (r : Bool) (f d : Int) (l : List Int) (n : Nat) : ∀ x ∈ rowsW S r f d l n, x.length = 61 := by
  intro x hx
  obtain ⟨p, _, rfl⟩ := List.mem_map.1 hx
  rw [walkM_len]
theorem rdLLt (ws : List (List Int)) (i : Nat) (h : i < ws.length) : rd_L2 ws (i : Int) = ws[i] := by
  unfold rd_L2
  simp [List.getD_eq_getElem?_getD, List.getElem?_eq_getElem h]
theorem spec_l4Table_l2 (S : Nat) (hS : S ≤ 24) (r : Bool) (us ws T : List (List Int)) (hu : us.length = S) (hw : ws.length = S) (hu6 : ∀ x ∈ us, x.length = 61) (hw6 : ∀ x ∈ ws, x.length = 61) (hT : T.length ≤ 24) (i : Nat) (hi : i < us.length) : ∀ (e j k : Nat), j + e = S → 200 ≤ k →
    spec_l4Table.l2 (k + e + 1) us ws T (i : Int) (rowT us[i] ws j) (j : Int) (S : Int) r = spec_l4Table.l1 k us ws (T ++ [rowT us[i] ws ws.length]) ((i + 1 : Nat) : Int) (S : Int) r
  | 0, j, k, h, hk => by
    obtain rfl : j = ws.length := by omega
    simp only [Nat.add_zero, spec_l4Table.l2]
    rw [if_neg (by omega), if_pos (by omega), wrap_succ (n := us.length) hi (by omega)]
  | e + 1, j, k, h, hk => by
    have IH := spec_l4Table_l2 S hS r us ws T hu hw hu6 hw6 hT i hi e (j + 1) k (by omega) hk
    have hkm : k + 1 ≤ k + e + 1 := by omega
    rw [show k + (e + 1) + 1 = (k + e + 1) + 1 by omega]
    generalize k + e + 1 = m at IH hkm ⊢
    simp only [spec_l4Table.l2]
    have hr := rowT_len us[i] ws j (by omega)
    rw [if_pos (by omega), if_pos (by omega), if_pos (by omega), if_pos (by omega), if_pos (by omega), rdLLt us i hi, rdLLt ws j (by omega), spec_l4Meet_eq _ _ (by simp) (by simp) (by intro w hm; simp at hm; rcases hm with rfl | rfl; exact hu6 _ (List.getElem_mem _); exact hw6 _ (List.getElem_mem _)) (by simp; omega), Option.bind_some, if_pos (by omega), wrap_succ (n := ws.length) (by omega) (by omega), rowT_snoc]
    exact IH
theorem spec_l4Table_l1 (S : Nat) (hS : S ≤ 24) (r : Bool) (us ws : List (List Int)) (hu : us.length = S) (hw : ws.length = S) (hu6 : ∀ x ∈ us, x.length = 61) (hw6 : ∀ x ∈ ws, x.length = 61) : ∀ (e i k : Nat), i + e = S → e * (S + 2) + 201 ≤ k →
    spec_l4Table.l1 k us ws (tabT us ws i) (i : Int) (S : Int) r = some (tabT us ws S)
  | 0, i, k, h, hk => by
    obtain ⟨k, rfl⟩ := succ_of (k := k) (by omega)
    simp only [spec_l4Table.l1]
    rw [if_neg (by omega), show i = S by omega]
  | e + 1, i, k, h, hk => by
    have hm : (e + 1) * (S + 2) = e * (S + 2) + (S + 2) := Nat.succ_mul _ _
    generalize hq : e * (S + 2) = q at hm
    obtain ⟨k, rfl⟩ : ∃ z, k = (z + S + 1) + 1 := ⟨k - S - 2, by omega⟩
    simp only [spec_l4Table.l1]
    have hl := tabT_len us ws i (by omega)
    have := spec_l4Table_l2 S hS r us ws (tabT us ws i) hu hw hu6 hw6 (by omega) i (by omega) S 0 k (by omega) (by omega)
    rw [if_pos (by omega)]
    refine Eq.trans this ?_
    rw [tabT_snoc]
    exact spec_l4Table_l1 S hS r us ws hu hw hu6 hw6 e (i + 1) k (by omega) (by omega)
theorem spec_l4Table_l0 (S : Nat) (hS : 2 ≤ S ∧ S ≤ 24) (r : Bool) (st f d : Int) (l : List Int) (st' f' d' : Int) (l' : List Int) (h1 : walkerOk (S : Int) st f d l = true) (h2 : walkerOk (S : Int) st' f' d' l' = true) : ∀ (e i k : Nat), i + e = S → e + 900 < k →
    spec_l4Table.l0 k (rowsW S r f d l i) (rowsW S r f' d' l' i) [] (i : Int) (S : Int) r st f d l st' f' d' l' = some (tabT (rowsW S r f d l S) (rowsW S r f' d' l' S) S)
  | 0, i, k, h, hk => by
    obtain ⟨k, rfl⟩ := succ_of (k := k) (by omega)
    simp only [spec_l4Table.l0]
    rw [if_neg (by omega), show i = S by omega]
    have hq : S * (S + 2) ≤ 24 * 26 := Nat.mul_le_mul (by omega) (by omega)
    exact spec_l4Table_l1 S hS.2 r _ _ (rowsW_len ..) (rowsW_len ..) (rowsW_61 _ _ _ _ _ _) (rowsW_61 _ _ _ _ _ _) S 0 k (by omega) (by omega)
  | e + 1, i, k, h, hk => by
    obtain ⟨k, rfl⟩ := succ_of (k := k) (by omega)
    simp only [spec_l4Table.l0, spec_l4At.f, Option.bind_some]
    have g1 := rowsW_len S r f d l i
    have g2 := rowsW_len S r f' d' l' i
    rw [if_pos (by omega), spec_l4Walk_eq _ _ _ _ _ _ _ _ (by omega) (walkerOk_at h1 i (by omega)) (by omega) (by omega), Option.bind_some, if_pos (by omega), spec_l4Walk_eq _ _ _ _ _ _ _ _ (by omega) (walkerOk_at h2 i (by omega)) (by omega) (by omega), Option.bind_some, if_pos (by omega), wrap_succ (n := S) (by omega) (by omega), show (60 : Int).toNat = 60 from rfl, rowsW_snoc, rowsW_snoc]
    exact spec_l4Table_l0 S hS r st f d l st' f' d' l' h1 h2 e (i + 1) k (by omega) (by omega)
theorem spec_l4Table_eq (k : Nat) (S : Nat) (hS : 2 ≤ S ∧ S ≤ 24) (r : Bool) (st f d : Int) (l : List Int) (st' f' d' : Int) (l' : List Int) (h1 : walkerOk (S : Int) st f d l = true) (h2 : walkerOk (S : Int) st' f' d' l' = true) (hk : 1000 < k) :
    spec_l4Table.f k (S : Int) r st f d l st' f' d' l' = some (tabT (rowsW S r f d l S) (rowsW S r f' d' l' S) S) := by
  unfold spec_l4Table.f
  exact spec_l4Table_l0 S hS r st f d l st' f' d' l' h1 h2 S 0 k (by omega) (by omega)
theorem rdLLu (ws : List (List Int)) (i : Nat) (h : i < ws.length) : rd_L2 ws (i : Int) = ws[i] := by
  unfold rd_L2
  simp [List.getD_eq_getElem?_getD, List.getElem?_eq_getElem h]
theorem impl_Road_table_1_l0 (S : Nat) (r : Bool) (hr : road (S : Int) r = true) (f d : Int) (l : List Int) : ∀ (e i k : Nat) (st : Int), i + e = S → e + 100 < k → (∀ p : Nat, p < S → walkerOk (S : Int) (p : Int) f d l = true) →
    impl_Road_table_1.l0 k (rowsW S r f d l i) (S : Int) (i : Int) (S : Int) r st f d l = some (rowsW S r f d l S)
  | 0, i, k, st, h, hk, hw => by
    obtain ⟨k, rfl⟩ := succ_of (k := k) (by omega)
    simp only [impl_Road_table_1.l0]
    rw [if_neg (by omega), show i = S by omega]
  | e + 1, i, k, st, h, hk, hw => by
    obtain ⟨k, rfl⟩ := succ_of (k := k) (by omega)
    have hb := road_bd hr
    have g1 := rowsW_len S r f d l i
    simp only [impl_Road_table_1.l0]
    rw [if_pos (by omega), impl_Road_walk_eq _ _ _ _ _ _ _ _ hr (hw i (by omega)) (by omega) (by omega), Option.bind_some, if_pos (by omega), wrap_succ (n := S) (by omega) (by omega), show (60 : Int).toNat = 60 from rfl, rowsW_snoc]
    exact impl_Road_table_1_l0 S r hr f d l e (i + 1) k _ (by omega) (by omega) hw
theorem impl_Road_table_l1 (S : Nat) (hS : S ≤ 24) (us ws T : List (List Int)) (hu : us.length = S) (hw : ws.length = S) (hu6 : ∀ x ∈ us, x.length = 61) (hw6 : ∀ x ∈ ws, x.length = 61) (hT : T.length ≤ 24) (i : Nat) (hi : i < us.length) : ∀ (e j k : Nat), j + e = S →
    impl_Road_table.l1 (k + e + 1) T ws us[i] (rowT us[i] ws j) us (us.length : Int) (i : Int) ws (ws.length : Int) (j : Int) = impl_Road_table.l0 k (T ++ [rowT us[i] ws ws.length]) ws us (us.length : Int) ((i + 1 : Nat) : Int)
  | 0, j, k, h => by
    obtain rfl : j = ws.length := by omega
    simp only [Nat.add_zero, impl_Road_table.l1]
    rw [if_neg (by omega), if_pos (by omega), wrap_succ (n := us.length) hi (by omega)]
  | e + 1, j, k, h => by
    have IH := impl_Road_table_l1 S hS us ws T hu hw hu6 hw6 hT i hi e (j + 1) k (by omega)
    have hkm : k + 1 ≤ k + e + 1 := by omega
    rw [show k + (e + 1) + 1 = (k + e + 1) + 1 by omega]
    generalize k + e + 1 = m at IH hkm ⊢
    simp only [impl_Road_table.l1]
    have hr := rowT_len us[i] ws j (by omega)
    rw [if_pos (by omega), if_pos (by omega), if_pos (by omega), rdLLu ws j (by omega), impl_together_eq _ _ (by simp) (by intro w hm; simp at hm; rcases hm with rfl | rfl; exact hu6 _ (List.getElem_mem _); exact hw6 _ (List.getElem_mem _)), Option.bind_some, if_pos (by omega), wrap_succ (n := ws.length) (by omega) (by omega), rowT_snoc]
    exact IH
theorem impl_Road_table_l0 (S : Nat) (hS : S ≤ 24) (us ws : List (List Int)) (hu : us.length = S) (hw : ws.length = S) (hu6 : ∀ x ∈ us, x.length = 61) (hw6 : ∀ x ∈ ws, x.length = 61) : ∀ (e i k : Nat), i + e = S → e * (S + 2) + 1 ≤ k →
    impl_Road_table.l0 k (tabT us ws i) ws us (us.length : Int) (i : Int) = some (tabT us ws S)
  | 0, i, k, h, hk => by
    obtain ⟨k, rfl⟩ := succ_of (k := k) (by omega)
    simp only [impl_Road_table.l0]
    rw [if_neg (by omega), show i = S by omega]
  | e + 1, i, k, h, hk => by
    have hm : (e + 1) * (S + 2) = e * (S + 2) + (S + 2) := Nat.succ_mul _ _
    generalize hq : e * (S + 2) = q at hm
    obtain ⟨k, rfl⟩ : ∃ z, k = (z + S + 1) + 1 := ⟨k - S - 2, by omega⟩
    simp only [impl_Road_table.l0]
    have hl := tabT_len us ws i (by omega)
    have := impl_Road_table_l1 S hS us ws (tabT us ws i) hu hw hu6 hw6 (by omega) i (by omega) S 0 k (by omega)
    rw [if_pos (by omega), if_pos (by omega), if_pos (by omega), rdLLu us i (by omega)]
    refine Eq.trans this ?_
    rw [tabT_snoc]
    exact impl_Road_table_l0 S hS us ws hu hw hu6 hw6 e (i + 1) k (by omega) (by omega)
theorem impl_Road_table_eq (k : Nat) (S : Nat) (r : Bool) (hr : road (S : Int) r = true) (st f d : Int) (l : List Int) (st' f' d' : Int) (l' : List Int) (h1 : walkerOk (S : Int) st f d l = true) (h2 : walkerOk (S : Int) st' f' d' l' = true) (hk : 1000 < k) :
    impl_Road_table.f k (S : Int) r st f d l st' f' d' l' = some (tabT (rowsW S r f d l S) (rowsW S r f' d' l' S) S) := by
  have hb := road_bd hr
  unfold impl_Road_table.f impl_Road_table_1.f
  have e1 := impl_Road_table_1_l0 S r hr f d l S 0 k st (by omega) (by omega) (fun p hp => walkerOk_at h1 p (by omega))
  have e2 := impl_Road_table_1_l0 S r hr f' d' l' S 0 k st' (by omega) (by omega) (fun p hp => walkerOk_at h2 p (by omega))
  have hq : S * (S + 2) ≤ 24 * 26 := Nat.mul_le_mul (by omega) (by omega)
  have e3 := impl_Road_table_l0 S (by omega) (rowsW S r f d l S) (rowsW S r f' d' l' S) (rowsW_len ..) (rowsW_len ..) (rowsW_61 _ _ _ _ _ _) (rowsW_61 _ _ _ _ _ _) S 0 k (by omega) (by omega)
  rw [show rowsW S r f' d' l' 0 = [] from rfl] at e2
  rw [show rowsW S r f d l 0 = [] from rfl] at e1
  erw [e2]
  rw [Option.bind_some]
  erw [e1]
  exact e3
theorem rdLLv (ws : List (List Int)) (i : Nat) (h : i < ws.length) : rd_L2 ws (i : Int) = ws[i] := by
  unfold rd_L2
  simp [List.getD_eq_getElem?_getD, List.getElem?_eq_getElem h]
theorem spec_l4Worst_l1 (T : List (List Int)) (hT : T.length ≤ 1000) (i : Nat) (hi : i < T.length) (hx : T[i].length ≤ 1000) : ∀ (e j k : Nat) (a : Int), j + e = T[i].length →
    spec_l4Worst.l1 (k + e + 1) T a (i : Int) (j : Int) = if ((T[i].drop j).any fun x => decide (x < 0)) = true then some (-1) else spec_l4Worst.l0 k T ((T[i].drop j).foldl mx a) ((i + 1 : Nat) : Int)
  | 0, j, k, a, h => by
    simp only [Nat.add_zero, spec_l4Worst.l1]
    rw [if_pos (by omega), if_pos (by omega), rdLLv T i hi, if_neg (by omega), wrap_succ (n := T.length) hi (by omega), drop_end T[i] j (by omega)]
    simp
  | e + 1, j, k, a, h => by
    have IH := fun b => spec_l4Worst_l1 T hT i hi hx e (j + 1) k b (by omega)
    rw [show k + (e + 1) + 1 = (k + e + 1) + 1 by omega]
    generalize k + e + 1 = m at IH ⊢
    simp only [spec_l4Worst.l1]
    rw [if_pos (by omega), if_pos (by omega), rdLLv T i hi, if_pos (by omega), if_pos (by omega), drop_rd T[i] j (by omega), List.any_cons, List.foldl_cons]
    by_cases c : rd T[i] (j : Int) < 0
    · rw [if_pos c, decide_eq_true c]
      simp
    · rw [if_neg c, decide_eq_false c, spec_l1Most_eq, Option.bind_some, wrap_succ (n := T[i].length) (by omega) (by omega), Bool.false_or, show hi2 a (rd T[i] (j : Int)) = mx a (rd T[i] (j : Int)) by unfold hi2 mx; split <;> split <;> omega]
      exact IH _
theorem spec_l4Worst_l0 (T : List (List Int)) (hT : T.length ≤ 1000) (S : Nat) (hS : S ≤ 1000) (hx : ∀ x ∈ T, x.length = S) : ∀ (e i k : Nat) (a : Int), i + e = T.length → e * (S + 2) + 1 ≤ k →
    spec_l4Worst.l0 k T a (i : Int) = some (if ((T.drop i).flatten.any fun x => decide (x < 0)) = true then -1 else (T.drop i).flatten.foldl mx a)
  | 0, i, k, a, h, hk => by
    obtain ⟨k, rfl⟩ := succ_of (k := k) (by omega)
    simp only [spec_l4Worst.l0]
    rw [if_neg (by omega), drop_end T i (by omega)]
    simp
  | e + 1, i, k, a, h, hk => by
    have hm : (e + 1) * (S + 2) = e * (S + 2) + (S + 2) := Nat.succ_mul _ _
    generalize hq : e * (S + 2) = q at hm
    obtain ⟨k, rfl⟩ : ∃ z, k = (z + S + 1) + 1 := ⟨k - S - 2, by omega⟩
    simp only [spec_l4Worst.l0]
    have hi : i < T.length := by omega
    have hl := hx _ (List.getElem_mem hi)
    have := spec_l4Worst_l1 T hT i hi (by omega) S 0 k a (by omega)
    rw [if_pos (by omega)]
    refine Eq.trans this ?_
    rw [List.drop_zero, List.drop_eq_getElem_cons hi, List.flatten_cons, List.any_append, List.foldl_append]
    by_cases c : (T[i].any fun x => decide (x < 0)) = true
    · rw [if_pos c, c, Bool.true_or, if_pos rfl]
    · rw [if_neg c, spec_l4Worst_l0 T hT S hS hx e (i + 1) k _ (by omega) (by omega), Bool.eq_false_iff.2 c, Bool.false_or]
theorem spec_l4Worst_eq (k : Nat) (T : List (List Int)) (hT : T.length ≤ 24) (S : Nat) (hS : S ≤ 24) (hx : ∀ x ∈ T, x.length = S) (hk : 1000 < k) : spec_l4Worst.f k T = some (pauseM T.flatten) := by
  unfold spec_l4Worst.f
  have hq : T.length * (S + 2) ≤ 24 * 26 := Nat.mul_le_mul (by omega) (by omega)
  have := spec_l4Worst_l0 T (by omega) S (by omega) hx T.length 0 k 0 (by omega) (by omega)
  rw [List.drop_zero] at this
  exact this
theorem tot_const (S : Nat) : ∀ T : List (List Int), (∀ x ∈ T, x.length = S) → tot T = T.length * S
  | [], _ => by simp [tot]
  | x :: T, h => by
    show x.length + tot T = _
    rw [tot_const S T (fun y hy => h y (List.mem_cons_of_mem _ hy)), h x (List.mem_cons_self ..), List.length_cons, Nat.succ_mul, Nat.add_comm]
theorem flat_const (S : Nat) : ∀ T : List (List Int), (∀ x ∈ T, x.length = S) → T.flatten.length = T.length * S
  | [], _ => by simp
  | x :: T, h => by
    rw [List.flatten_cons, List.length_append, flat_const S T (fun y hy => h y (List.mem_cons_of_mem _ hy)), h x (List.mem_cons_self ..), List.length_cons, Nat.succ_mul, Nat.add_comm]
theorem impl_Road_worstMeet_eq (k : Nat) (S : Nat) (r : Bool) (hr : road (S : Int) r = true) (st f d : Int) (l : List Int) (st' f' d' : Int) (l' : List Int) (h1 : walkerOk (S : Int) st f d l = true) (h2 : walkerOk (S : Int) st' f' d' l' = true) (hk : 2000 < k) :
    impl_Road_worstMeet.f k (S : Int) r st f d l st' f' d' l' = some (pauseM (tabT (rowsW S r f d l S) (rowsW S r f' d' l' S) S).flatten) := by
  have hb := road_bd hr
  unfold impl_Road_worstMeet.f
  rw [impl_Road_table_eq k S r hr _ _ _ _ _ _ _ _ h1 h2 (by omega), Option.bind_some]
  have hn := tabT_len (rowsW S r f d l S) (rowsW S r f' d' l' S) S (by rw [rowsW_len]; omega)
  have hx := tabT_rows (rowsW S r f d l S) (rowsW S r f' d' l' S) S
  have hv := tabT_vals (rowsW S r f d l S) (rowsW S r f' d' l' S) S
  rw [rowsW_len] at hx
  generalize tabT (rowsW S r f d l S) (rowsW S r f' d' l' S) S = T at hn hx hv
  have ht := tot_const S T hx
  have hf := flat_const S T hx
  have hq : T.length * S ≤ 24 * 24 := Nat.mul_le_mul (by omega) (by omega)
  have hq1 : 1 * 1 ≤ T.length * S := Nat.mul_le_mul (by omega) (by omega)
  rw [slices_Concat_eq k T (by omega) (by omega) (by omega), Option.bind_some, slices_Contains_eq7 k _ _ (by omega) (by omega), Option.bind_some]
  have e : (T.flatten.any fun y => decide (y = -1)) = (T.flatten.any fun x => decide (x < 0)) := by
    rw [Bool.eq_iff_iff, List.any_eq_true, List.any_eq_true]
    constructor
    · rintro ⟨y, hy, h⟩
      exact ⟨y, hy, by simp at h ⊢; omega⟩
    · rintro ⟨y, hy, h⟩
      obtain ⟨x, hx', hy'⟩ := List.mem_flatten.1 hy
      have := hv x hx' y hy'
      exact ⟨y, hy, by simp at h ⊢; omega⟩
  rw [e]
  by_cases c : (T.flatten.any fun x => decide (x < 0)) = true
  · rw [if_pos c]
    unfold pauseM
    rw [if_pos c]
  · rw [if_neg c, slices_Max_pause k _ (by omega) (Bool.eq_false_iff.2 c), Option.bind_some]
theorem spec_WorstMeet_eq (k : Nat) (s : Int) (r : Bool) (st f d : Int) (l : List Int) (st' f' d' : Int) (l' : List Int) (hl : l.length ≤ 9223372036854775807) (hl' : l'.length ≤ 9223372036854775807) (hk : 2000 < k) :
    spec_WorstMeet.f k s r st f d l st' f' d' l' = some (if (road s r && (walkerOk s st f d l && walkerOk s st' f' d' l')) = true then (if pauseM (tabT (rowsW s.toNat r f d l s.toNat) (rowsW s.toNat r f' d' l' s.toNat) s.toNat).flatten < 0 then (0, false) else (pauseM (tabT (rowsW s.toNat r f d l s.toNat) (rowsW s.toNat r f' d' l' s.toNat) s.toNat).flatten, true)) else (0, false)) := by
  unfold spec_WorstMeet.f
  rw [spec_l4Both_eq k _ _ _ _ _ _ _ _ _ _ hl hl' (by omega), Option.bind_some]
  by_cases h : (road s r && (walkerOk s st f d l && walkerOk s st' f' d' l')) = true
  · rw [if_pos h, if_pos h]
    rw [Bool.and_eq_true, Bool.and_eq_true] at h
    have hb := road_bd h.1
    obtain ⟨S, rfl⟩ := Int.eq_ofNat_of_zero_le (show 0 ≤ s by omega)
    rw [spec_l4Table_eq k S (by omega) r _ _ _ _ _ _ _ _ h.2.1 h.2.2 (by omega), Option.bind_some, Int.toNat_natCast]
    have hn := tabT_len (rowsW S r f d l S) (rowsW S r f' d' l' S) S (by rw [rowsW_len]; omega)
    have hx := tabT_rows (rowsW S r f d l S) (rowsW S r f' d' l' S) S
    rw [rowsW_len] at hx
    rw [spec_l4Worst_eq k _ (by omega) S (by omega) hx (by omega), Option.bind_some]
    split <;> rfl
  · rw [if_neg h, if_neg h]
def labelOk (l : List Int) : Bool := inR (l.length : Int) 1 6 && allIn l 0 1
def toldM (S : Nat) (l : List Int) : List Int := l.flatMap fun x => List.replicate S x
theorem toldM_len (S : Nat) : ∀ l : List Int, (toldM S l).length = S * l.length
  | [] => by simp [toldM]
  | x :: l => by
    show (List.replicate S x ++ toldM S l).length = _
    rw [List.length_append, toldM_len S l, List.length_replicate, List.length_cons, Nat.mul_succ, Nat.add_comm]
theorem toldM_ok (S : Nat) (l : List Int) (hS : 2 ≤ S ∧ S ≤ 24) (hl : labelOk l = true) (h : S * l.length ≤ 24) : walkerOk (S : Int) 0 1 0 (toldM S l) = true := by
  unfold labelOk at hl
  rw [Bool.and_eq_true, inR_iff] at hl
  have h1 : 2 * 1 ≤ S * l.length := Nat.mul_le_mul (by omega) (by omega)
  have hn := toldM_len S l
  have ha : allIn (toldM S l) (-1) 1 = true := by
    have h2 := hl.2
    unfold allIn at h2 ⊢
    rw [List.all_eq_true] at h2 ⊢
    intro y hy
    obtain ⟨x, hx, hy⟩ := List.mem_flatMap.1 hy
    obtain rfl := (List.mem_replicate.1 hy).2
    have := inR_iff.1 (h2 y hx)
    exact inR_iff.2 ⟨by omega, by omega⟩
  unfold walkerOk movesOk
  rw [inR_iff.2 (show (0 : Int) ≤ 0 ∧ (0 : Int) ≤ (S : Int) - 1 by omega), inR_iff.2 (show (0 : Int) ≤ 0 ∧ (0 : Int) ≤ 60 by omega), ha, inR_iff.2 (show (1 : Int) ≤ ((toldM S l).length : Int) ∧ ((toldM S l).length : Int) ≤ 24 by omega)]
  simp
theorem spec_l4Bits_l0 (l : List Int) (hl : l.length ≤ 9223372036854775807) : ∀ (d i k : Nat), i + d = min 7 l.length → 2 * d + 1 < k →
    spec_l4Bits.l0 k l (i : Int) = some (inR (l.length : Int) 1 6 && allIn (l.drop i) 0 1)
  | 0, i, k, h, hk => by
    obtain ⟨k, rfl⟩ := succ_of (k := k) (by omega)
    obtain ⟨k, rfl⟩ := succ_of (k := k) (by omega)
    have hf : (if (i : Int) < (l.length : Int) then spec_l4Bits.j1 (k + 1) l (i : Int) (decide ((i : Int) ≤ 6)) else spec_l4Bits.j1 (k + 1) l (i : Int) false) = spec_l4Bits.j1 (k + 1) l (i : Int) false := by
      by_cases c : (i : Int) < (l.length : Int)
      · rw [if_pos c, decide_eq_false (by omega)]
      · rw [if_neg c]
    simp only [spec_l4Bits.l0]
    rw [hf]
    simp only [spec_l4Bits.j1]
    rw [if_neg (by simp), spec_l1In_eq, Option.bind_some]
    by_cases c : l.length ≤ 7
    · rw [drop_end l i (by omega)]
      simp [allIn]
    · have : inR (l.length : Int) 1 6 = false := inR_not.2 (by omega)
      simp [this]
  | d + 1, i, k, h, hk => by
    obtain ⟨k, rfl⟩ := succ_of (k := k) (by omega)
    obtain ⟨k, rfl⟩ := succ_of (k := k) (by omega)
    simp only [spec_l4Bits.l0]
    rw [if_pos (by omega), decide_eq_true (by omega)]
    simp only [spec_l4Bits.j1]
    rw [if_pos trivial, if_pos (by omega), if_pos (by omega), spec_l1In_eq, Option.bind_some, drop_rd l i (by omega), wrap_succ (n := l.length) (by omega) hl, spec_l4Bits_l0 l hl d (i + 1) k (by omega) (by omega)]
    unfold allIn
    rw [List.all_cons]
    cases inR (rd l (i : Int)) 0 1 <;> simp
theorem spec_l4Bits_eq (k : Nat) (l : List Int) (hl : l.length ≤ 9223372036854775807) (hk : 60 < k) : spec_l4Bits.f k l = some (labelOk l) := by
  unfold spec_l4Bits.f
  have := spec_l4Bits_l0 l hl (min 7 l.length) 0 k (by omega) (by omega)
  unfold labelOk
  simpa using this
theorem impl_isLabel_eq (k : Nat) (l : List Int) (hl : l.length ≤ 9223372036854775807) (hk : l.length < k) : impl_isLabel.f k l = some (labelOk l) := by
  unfold impl_isLabel.f labelOk
  rw [impl_within_eq, Option.bind_some, impl_allWithin_eq k l _ _ hl hk]
  cases inR (l.length : Int) 1 6 <;> simp
theorem spec_l4Told_l1 (S : Nat) (l : List Int) (hl : l.length ≤ 1000) (hS : S ≤ 1000) (i : Nat) (hi : i < l.length) : ∀ (e j k : Nat) (acc : List Int), j + e = S → acc.length + e ≤ 100000 →
    spec_l4Told.l1 (k + e + 1) l (S : Int) acc (i : Int) (j : Int) = spec_l4Told.l0 k l (S : Int) (acc ++ List.replicate e (rd l (i : Int))) ((i + 1 : Nat) : Int)
  | 0, j, k, acc, h, ha => by
    simp only [Nat.add_zero, spec_l4Told.l1]
    rw [if_neg (by omega), wrap_succ (n := l.length) hi (by omega)]
    simp
  | e + 1, j, k, acc, h, ha => by
    have IH := spec_l4Told_l1 S l hl hS i hi e (j + 1) k (acc ++ [rd l (i : Int)]) (by omega) (by simp; omega)
    rw [show k + (e + 1) + 1 = (k + e + 1) + 1 by omega]
    generalize k + e + 1 = m at IH ⊢
    simp only [spec_l4Told.l1]
    rw [if_pos (by omega), if_pos (by omega), if_pos (by omega), if_pos (by omega), wrap_succ (n := S) (by omega) (by omega), IH, List.append_assoc, List.replicate_succ]
    rfl
theorem spec_l4Told_l0 (S : Nat) (l : List Int) (hl : l.length ≤ 1000) (hS : S ≤ 1000) : ∀ (e i k : Nat) (acc : List Int), i + e = l.length → e * (S + 2) + 1 ≤ k → acc.length + e * S ≤ 90000 →
    spec_l4Told.l0 k l (S : Int) acc (i : Int) = some (acc ++ toldM S (l.drop i))
  | 0, i, k, acc, h, hk, ha => by
    obtain ⟨k, rfl⟩ := succ_of (k := k) (by omega)
    simp only [spec_l4Told.l0]
    rw [if_neg (by omega), drop_end l i (by omega)]
    simp [toldM]
  | e + 1, i, k, acc, h, hk, ha => by
    have hm : (e + 1) * (S + 2) = e * (S + 2) + (S + 2) := Nat.succ_mul _ _
    have hm2 : (e + 1) * S = e * S + S := Nat.succ_mul _ _
    generalize hq : e * (S + 2) = q at hm
    generalize hq2 : e * S = q2 at hm2
    obtain ⟨k, rfl⟩ : ∃ z, k = (z + S + 1) + 1 := ⟨k - S - 2, by omega⟩
    simp only [spec_l4Told.l0]
    rw [if_pos (by omega)]
    refine (spec_l4Told_l1 S l hl hS i (by omega) S 0 k acc (by omega) (by omega)).trans ?_
    rw [spec_l4Told_l0 S l hl hS e (i + 1) k _ (by omega) (by omega) (by rw [List.length_append, List.length_replicate]; omega), drop_rd l i (by omega), List.append_assoc]
    rfl
theorem spec_l4Told_eq (k : Nat) (S : Nat) (l : List Int) (hl : l.length ≤ 6) (hS : S ≤ 24) (hk : 200 < k) : spec_l4Told.f k l (S : Int) = some (toldM S l) := by
  unfold spec_l4Told.f
  have h1 : l.length * (S + 2) ≤ 6 * 26 := Nat.mul_le_mul (by omega) (by omega)
  have h2 : l.length * S ≤ 6 * 24 := Nat.mul_le_mul (by omega) (by omega)
  have := spec_l4Told_l0 S l (by omega) (by omega) l.length 0 k [] (by omega) (by omega) (by simp; omega)
  simpa using this
theorem impl_LabelMoves_l1 (S : Nat) (l : List Int) (hl : l.length ≤ 1000) (hS : S ≤ 1000) (i : Nat) (hi : i < l.length) (x : Int) : ∀ (e j k : Nat) (acc : List Int), j + e = S → acc.length + e ≤ 100000 →
    impl_LabelMoves.l1 (k + e + 1) (S : Int) acc x l (l.length : Int) (i : Int) (S : Int) (j : Int) = impl_LabelMoves.l0 k (S : Int) (acc ++ List.replicate e x) l (l.length : Int) ((i + 1 : Nat) : Int)
  | 0, j, k, acc, h, ha => by
    simp only [Nat.add_zero, impl_LabelMoves.l1]
    rw [if_neg (by omega), wrap_succ (n := l.length) hi (by omega)]
    simp
  | e + 1, j, k, acc, h, ha => by
    have IH := impl_LabelMoves_l1 S l hl hS i hi x e (j + 1) k (acc ++ [x]) (by omega) (by simp; omega)
    rw [show k + (e + 1) + 1 = (k + e + 1) + 1 by omega]
    generalize k + e + 1 = m at IH ⊢
    simp only [impl_LabelMoves.l1]
    rw [if_pos (by omega), if_pos (by omega), wrap_succ (n := S) (by omega) (by omega), IH, List.append_assoc, List.replicate_succ]
    rfl
theorem impl_LabelMoves_l0 (S : Nat) (l : List Int) (hl : l.length ≤ 1000) (hS : S ≤ 1000) : ∀ (e i k : Nat) (acc : List Int), i + e = l.length → e * (S + 2) + 1 ≤ k → acc.length + e * S ≤ 90000 →
    impl_LabelMoves.l0 k (S : Int) acc l (l.length : Int) (i : Int) = some (acc ++ toldM S (l.drop i), true)
  | 0, i, k, acc, h, hk, ha => by
    obtain ⟨k, rfl⟩ := succ_of (k := k) (by omega)
    simp only [impl_LabelMoves.l0]
    rw [if_neg (by omega), drop_end l i (by omega)]
    simp [toldM]
  | e + 1, i, k, acc, h, hk, ha => by
    have hm : (e + 1) * (S + 2) = e * (S + 2) + (S + 2) := Nat.succ_mul _ _
    have hm2 : (e + 1) * S = e * S + S := Nat.succ_mul _ _
    generalize hq : e * (S + 2) = q at hm
    generalize hq2 : e * S = q2 at hm2
    obtain ⟨k, rfl⟩ : ∃ z, k = (z + S + 1) + 1 := ⟨k - S - 2, by omega⟩
    simp only [impl_LabelMoves.l0]
    rw [if_pos (by omega), if_pos (by omega), if_pos (by omega)]
    refine (impl_LabelMoves_l1 S l hl hS i (by omega) (rd l (i : Int)) S 0 k acc (by omega) (by omega)).trans ?_
    rw [impl_LabelMoves_l0 S l hl hS e (i + 1) k _ (by omega) (by omega) (by rw [List.length_append, List.length_replicate]; omega), drop_rd l i (by omega), List.append_assoc]
    rfl
theorem impl_LabelMoves_eq (k : Nat) (S : Nat) (l : List Int) (hl : l.length ≤ 1048576) (hS : 1 ≤ S ∧ S ≤ 24) (hk : 1048600 < k) : impl_LabelMoves.f k l (S : Int) = some (if (labelOk l && decide (S * l.length ≤ 24)) = true then (toldM S l, true) else ([], false)) := by
  unfold impl_LabelMoves.f
  rw [impl_isLabel_eq k l (by omega) (by omega), Option.bind_some]
  obtain ⟨k, rfl⟩ := succ_of (k := k) (by omega)
  simp only [impl_LabelMoves.j0]
  cases hb : labelOk l with
  | false => simp
  | true =>
    have hb' := hb
    unfold labelOk at hb'
    rw [Bool.and_eq_true, inR_iff] at hb'
    have h1 : l.length * (S + 2) ≤ 6 * 26 := Nat.mul_le_mul (by omega) (by omega)
    have h2 : l.length * S ≤ 6 * 24 := Nat.mul_le_mul (by omega) (by omega)
    have h3 : S * l.length = l.length * S := Nat.mul_comm _ _
    have h4 : (S : Int) * (l.length : Int) = ((S * l.length : Nat) : Int) := (Int.natCast_mul _ _).symm
    rw [if_pos rfl, impl_within_eq, inR_iff.2 (show (1 : Int) ≤ (S : Int) ∧ (S : Int) ≤ 24 by omega), Option.bind_some, if_pos rfl, h4, wrap64_id (by omega) (by omega)]
    by_cases c : S * l.length ≤ 24
    · have := impl_LabelMoves_l0 S l (by omega) (by omega) l.length 0 k [] (by omega) (by omega) (by simp; omega)
      rw [if_neg (by simp; omega), if_pos (by simp; omega)]
      simpa using this
    · rw [if_pos (by simp; omega), if_neg (by simp; omega)]
theorem spec_LabelTime_eq (k : Nat) (s : Int) (r : Bool) (l1 l2 : List Int) (hl : l1.length ≤ 1048576) (hl' : l2.length ≤ 1048576) (hk : 1048600 < k) :
    spec_LabelTime.f k s r l1 l2 = some (if (road s r && (r && (labelOk l1 && (labelOk l2 && (decide (l1.length = l2.length) && decide (s.toNat * l1.length ≤ 24)))))) = true then (if pauseM (tabT (rowsW s.toNat r 1 0 (toldM s.toNat l1) s.toNat) (rowsW s.toNat r 1 0 (toldM s.toNat l2) s.toNat) s.toNat).flatten < 0 then (0, false) else (pauseM (tabT (rowsW s.toNat r 1 0 (toldM s.toNat l1) s.toNat) (rowsW s.toNat r 1 0 (toldM s.toNat l2) s.toNat) s.toNat).flatten, true)) else (0, false)) := by
  unfold spec_LabelTime.f
  obtain ⟨k, rfl⟩ := succ_of (k := k) (by omega)
  rw [spec_l2Road_eq, Option.bind_some, spec_l4Bits_eq _ l1 (by omega) (by omega), Option.bind_some, spec_l4Bits_eq _ l2 (by omega) (by omega), Option.bind_some]
  simp only [spec_LabelTime.j0]
  cases hr : road s r with
  | false => simp
  | true =>
    have hrd := road_bd hr
    cases hg : r with
    | false => simp
    | true =>
      cases h1 : labelOk l1 with
      | false => simp
      | true =>
        cases h2 : labelOk l2 with
        | false => simp
        | true =>
          by_cases c : l1.length = l2.length
          · obtain ⟨S, rfl⟩ := Int.eq_ofNat_of_zero_le (show 0 ≤ s by omega)
            have hb := h1
            have hb2 := h2
            unfold labelOk at hb hb2
            rw [Bool.and_eq_true, inR_iff] at hb hb2
            have q2 : S * l1.length ≤ 24 * 6 := Nat.mul_le_mul (by omega) (by omega)
            have h4 : (S : Int) * (l1.length : Int) = ((S * l1.length : Nat) : Int) := (Int.natCast_mul _ _).symm
            simp only [if_true, Bool.true_and, Int.toNat_natCast]
            rw [if_pos (by omega), decide_eq_true c, Bool.true_and, h4, wrap64_id (by omega) (by omega)]
            by_cases d : S * l1.length ≤ 24
            · have w1 := toldM_ok S l1 (by omega) h1 d
              have w2 := toldM_ok S l2 (by omega) h2 (by rw [← c]; exact d)
              have n1 := toldM_len S l1
              have n2 := toldM_len S l2
              rw [← c] at n2
              rw [if_neg (by simp; omega), if_pos (by simp; omega), spec_l4Told_eq _ S l1 (by omega) (by omega) (by omega), Option.bind_some, spec_l4Told_eq _ S l2 (by omega) (by omega) (by omega), Option.bind_some, spec_WorstMeet_eq _ _ _ _ _ _ _ _ _ _ _ (by omega) (by omega) (by omega), Option.bind_some, if_pos (by rw [← hg, hr, hg, w1, w2]; rfl), Int.toNat_natCast]
            · rw [if_pos (by simp; omega), if_neg (by simp; omega)]
          · have c' : ¬ (l1.length : Int) = (l2.length : Int) := by omega
            simp [c, c']
theorem impl_LabelTime_eq (k : Nat) (s : Int) (r : Bool) (l1 l2 : List Int) (hl : l1.length ≤ 1048576) (hl' : l2.length ≤ 1048576) (hk : 1048700 < k) :
    impl_LabelTime.f k s r l1 l2 = some (if (road s r && (r && (labelOk l1 && (labelOk l2 && (decide (l1.length = l2.length) && decide (s.toNat * l1.length ≤ 24)))))) = true then (if pauseM (tabT (rowsW s.toNat r 1 0 (toldM s.toNat l1) s.toNat) (rowsW s.toNat r 1 0 (toldM s.toNat l2) s.toNat) s.toNat).flatten < 0 then (0, false) else (pauseM (tabT (rowsW s.toNat r 1 0 (toldM s.toNat l1) s.toNat) (rowsW s.toNat r 1 0 (toldM s.toNat l2) s.toNat) s.toNat).flatten, true)) else (0, false)) := by
  unfold impl_LabelTime.f
  obtain ⟨k, rfl⟩ := succ_of (k := k) (by omega)
  obtain ⟨k, rfl⟩ := succ_of (k := k) (by omega)
  rw [impl_IsRoad_eq, Option.bind_some]
  simp only [impl_LabelTime.j0, impl_LabelTime.j1]
  cases hr : road s r with
  | false => simp
  | true =>
    have hrd := road_bd hr
    cases hg : r with
    | false => simp
    | true =>
      obtain ⟨S, rfl⟩ := Int.eq_ofNat_of_zero_le (show 0 ≤ s by omega)
      simp only [if_true, Bool.true_and, Int.toNat_natCast]
      by_cases c : l1.length = l2.length
      · rw [if_neg (by simp; omega), impl_LabelMoves_eq _ S l1 (by omega) (by omega) (by omega), Option.bind_some, impl_LabelMoves_eq _ S l2 (by omega) (by omega) (by omega), Option.bind_some, decide_eq_true c, Bool.true_and, ← c]
        cases h1 : labelOk l1 with
        | false => simp
        | true =>
          cases h2 : labelOk l2 with
          | false =>
            by_cases d : S * l1.length ≤ 24 <;> simp [d]
          | true =>
            by_cases d : S * l1.length ≤ 24
            · have w1 := toldM_ok S l1 (by omega) h1 d
              have w2 := toldM_ok S l2 (by omega) h2 (by rw [← c]; exact d)
              simp only [Bool.true_and, decide_eq_true d, if_true, Bool.not_true]
              rw [if_neg (by simp), impl_Road_worstMeet_eq _ S true (by rw [hg] at hr; exact hr) _ _ _ _ _ _ _ _ w1 w2 (by omega), Option.bind_some, impl_found_eq, Option.bind_some]
            · simp [d]
      · have c' : ¬ (l1.length : Int) = (l2.length : Int) := by omega
        simp [c, c']
def byteL (l : List Int) : Prop := ∀ x ∈ l, 0 ≤ x ∧ x ≤ 255
theorem rd_in {l : List Int} {i : Int} (h0 : 0 ≤ i) (h1 : i < (l.length : Int)) : rd l i ∈ l := by
  unfold rd
  rw [List.getD_eq_getElem?_getD, List.getElem?_eq_getElem (show i.toNat < l.length by omega)]
  exact List.getElem_mem _
theorem u64_bd (x : Int) : 0 ≤ IntKind.u64.wrap x ∧ IntKind.u64.wrap x < 18446744073709551616 := by
  simp [IntKind.wrap, IntKind.bits, IntKind.signed]
  omega
theorem and255 (x : Int) (h0 : 0 ≤ x) (h1 : x < 18446744073709551616) : 0 ≤ Go.bits .and .u64 x 255 ∧ Go.bits .and .u64 x 255 ≤ 255 := by
  obtain ⟨n, rfl⟩ := Int.eq_ofNat_of_zero_le h0
  have h := bits_and_u64_nat n 255 (by omega) (by decide)
  rw [show ((255 : Nat) : Int) = 255 from rfl] at h
  rw [h]
  have h2 := Nat.and_le_right (n := n) (m := 255)
  omega
theorem next_ok (l : List Int) (hl : byteL l) (a b : Int) (h0 : 0 ≤ a) (h1 : a + 1 ≤ 4000000000000000000) : ∃ x b', spec_l1Cur_next.f l a b = some (x, a + 1, b') ∧ 0 ≤ x ∧ x ≤ 255 := by
  unfold spec_l1Cur_next.f
  have e : wrap64 (a + 1) = a + 1 := wrap64_id (by omega) (by omega)
  rw [e]
  by_cases c : a < (l.length : Int)
  · rw [if_pos c, if_pos h0, if_pos (by omega)]
    have hx := hl _ (rd_in h0 c)
    rw [wrap64_id (x := rd l a) (by omega) (by omega)]
    exact ⟨_, _, rfl, hx.1, hx.2⟩
  · rw [if_neg c, if_neg (by omega)]
    have hb := u64_bd (IntKind.u64.wrap (IntKind.u64.wrap (b * 6364136223846793005)) + 462197)
    generalize IntKind.u64.wrap (IntKind.u64.wrap (IntKind.u64.wrap (b * 6364136223846793005)) + 462197) = U at hb ⊢
    have h := and255 (U / 1099511627776) (by omega) (by omega)
    refine ⟨_, _, rfl, ?_⟩
    rw [wrap64_id (by omega) (by omega)]
    exact h
theorem pick_ok (l : List Int) (hl : byteL l) (a b n : Int) (h0 : 0 ≤ a) (h1 : a + 1 ≤ 4000000000000000000) (hn : n ≤ 200) : ∃ x a' b', spec_l1Cur_pick.f l a b n = some (x, a', b') ∧ (0 ≤ x ∧ x ≤ 200 ∧ (x < n ∨ x = 0)) ∧ a ≤ a' ∧ a' ≤ a + 1 := by
  unfold spec_l1Cur_pick.f
  by_cases c : n ≤ 1
  · rw [if_pos c]
    exact ⟨0, a, b, rfl, by omega, by omega, by omega⟩
  · obtain ⟨x, b', e, hx⟩ := next_ok l hl a b h0 h1
    rw [if_neg c, e, Option.bind_some, if_neg (by omega), if_neg (by omega)]
    have h3 := Int.tmod_nonneg n hx.1
    have h4 := Int.tmod_lt_of_pos x (show 0 < n by omega)
    have h5 : 0 ≤ Int.tmod x n ∧ Int.tmod x n ≤ 200 ∧ (Int.tmod x n < n ∨ Int.tmod x n = 0) := by omega
    exact ⟨_, _, _, rfl, h5, by show a ≤ a + 1; omega, by show a + 1 ≤ a + 1; omega⟩
theorem one_ok (l : List Int) (hl : byteL l) (a b n : Int) (h0 : 0 ≤ a) (h1 : a + 1 ≤ 4000000000000000000) (hn : n ≤ 200) : ∃ (x : Bool) (a' b' : Int), spec_l1Cur_one.f l a b n = some (x, a', b') ∧ a ≤ a' ∧ a' ≤ a + 1 := by
  unfold spec_l1Cur_one.f
  obtain ⟨x, a', b', e, _, h3⟩ := pick_ok l hl a b n h0 h1 hn
  rw [e]
  exact ⟨_, _, _, rfl, h3⟩
theorem among_ok (l : List Int) (hl : byteL l) (a b : Int) (xs : List Int) (h0 : 0 ≤ a) (h1 : a + 1 ≤ 4000000000000000000) (hx : 0 < xs.length) (hx2 : xs.length ≤ 200) : ∃ x a' b', spec_l1Cur_among.f l a b xs = some (x, a', b') ∧ x ∈ xs ∧ a ≤ a' ∧ a' ≤ a + 1 := by
  unfold spec_l1Cur_among.f
  obtain ⟨x, a', b', e, h2, h3⟩ := pick_ok l hl a b (xs.length : Int) h0 h1 (by omega)
  rw [e, Option.bind_some, if_pos h2.1, if_pos (by show x < _; omega)]
  exact ⟨_, _, _, rfl, rd_in h2.1 (by omega), h3⟩
theorem laws_rInts_l0 (l : List Int) (hl : l.length ≤ 9223372036854775807) : ∀ (d i k : Nat), i + d = l.length → d < k → laws_rInts.l0 k l l (i : Int) = some true
  | 0, i, k, h, hk => by
    obtain ⟨k, rfl⟩ := succ_of (k := k) (by omega)
    simp only [laws_rInts.l0]
    rw [if_neg (by omega)]
  | d + 1, i, k, h, hk => by
    obtain ⟨k, rfl⟩ := succ_of (k := k) (by omega)
    simp only [laws_rInts.l0]
    rw [if_pos (by omega), if_pos (by omega), if_pos (by omega), if_pos trivial, wrap_succ (n := l.length) (by omega) hl]
    exact laws_rInts_l0 l hl d (i + 1) k (by omega) (by omega)
theorem laws_rInts_self (k : Nat) (l : List Int) (hl : l.length ≤ 9223372036854775807) (hk : l.length < k) : laws_rInts.f k l l = some true := by
  unfold laws_rInts.f
  rw [if_pos rfl]
  have := laws_rInts_l0 l hl l.length 0 k (by omega) hk
  simpa using this
theorem labeld_l0 (l : List Int) (hl : byteL l) : ∀ (d k : Nat) (acc : List Int) (n a b : Int), acc.length + d ≤ 300 → n ≤ d → d + 2 < k → 0 ≤ a → a + d + 10 ≤ 4000000000000000000 → 0 < n ∨ 0 < acc.length → 0 ≤ n →
    ∃ v a' b', spec_l1Cur_label.l0 k acc n l a b = some (v, a', b') ∧ v.length ≤ 300 ∧ a ≤ a' ∧ a' ≤ a + d + 10
  | 0, k, acc, n, a, b, hq, hn, hk, h0, h1, hp, hn0 => by
    obtain ⟨k, rfl⟩ := succ_of (k := k) (by omega)
    simp only [spec_l1Cur_label.l0]
    rw [if_neg (by omega)]
    obtain ⟨x, a1, b1, e1, h2⟩ := one_ok l hl a b 30 h0 (by omega) (by omega)
    rw [e1, Option.bind_some]
    cases x with
    | true =>
      obtain ⟨y, a2, b2, e2, _, h3⟩ := among_ok l hl a1 b1 [2, (-1)] (by omega) (by omega) (by simp) (by simp)
      obtain ⟨z, a3, b3, e3, h4⟩ := one_ok l hl a2 b2 40 (by omega) (by omega) (by omega)
      simp only [if_true, e2, Option.bind_some]
      rw [if_pos (by omega), e3, Option.bind_some]
      cases z with
      | true => exact ⟨_, _, _, rfl, by simp, by show a ≤ a3; omega, by show a3 ≤ _; omega⟩
      | false => exact ⟨_, _, _, rfl, by rw [List.length_set]; omega, by show a ≤ a3; omega, by show a3 ≤ _; omega⟩
    | false =>
      obtain ⟨z, a3, b3, e3, h4⟩ := one_ok l hl a1 b1 40 (by omega) (by omega) (by omega)
      simp only [Bool.false_eq_true, if_false, e3, Option.bind_some]
      cases z with
      | true => exact ⟨_, _, _, rfl, by simp, by show a ≤ a3; omega, by show a3 ≤ _; omega⟩
      | false => exact ⟨_, _, _, rfl, by omega, by show a ≤ a3; omega, by show a3 ≤ _; omega⟩
  | d + 1, k, acc, n, a, b, hq, hn, hk, h0, h1, hp, hn0 => by
    by_cases c : n > 0
    · obtain ⟨k, rfl⟩ := succ_of (k := k) (by omega)
      simp only [spec_l1Cur_label.l0]
      obtain ⟨x, a1, b1, e1, _, h2⟩ := pick_ok l hl a b 2 h0 (by omega) (by omega)
      rw [if_pos c, e1, Option.bind_some, if_pos (by omega), wrap64_id (by omega) (by omega)]
      obtain ⟨v, a2, b2, e2, h3, h4⟩ := labeld_l0 l hl d k (acc ++ [x]) (n - 1) a1 b1 (by simp; omega) (by omega) (by omega) (by omega) (by omega) (.inr (by simp)) (by omega)
      exact ⟨v, a2, b2, e2, h3, by omega, by omega⟩
    · obtain ⟨v, a2, b2, e2, h3, h4⟩ := labeld_l0 l hl d k acc n a b (by omega) (by omega) (by omega) h0 (by omega) hp hn0
      exact ⟨v, a2, b2, e2, h3, by omega, by omega⟩
theorem labeld_ok (k : Nat) (l : List Int) (hl : byteL l) (a b n : Int) (h0 : 0 ≤ a) (h1 : a ≤ 1000) (hn : n ≤ 200) (hk : 300 < k) : ∃ v a' b', spec_l1Cur_label.f k l a b n = some (v, a', b') ∧ v.length ≤ 300 ∧ 0 ≤ a' ∧ a' ≤ 2000 := by
  unfold spec_l1Cur_label.f
  obtain ⟨x, a1, b1, e1, hx, h2⟩ := pick_ok l hl a b n h0 (by omega) hn
  rw [e1, Option.bind_some, wrap64_id (by omega) (by omega)]
  obtain ⟨v, a2, b2, e2, h3, h4⟩ := labeld_l0 l hl 201 k [] (1 + x) a1 b1 (by simp) (by omega) (by omega) (by omega) (by omega) (.inl (by omega)) (by omega)
  exact ⟨v, a2, b2, e2, h3, by omega, by omega⟩
theorem DrawDoubleLabel_ok (k : Nat) (l : List Int) (hl : byteL l) (hk : 300 < k) : ∃ v, spec_DrawDoubleLabel.f k l = some v ∧ v.length ≤ 300 := by
  unfold spec_DrawDoubleLabel.f
  obtain ⟨x, a1, b1, e1, hx, h2⟩ := among_ok l hl 0 0 [2, 2, 3, 6] (by omega) (by omega) (by simp) (by simp)
  simp at hx
  obtain ⟨v, a2, b2, e2, h3, _⟩ := labeld_ok k l hl a1 b1 x (by omega) (by omega) (by omega) hk
  rw [e1, Option.bind_some, e2]
  exact ⟨_, rfl, h3⟩
theorem DrawLabelMoves_ok (k : Nat) (l : List Int) (hl : byteL l) (hk : 300 < k) : ∃ v n, spec_DrawLabelMoves.f k l = some (v, n) ∧ v.length ≤ 300 ∧ -1 ≤ n ∧ n ≤ 25 := by
  unfold spec_DrawLabelMoves.f
  obtain ⟨x, a1, b1, e1, hx, h2⟩ := among_ok l hl 0 0 [3, 4, 6, 7] (by omega) (by omega) (by simp) (by simp)
  simp at hx
  obtain ⟨v, a2, b2, e2, h3, h4⟩ := labeld_ok k l hl a1 b1 x (by omega) (by omega) (by omega) hk
  obtain ⟨n, a3, b3, e3, hn, _⟩ := among_ok l hl a2 b2 [4, 3, 6, 8, 1, 12, 24, 25, 0, (-1)] (by omega) (by omega) (by simp) (by simp)
  simp at hn
  rw [e1, Option.bind_some, e2, Option.bind_some, e3]
  exact ⟨_, _, rfl, h3, by show -1 ≤ n; omega, by show n ≤ 25; omega⟩
theorem DrawLabelTime_l0 (l : List Int) (hl : byteL l) (s : Int) (r : Bool) (one : List Int) (ho : one.length ≤ 300) : ∀ (d i k : Nat) (acc : List Int) (a b : Int), i + d = one.length → acc.length = i → d + 2 < k → 0 ≤ a → a ≤ 2000 + i →
    ∃ two, spec_DrawLabelTime.l0 k one acc (i : Int) l a b s r = some (s, r, one, two) ∧ two.length ≤ 301
  | 0, i, k, acc, a, b, h, hq, hk, h0, h1 => by
    obtain ⟨k, rfl⟩ := succ_of (k := k) (by omega)
    simp only [spec_DrawLabelTime.l0]
    obtain ⟨x, a1, b1, e1, h2⟩ := one_ok l hl a b 12 h0 (by omega) (by omega)
    rw [if_neg (by omega), e1, Option.bind_some]
    cases x with
    | true =>
      rw [if_pos rfl, if_pos (by omega)]
      exact ⟨_, rfl, by simp; omega⟩
    | false => exact ⟨_, rfl, by omega⟩
  | d + 1, i, k, acc, a, b, h, hq, hk, h0, h1 => by
    obtain ⟨k, rfl⟩ := succ_of (k := k) (by omega)
    simp only [spec_DrawLabelTime.l0]
    obtain ⟨x, a1, b1, e1, _, h2⟩ := pick_ok l hl a b 2 h0 (by omega) (by omega)
    rw [if_pos (by omega), e1, Option.bind_some, if_pos (by omega), wrap_succ (n := one.length) (by omega) (by omega)]
    exact DrawLabelTime_l0 l hl s r one ho d (i + 1) k _ a1 b1 (by omega) (by simp; omega) (by omega) (by omega) (by omega)
theorem DrawLabelTime_ok (k : Nat) (l : List Int) (hl : byteL l) (hk : 310 < k) : ∃ (s : Int) (r : Bool) (one two : List Int), spec_DrawLabelTime.f k l = some (s, r, one, two) ∧ one.length ≤ 300 ∧ two.length ≤ 301 := by
  unfold spec_DrawLabelTime.f
  obtain ⟨s, a1, b1, e1, hs, h2⟩ := among_ok l hl 0 0 [3, 4, 5, 6, 8, 12, 24, 2] (by omega) (by omega) (by simp) (by simp)
  obtain ⟨x, a2, b2, e2, h3⟩ := one_ok l hl a1 b1 12 (by omega) (by omega) (by omega)
  simp at hs
  have hd : 0 ≤ Int.tdiv 24 s ∧ Int.tdiv 24 s ≤ 24 := by rcases hs with rfl | rfl | rfl | rfl | rfl | rfl | rfl | rfl <;> decide
  rw [e1, Option.bind_some, e2, Option.bind_some]
  simp only
  rw [if_neg (by omega), wrap64_id (by omega) (by omega), spec_l1Least_eq, Option.bind_some, spec_l1Most_eq, Option.bind_some]
  have hb : hi2 (lo2 (Int.tdiv 24 s) 6) 1 ≤ 200 := by unfold hi2 lo2; (repeat' split) <;> omega
  obtain ⟨one, a3, b3, e3, h4, h5⟩ := labeld_ok k l hl a2 b2 _ (by omega) (by omega) hb (by omega)
  rw [e3, Option.bind_some]
  obtain ⟨two, e4, h6⟩ := DrawLabelTime_l0 l hl s (!x) one h4 one.length 0 k [] a3 b3 (by omega) rfl (by omega) (by omega) (by omega)
  exact ⟨s, _, one, two, e4, h4, h6⟩
theorem laws_rSum_l0 (l : List Int) (hl : l.length ≤ 1000) (hx : ∀ x ∈ l, -100 ≤ x ∧ x ≤ 100) : ∀ (d i k : Nat) (a : Int), i + d = l.length → d < k → -100 * i ≤ a ∧ a ≤ 100 * i → laws_rSum.l0 k l a (i : Int) = some (a + (l.drop i).sum)
  | 0, i, k, a, h, hk, ha => by
    obtain ⟨k, rfl⟩ := succ_of (k := k) (by omega)
    simp only [laws_rSum.l0]
    rw [if_neg (by omega), drop_end l i (by omega)]
    simp
  | d + 1, i, k, a, h, hk, ha => by
    obtain ⟨k, rfl⟩ := succ_of (k := k) (by omega)
    have hb := hx _ (rd_in (l := l) (i := (i : Int)) (by omega) (by omega))
    simp only [laws_rSum.l0]
    rw [if_pos (by omega), if_pos (by omega), wrap64_id (by omega) (by omega), wrap_succ (n := l.length) (by omega) (by omega), laws_rSum_l0 l hl hx d (i + 1) k _ (by omega) (by omega) (by omega), drop_rd l i (by omega), List.sum_cons, Int.add_assoc]
theorem laws_rSum_eq (k : Nat) (l : List Int) (hl : l.length ≤ 1000) (hx : ∀ x ∈ l, -100 ≤ x ∧ x ≤ 100) (hk : 1000 < k) : laws_rSum.f k l = some l.sum := by
  unfold laws_rSum.f
  have := laws_rSum_l0 l hl hx l.length 0 k 0 (by omega) (by omega) (by omega)
  simpa using this
def sumW (l : List Int) : Nat → Int
  | 0 => 0
  | t + 1 => sumW l t + mvW 1 0 l t
theorem atW_sum (S : Nat) (hS : 2 ≤ S) (l : List Int) (hb : ∀ t, -1 ≤ mvW 1 0 l t ∧ mvW 1 0 l t ≤ 1) (p : Nat) (hp : p < S) : ∀ t, atW (S : Int) true (p : Int) 1 0 l t = ((p : Int) + sumW l t) % (S : Int)
  | 0 => by
    show (p : Int) = _
    rw [show sumW l 0 = 0 from rfl, Int.add_zero, Int.emod_eq_of_lt (by omega) (by omega)]
  | t + 1 => by
    show stepW (S : Int) true (atW (S : Int) true (p : Int) 1 0 l t) (mvW 1 0 l t) = _
    have h1 := Int.emod_nonneg ((p : Int) + sumW l t) (show (S : Int) ≠ 0 by omega)
    have hm := hb t
    rw [atW_sum S hS l hb p hp t]
    unfold stepW
    rw [if_pos rfl, Int.tmod_eq_emod_of_nonneg (by omega), Int.add_emod_right, Int.emod_add_emod]
    show _ = ((p : Int) + (sumW l t + mvW 1 0 l t)) % (S : Int)
    rw [Int.add_assoc]
theorem told_rd (S : Nat) : ∀ (l : List Int) (i j : Nat), i < l.length → j < S → rd (toldM S l) ((i * S + j : Nat) : Int) = rd l (i : Int)
  | [], i, j, hi, hj => by simp at hi
  | x :: l, 0, j, hi, hj => by
    show rd (List.replicate S x ++ toldM S l) _ = _
    unfold rd
    simp only [Int.toNat_natCast, List.getD_eq_getElem?_getD, Nat.zero_mul, Nat.zero_add]
    rw [List.getElem?_append_left (by rw [List.length_replicate]; omega)]
    simp [List.getElem?_replicate, hj]
  | x :: l, i + 1, j, hi, hj => by
    have ih := told_rd S l i j (by simpa using hi) hj
    have he : (i + 1) * S + j = S + (i * S + j) := by rw [Nat.succ_mul]; omega
    show rd (List.replicate S x ++ toldM S l) _ = _
    unfold rd at ih ⊢
    simp only [Int.toNat_natCast, List.getD_eq_getElem?_getD] at ih ⊢
    rw [he, List.getElem?_append_right (by rw [List.length_replicate]; omega), List.length_replicate, Nat.add_sub_cancel_left, ih, List.getElem?_cons_succ]
theorem mv_told (S : Nat) (l : List Int) (i j : Nat) (hi : i < l.length) (hj : j < S) : mvW 1 0 (toldM S l) (i * S + j) = rd l (i : Int) := by
  have hn := toldM_len S l
  have h1 : (i + 1) * S ≤ l.length * S := Nat.mul_le_mul_right _ hi
  have h2 : (i + 1) * S = i * S + S := Nat.succ_mul i S
  have h3 : S * l.length = l.length * S := Nat.mul_comm _ _
  unfold mvW
  rw [if_pos (Int.natCast_nonneg _), Int.sub_zero, Int.tmod_eq_of_lt (Int.natCast_nonneg _) (Int.ofNat_lt.2 (by omega)), Int.one_mul, told_rd S l i j hi hj]
theorem sum_same (S : Nat) (hS : 0 < S) (l1 l2 : List Int) (n : Nat) (h1 : n ≤ l1.length) (h2 : n ≤ l2.length) (he : ∀ i : Nat, i < n → rd l1 (i : Int) = rd l2 (i : Int)) : ∀ t, t ≤ n * S → sumW (toldM S l1) t = sumW (toldM S l2) t
  | 0, _ => rfl
  | t + 1, h => by
    have hd := Nat.div_add_mod t S
    have hm := Nat.mod_lt t hS
    have hq : t / S < n := Nat.div_lt_of_lt_mul (by rw [Nat.mul_comm]; omega)
    have e1 := mv_told S l1 (t / S) (t % S) (by omega) hm
    have e2 := mv_told S l2 (t / S) (t % S) (by omega) hm
    rw [show t / S * S + t % S = t by rw [Nat.mul_comm]; exact hd] at e1 e2
    show sumW _ t + mvW 1 0 _ t = sumW _ t + mvW 1 0 _ t
    rw [sum_same S hS l1 l2 n h1 h2 he t (by omega), e1, e2, he _ hq]
theorem sum_diff (S : Nat) (l1 l2 : List Int) (i : Nat) (h1 : i < l1.length) (h2 : i < l2.length) : ∀ j : Nat, j ≤ S → sumW (toldM S l1) (i * S + j) - sumW (toldM S l2) (i * S + j) = sumW (toldM S l1) (i * S) - sumW (toldM S l2) (i * S) + (j : Int) * (rd l1 (i : Int) - rd l2 (i : Int))
  | 0, _ => by simp
  | j + 1, h => by
    have ih := sum_diff S l1 l2 i h1 h2 j (by omega)
    have e1 := mv_told S l1 i j h1 (by omega)
    have e2 := mv_told S l2 i j h2 (by omega)
    show (sumW _ (i * S + j) + mvW 1 0 _ (i * S + j)) - (sumW _ (i * S + j) + mvW 1 0 _ (i * S + j)) = _
    rw [e1, e2]
    have hq : ((j + 1 : Nat) : Int) * (rd l1 (i : Int) - rd l2 (i : Int)) = (j : Int) * (rd l1 (i : Int) - rd l2 (i : Int)) + (rd l1 (i : Int) - rd l2 (i : Int)) := by rw [Int.natCast_add, Int.add_mul]; simp
    rw [hq]
    generalize (j : Int) * (rd l1 (i : Int) - rd l2 (i : Int)) = q at ih ⊢
    omega
theorem meetF_at (ws : List (List Int)) : ∀ d t t0 : Nat, t ≤ t0 → t0 < t + d → (ws.all fun w => rd w (t0 : Int) == rd (ws.headD []) (t0 : Int)) = true → meetF ws d t ≤ (t0 : Int)
  | 0, t, t0, h1, h2, _ => by omega
  | d + 1, t, t0, h1, h2, hm => by
    rw [meetF_succ]
    by_cases c : (ws.all fun w => rd w (t : Int) == rd (ws.headD []) (t : Int)) = true
    · rw [if_pos c]; omega
    · have hne : t ≠ t0 := fun e => c (by rw [e]; exact hm)
      rw [if_neg c]
      exact meetF_at ws d (t + 1) t0 (by omega) (by omega) hm
theorem meetF_hit (ws : List (List Int)) : ∀ d t : Nat, 0 ≤ meetF ws d t → ∃ t0 : Nat, t0 < t + d ∧ meetF ws d t = (t0 : Int) ∧ (ws.all fun w => rd w (t0 : Int) == rd (ws.headD []) (t0 : Int)) = true
  | 0, t, h => by
    have : meetF ws 0 t = -1 := rfl
    omega
  | d + 1, t, h => by
    rw [meetF_succ] at h ⊢
    by_cases c : (ws.all fun w => rd w (t : Int) == rd (ws.headD []) (t : Int)) = true
    · rw [if_pos c]
      exact ⟨t, by omega, rfl, c⟩
    · rw [if_neg c] at h ⊢
      obtain ⟨t0, h1, h2, h3⟩ := meetF_hit ws d (t + 1) h
      exact ⟨t0, by omega, h2, h3⟩
def entM (S : Nat) (l1 l2 : List Int) (p q : Nat) : Int := meetF [walkM (S : Int) true (p : Int) 1 0 l1 60, walkM (S : Int) true (q : Int) 1 0 l2 60] 61 0
theorem ent_iff (S : Nat) (l1 l2 : List Int) (p q t : Nat) (ht : t ≤ 60) : ([walkM (S : Int) true (p : Int) 1 0 l1 60, walkM (S : Int) true (q : Int) 1 0 l2 60].all fun w => rd w (t : Int) == rd ([walkM (S : Int) true (p : Int) 1 0 l1 60, walkM (S : Int) true (q : Int) 1 0 l2 60].headD []) (t : Int)) = true ↔ atW (S : Int) true (q : Int) 1 0 l2 t = atW (S : Int) true (p : Int) 1 0 l1 t := by
  simp only [List.all_cons, List.all_nil, List.headD_cons, walkM_rd _ _ _ _ _ _ _ _ ht, beq_self_eq_true, Bool.true_and, Bool.and_true, beq_iff_eq]
def tabL (S : Nat) (l1 l2 : List Int) : List Int := (tabT (rowsW S true 1 0 l1 S) (rowsW S true 1 0 l2 S) S).flatten
theorem tab_mem (S : Nat) (l1 l2 : List Int) (x : Int) : x ∈ tabL S l1 l2 ↔ ∃ p q, p < S ∧ q < S ∧ x = entM S l1 l2 p q := by
  have e1 : (rowsW S true 1 0 l1 S).take S = rowsW S true 1 0 l1 S := List.take_of_length_le (by rw [rowsW_len]; omega)
  have e2 : (rowsW S true 1 0 l2 S).take S = rowsW S true 1 0 l2 S := List.take_of_length_le (by rw [rowsW_len]; omega)
  unfold tabL tabT rowT
  rw [rowsW_len, e1, e2]
  unfold rowsW
  constructor
  · intro h
    obtain ⟨row, h1, h2⟩ := List.mem_flatten.1 h
    obtain ⟨w, h3, rfl⟩ := List.mem_map.1 h1
    obtain ⟨p, hp, rfl⟩ := List.mem_map.1 h3
    obtain ⟨v, h4, rfl⟩ := List.mem_map.1 h2
    obtain ⟨q, hq, rfl⟩ := List.mem_map.1 h4
    exact ⟨p, q, List.mem_range.1 hp, List.mem_range.1 hq, rfl⟩
  · rintro ⟨p, q, hp, hq, rfl⟩
    exact List.mem_flatten.2 ⟨_, List.mem_map.2 ⟨_, List.mem_map.2 ⟨p, List.mem_range.2 hp, rfl⟩, rfl⟩, List.mem_map.2 ⟨_, List.mem_map.2 ⟨q, List.mem_range.2 hq, rfl⟩, rfl⟩⟩
theorem foldl_mx_mem (x : Int) : ∀ (T : List Int) (m : Int), x ∈ T → x ≤ T.foldl mx m
  | [], m, h => by simp at h
  | y :: T, m, h => by
    rw [List.foldl_cons]
    have hb := mx_bd m y
    rcases List.mem_cons.1 h with rfl | h
    · have := foldl_mx_le T (mx m x); omega
    · exact foldl_mx_mem x T _ h
theorem foldl_mx_bd (B : Int) : ∀ (T : List Int) (m : Int), m ≤ B → (∀ x ∈ T, x ≤ B) → T.foldl mx m ≤ B
  | [], m, h, _ => by simpa using h
  | y :: T, m, h, hx => by
    rw [List.foldl_cons]
    have hb := mx_bd m y
    have hy := hx y (List.mem_cons_self ..)
    exact foldl_mx_bd B T _ (by omega) (fun x hm => hx x (List.mem_cons_of_mem _ hm))
theorem pauseM_ge {T : List Int} (h : 0 ≤ pauseM T) (x : Int) (hx : x ∈ T) : 0 ≤ x ∧ x ≤ pauseM T := by
  unfold pauseM at h ⊢
  by_cases c : (T.any fun x => decide (x < 0)) = true
  · rw [if_pos c] at h; omega
  · rw [if_neg c]
    refine ⟨?_, foldl_mx_mem x T 0 hx⟩
    rcases Int.lt_or_le x 0 with hn | hn
    · exact absurd (List.any_eq_true.2 ⟨x, hx, by simpa using hn⟩) c
    · exact hn
theorem pauseM_le {T : List Int} {B : Int} (h0 : 0 ≤ B) (hB : ∀ x ∈ T, x ≤ B) : pauseM T ≤ B := by
  unfold pauseM
  split
  · omega
  · exact foldl_mx_bd B T 0 h0 hB
theorem first_diff (l1 l2 : List Int) : ∀ n : Nat, (∀ j : Nat, j < n → rd l1 (j : Int) = rd l2 (j : Int)) ∨ ∃ i : Nat, i < n ∧ (∀ j : Nat, j < i → rd l1 (j : Int) = rd l2 (j : Int)) ∧ rd l1 (i : Int) ≠ rd l2 (i : Int)
  | 0 => .inl (fun j h => absurd h (Nat.not_lt_zero _))
  | n + 1 => by
    rcases first_diff l1 l2 n with h | ⟨i, h1, h2, h3⟩
    · by_cases c : rd l1 (n : Int) = rd l2 (n : Int)
      · left
        intro j hj
        by_cases e : j = n
        · subst e; exact c
        · exact h j (by omega)
      · exact .inr ⟨n, by omega, h, c⟩
    · exact .inr ⟨i, by omega, h2, h3⟩
theorem shift_ne (S : Nat) (hS : 2 ≤ S) (x : Int) (h : (((1 : Nat) : Int) + x) % (S : Int) = (((0 : Nat) : Int) + x) % (S : Int)) : False := by
  have h1 := Int.emod_eq_emod_iff_emod_sub_eq_zero.1 h
  rw [show ((1 : Nat) : Int) + x - (((0 : Nat) : Int) + x) = 1 by omega, Int.emod_eq_of_lt (by omega) (by omega)] at h1
  omega
theorem label_time (S : Nat) (hS : 2 ≤ S ∧ S ≤ 24) (l1 l2 : List Int) (ok1 : labelOk l1 = true) (ok2 : labelOk l2 = true) (hlen : l1.length = l2.length) (hm : S * l1.length ≤ 24) (hp : 0 ≤ pauseM (tabL S (toldM S l1) (toldM S l2))) :
    ∃ i : Nat, i < l1.length ∧ (∀ j : Nat, j < i → rd l1 (j : Int) = rd l2 (j : Int)) ∧ rd l1 (i : Int) ≠ rd l2 (i : Int) ∧ ((i * S : Nat) : Int) ≤ pauseM (tabL S (toldM S l1) (toldM S l2)) ∧ pauseM (tabL S (toldM S l1) (toldM S l2)) < (((i + 1) * S : Nat) : Int) := by
  have w1 := toldM_ok S l1 hS ok1 hm
  have w2 := toldM_ok S l2 hS ok2 (by rw [← hlen]; exact hm)
  have mb : ∀ l : List Int, walkerOk (S : Int) 0 1 0 l = true → ∀ t, -1 ≤ mvW 1 0 l t ∧ mvW 1 0 l t ≤ 1 := fun l h t => mvW_bd (walkerOk_bd h).2.1 (walkerOk_bd h).2.2.2.1.1 (walkerOk_bd h).2.2.2.2
  have a1 := atW_sum S hS.1 _ (mb _ w1)
  have a2 := atW_sum S hS.1 _ (mb _ w2)
  have h01 := pauseM_ge hp _ ((tab_mem S _ _ _).2 ⟨0, 1, by omega, by omega, rfl⟩)
  obtain ⟨t0, ht0, e0, hit⟩ := meetF_hit _ 61 0 h01.1
  rw [ent_iff S _ _ 0 1 t0 (by omega), a1 0 (by omega), a2 1 (by omega)] at hit
  have hne : sumW (toldM S l1) t0 ≠ sumW (toldM S l2) t0 := fun e => by
    rw [e] at hit
    exact shift_ne S hS.1 _ hit
  rcases first_diff l1 l2 l1.length with h | ⟨i, hi, hpre, hd⟩
  · exfalso
    have : l1 = l2 := List.ext_getElem hlen (fun j h1 h2 => by
      have := h j h1
      rw [rd_get l1 j h1, rd_get l2 j h2] at this
      exact this)
    subst this
    exact hne rfl
  · have hi2 : i < l2.length := by omega
    refine ⟨i, hi, hpre, hd, ?_, ?_⟩
    · have hge : i * S ≤ t0 := Nat.le_of_not_lt fun hlt => hne (sum_same S (by omega) l1 l2 i (by omega) (by omega) hpre t0 (by omega))
      have e0' : entM S (toldM S l1) (toldM S l2) 0 1 = (t0 : Int) := e0
      have := h01.2
      rw [e0'] at this
      have hc : ((i * S : Nat) : Int) ≤ (t0 : Int) := Int.ofNat_le.2 hge
      exact Int.le_trans hc this
    · have hsm : (i + 1) * S = i * S + S := Nat.succ_mul i S
      have hle : (i + 1) * S ≤ l1.length * S := Nat.mul_le_mul_right _ hi
      rw [Nat.mul_comm l1.length S] at hle
      have hB : pauseM (tabL S (toldM S l1) (toldM S l2)) ≤ (((i + 1) * S - 1 : Nat) : Int) := pauseM_le (Int.natCast_nonneg _) (fun x hx => by
        obtain ⟨p, q, hp', hq', rfl⟩ := (tab_mem S _ _ _).1 hx
        have hb1 := allIn_rdZ (l := l1) (a := 0) (b := 1) (i := (i : Int)) (by unfold labelOk at ok1; rw [Bool.and_eq_true] at ok1; exact ok1.2) (by omega) (by omega)
        have hb2 := allIn_rdZ (l := l2) (a := 0) (b := 1) (i := (i : Int)) (by unfold labelOk at ok2; rw [Bool.and_eq_true] at ok2; exact ok2.2) (by omega) (by omega)
        have hs := sum_same S (by omega) l1 l2 i (by omega) (by omega) hpre (i * S) (Nat.le_refl _)
        have main : ∀ j : Nat, j < S → (((q : Int) + sumW (toldM S l2) (i * S + j)) % (S : Int) = ((p : Int) + sumW (toldM S l1) (i * S + j)) % (S : Int)) → entM S (toldM S l1) (toldM S l2) p q ≤ (((i + 1) * S - 1 : Nat) : Int) := fun j hj he => by
          have hh := (ent_iff S (toldM S l1) (toldM S l2) p q (i * S + j) (by omega)).2 (by rw [a1 p hp', a2 q hq']; exact he)
          have := meetF_at _ 61 0 (i * S + j) (by omega) (by omega) hh
          exact Int.le_trans this (Int.ofNat_le.2 (by omega))
        have hsd := sum_diff S l1 l2 i hi hi2
        rw [hs, Int.sub_self] at hsd
        generalize rd l1 (i : Int) = b1 at *
        generalize rd l2 (i : Int) = b2 at *
        rcases (show b1 - b2 = 1 ∨ b1 - b2 = -1 by omega) with d1 | d1 <;> rw [d1] at hsd
        · by_cases c : p ≤ q
          · refine main (q - p) (by omega) ?_
            have := hsd (q - p) (by omega)
            congr 1
            omega
          · refine main (q + S - p) (by omega) ?_
            have := hsd (q + S - p) (by omega)
            rw [show (p : Int) + sumW (toldM S l1) (i * S + (q + S - p)) = ((q : Int) + sumW (toldM S l2) (i * S + (q + S - p))) + (S : Int) by omega, Int.add_emod_right]
        · by_cases c : q ≤ p
          · refine main (p - q) (by omega) ?_
            have := hsd (p - q) (by omega)
            congr 1
            omega
          · refine main (p + S - q) (by omega) ?_
            have := hsd (p + S - q) (by omega)
            rw [show (q : Int) + sumW (toldM S l2) (i * S + (p + S - q)) = ((p : Int) + sumW (toldM S l1) (i * S + (p + S - q))) + (S : Int) by omega, Int.add_emod_right])
      omega
theorem law_l2 (S : Nat) (hS : S ≤ 24) (l1 l2 : List Int) (hl : l1.length ≤ 1000) (hlen : l1.length = l2.length) (t : Int) (r : Bool) (i : Nat) (hi : i < l1.length) (hb : (i + 1) * S ≤ 1000) (hpre : ∀ j : Nat, j < i → rd l1 (j : Int) = rd l2 (j : Int)) (hd : rd l1 (i : Int) ≠ rd l2 (i : Int)) (h1 : ((i * S : Nat) : Int) ≤ t) (h2 : t < (((i + 1) * S : Nat) : Int)) : ∀ (d j k : Nat), j + d = i → d < k → laws_FnLabels.l2 k l1 l2 t (j : Int) (S : Int) r = some true
  | 0, j, k, h, hk => by
    obtain ⟨k, rfl⟩ := succ_of (k := k) (by omega)
    obtain rfl : j = i := by omega
    have hsm : (j + 1) * S = j * S + S := Nat.succ_mul j S
    have e1 : (j : Int) * (S : Int) = ((j * S : Nat) : Int) := (Int.natCast_mul _ _).symm
    have e2 : ((j + 1 : Nat) : Int) * (S : Int) = (((j + 1) * S : Nat) : Int) := (Int.natCast_mul _ _).symm
    simp only [laws_FnLabels.l2]
    rw [if_pos (by omega), if_pos (by omega), if_pos (by omega), if_neg hd, e1, wrap64_id (x := ((j * S : Nat) : Int)) (by omega) (by omega), if_pos h1, wrap_succ (n := l1.length) hi (by omega), e2, wrap64_id (x := (((j + 1) * S : Nat) : Int)) (by omega) (by omega), decide_eq_true h2]
  | d + 1, j, k, h, hk => by
    obtain ⟨k, rfl⟩ := succ_of (k := k) (by omega)
    simp only [laws_FnLabels.l2]
    rw [if_pos (by omega), if_pos (by omega), if_pos (by omega), if_pos (hpre j (by omega)), wrap_succ (n := l1.length) (by omega) (by omega)]
    exact law_l2 S hS l1 l2 hl hlen t r i hi hb hpre hd h1 h2 d (j + 1) k (by omega) (by omega)
def sixM : List (List Int) := [[0], [1], [0, 0], [0, 1], [1, 0], [1, 1]]
def dblM (l : List Int) : List Int := (l.flatMap fun x => [x, x]) ++ [0, 1]
theorem six_of (l : List Int) (h : labelOk l = true) (h2 : l.length ≤ 2) : l ∈ sixM := by
  unfold labelOk at h
  rw [Bool.and_eq_true, inR_iff] at h
  have ha := h.2
  unfold allIn at ha
  match l, h, h2, ha with
  | [], h, _, _ => simp at h
  | [a], _, _, ha =>
    simp [inR_iff] at ha
    rcases (show a = 0 ∨ a = 1 by omega) with rfl | rfl <;> simp [sixM]
  | [a, b], _, _, ha =>
    simp [inR_iff] at ha
    rcases (show a = 0 ∨ a = 1 by omega) with rfl | rfl <;> rcases (show b = 0 ∨ b = 1 by omega) with rfl | rfl <;> simp [sixM]
  | a :: b :: c :: l, _, h2, _ => exact absurd h2 (by simp)
theorem dbl_six : ∀ l ∈ sixM, impl_DoubleLabel.f 60 l = some (dblM l, true) ∧ spec_DoubleLabel.f 60 l = some (dblM l, true) ∧ (dblM l).length ≤ 6 := by decide +kernel
theorem dbl_ix : ∀ o : Fin 6, rd_L2 sixM ((o.1 : Nat) : Int) ∈ sixM := by decide +kernel
theorem dbl_same : ∀ a ∈ sixM, ∀ b ∈ sixM, (dblM a).length ≤ (dblM b).length → ((List.range (dblM a).length).all fun i => rd (dblM a) (i : Int) == rd (dblM b) (i : Int)) = true → a = b := by decide +kernel
theorem dbl_six_k (l : List Int) (h : l ∈ sixM) (k : Nat) (hk : 60 ≤ k) : impl_DoubleLabel.f k l = some (dblM l, true) ∧ spec_DoubleLabel.f k l = some (dblM l, true) :=
  ⟨at_rounds (g := fun k => impl_DoubleLabel.f k l) (impl_DoubleLabel.mono _) hk (dbl_six l h).1, at_rounds (g := fun k => spec_DoubleLabel.f k l) (spec_DoubleLabel.mono _) hk (dbl_six l h).2.1⟩
theorem double_any (k : Nat) (l : List Int) (hl : l.length ≤ 1000) (hk : 2000 < k) : ∃ v b, impl_DoubleLabel.f k l = some (v, b) ∧ spec_DoubleLabel.f k l = some (v, b) ∧ v.length ≤ 6 ∧ (b = true → l ∈ sixM ∧ v = dblM l) := by
  by_cases c : labelOk l = true ∧ l.length ≤ 2
  · have hs := six_of l c.1 c.2
    have := dbl_six_k l hs k (by omega)
    exact ⟨_, _, this.1, this.2, (dbl_six l hs).2.2, fun _ => ⟨hs, rfl⟩⟩
  · have c' : labelOk l = true → ¬ l.length ≤ 2 := fun h h' => c ⟨h, h'⟩
    refine ⟨[], false, ?_, ?_, by simp, by simp⟩
    · unfold impl_DoubleLabel.f
      rw [impl_isLabel_eq k l (by omega) (by omega), Option.bind_some]
      obtain ⟨k, rfl⟩ := succ_of (k := k) (by omega)
      simp only [impl_DoubleLabel.j0]
      by_cases c1 : labelOk l = true
      · have c2 := c' c1
        rw [if_pos c1, wrap64_id (x := 2 * (l.length : Int)) (by omega) (by omega), wrap64_id (by omega) (by omega), decide_eq_true (by omega), if_pos rfl]
      · rw [if_neg c1, if_pos trivial]
    · unfold spec_DoubleLabel.f
      rw [Option.bind_some, spec_l4Bits_eq k l (by omega) (by omega), Option.bind_some]
      obtain ⟨k, rfl⟩ := succ_of (k := k) (by omega)
      simp only [spec_DoubleLabel.j0]
      by_cases c1 : labelOk l = true
      · have c2 := c' c1
        rw [if_pos c1, wrap64_id (x := 2 * (l.length : Int)) (by omega) (by omega), wrap64_id (by omega) (by omega), decide_eq_true (by omega), if_pos rfl]
      · rw [if_neg c1, if_pos trivial]
theorem moves_any (k : Nat) (l : List Int) (n : Int) (hl : l.length ≤ 1000) (hn : -1 ≤ n ∧ n ≤ 25) (hk : 1048700 < k) : ∃ v b, impl_LabelMoves.f k l n = some (v, b) ∧ spec_LabelMoves.f k l n = some (v, b) ∧ v.length ≤ 24 ∧ (b = true → ∃ N : Nat, n = (N : Int) ∧ N ≤ 24 ∧ labelOk l = true ∧ v = toldM N l) := by
  by_cases c : 1 ≤ n ∧ n ≤ 24
  · obtain ⟨N, rfl⟩ := Int.eq_ofNat_of_zero_le (show 0 ≤ n by omega)
    have hi := impl_LabelMoves_eq k N l (by omega) (by omega) (by omega)
    have hs : spec_LabelMoves.f k l (N : Int) = some (if (labelOk l && decide (N * l.length ≤ 24)) = true then (toldM N l, true) else ([], false)) := by
      unfold spec_LabelMoves.f
      rw [spec_l4Bits_eq k l (by omega) (by omega), Option.bind_some]
      by_cases c1 : labelOk l = true
      · have hb := c1
        unfold labelOk at hb
        rw [Bool.and_eq_true, inR_iff] at hb
        have h1 : N * l.length ≤ 24 * 6 := Nat.mul_le_mul (by omega) (by omega)
        rw [if_pos c1, spec_l1In_eq, Option.bind_some, inR_iff.2 (show (1 : Int) ≤ (N : Int) ∧ (N : Int) ≤ 24 by omega), if_pos rfl, ← Int.natCast_mul, wrap64_id (by omega) (by omega), c1, Bool.true_and]
        by_cases c2 : N * l.length ≤ 24
        · rw [if_neg (by omega), spec_l4Told_eq k N l (by omega) (by omega) (by omega), Option.bind_some, if_pos (by simpa using c2)]
        · rw [if_pos (by omega), if_neg (by simpa using c2)]
      · rw [if_neg c1, Bool.eq_false_iff.2 c1, Bool.false_and, if_neg (by simp)]
    rw [hi, hs]
    by_cases c1 : (labelOk l && decide (N * l.length ≤ 24)) = true
    · rw [if_pos c1]
      rw [Bool.and_eq_true, decide_eq_true_eq] at c1
      exact ⟨_, _, rfl, rfl, by rw [toldM_len]; exact c1.2, fun _ => ⟨N, rfl, by omega, c1.1, rfl⟩⟩
    · rw [if_neg c1]
      exact ⟨_, _, rfl, rfl, by simp, by simp⟩
  · refine ⟨[], false, ?_, ?_, by simp, by simp⟩
    · unfold impl_LabelMoves.f
      rw [impl_isLabel_eq k l (by omega) (by omega), Option.bind_some]
      obtain ⟨k, rfl⟩ := succ_of (k := k) (by omega)
      simp only [impl_LabelMoves.j0]
      rw [impl_within_eq, Option.bind_some, inR_not.2 (by omega)]
      simp
    · unfold spec_LabelMoves.f
      rw [spec_l4Bits_eq k l (by omega) (by omega), Option.bind_some, spec_l1In_eq, Option.bind_some, inR_not.2 (by omega)]
      simp
theorem sum_rep (x : Int) : ∀ n : Nat, (List.replicate n x).sum = (n : Int) * x
  | 0 => by simp
  | n + 1 => by rw [List.replicate_succ, List.sum_cons, sum_rep x n, Int.natCast_add, Int.add_mul]; omega
theorem sum_told (N : Nat) : ∀ l : List Int, (toldM N l).sum = (N : Int) * l.sum
  | [] => by simp [toldM]
  | x :: l => by
    show (List.replicate N x ++ toldM N l).sum = _
    rw [List.sum_append, sum_rep, sum_told N l, List.sum_cons, Int.mul_add]
theorem sum_bits : ∀ l : List Int, (∀ x ∈ l, 0 ≤ x ∧ x ≤ 1) → 0 ≤ l.sum ∧ l.sum ≤ (l.length : Int)
  | [], _ => by simp
  | x :: l, h => by
    have h1 := h x (List.mem_cons_self ..)
    have h2 := sum_bits l (fun y hy => h y (List.mem_cons_of_mem _ hy))
    rw [List.sum_cons, List.length_cons]
    omega
theorem label_bits {l : List Int} (h : labelOk l = true) : l.length ≤ 6 ∧ ∀ x ∈ l, 0 ≤ x ∧ x ≤ 1 := by
  unfold labelOk allIn at h
  rw [Bool.and_eq_true, inR_iff, List.all_eq_true] at h
  exact ⟨by omega, fun x hx => inR_iff.1 (h.2 x hx)⟩
theorem told_bits {l : List Int} (N : Nat) (h : ∀ x ∈ l, 0 ≤ x ∧ x ≤ 1) : ∀ x ∈ toldM N l, 0 ≤ x ∧ x ≤ 1 := by
  intro y hy
  obtain ⟨x, hx, hy⟩ := List.mem_flatMap.1 hy
  obtain rfl := (List.mem_replicate.1 hy).2
  exact h _ hx
theorem law_l1 (x4 x5 : List Int) (x6 : Int) (x7 : Bool) (bits a : List Int) (o : Nat) (ho : o < 6) (S : Int) (r : Bool) (hb : bits ∈ sixM) (ha : a ∈ sixM) (he : rd_L2 sixM (o : Int) = a) (M : Nat) (HN : ∀ k, M ≤ k → laws_FnLabels.l0 k x4 x5 x6 x7 bits (dblM bits) sixM ((o + 1 : Nat) : Int) S r = some true) : ∀ (e j k : Nat) (b : Bool), j + e = (dblM a).length → M + 100 + e ≤ k → (b = true → (dblM a).length ≤ (dblM bits).length ∧ ∀ i : Nat, i < j → rd (dblM a) (i : Int) = rd (dblM bits) (i : Int)) → laws_FnLabels.l1 k x4 x5 x6 x7 bits (dblM bits) sixM (o : Int) (dblM a) b (j : Int) S r = some true
  | 0, j, k, b, h, hk, hi => by
    obtain ⟨k, rfl⟩ := succ_of (k := k) (by omega)
    simp only [laws_FnLabels.l1]
    rw [if_neg (by omega), wrap_succ (n := 6) ho (by omega)]
    cases b with
    | false => rw [if_neg (by simp)]; exact HN k (by omega)
    | true =>
      have hi' := hi rfl
      have hab : a = bits := dbl_same a ha bits hb hi'.1 (List.all_eq_true.2 fun i hm => by
        rw [List.mem_range] at hm
        simpa using hi'.2 i (by omega))
      have hlen : a.length ≤ 6 := by
        have : ∀ l ∈ sixM, l.length ≤ 6 := by decide +kernel
        exact this a ha
      rw [if_pos rfl, if_pos (by omega), if_pos (show (o : Int) < ((sixM.length : Nat) : Int) by show (o : Int) < ((6 : Nat) : Int); omega), he, ← hab, laws_rInts_self k a (by omega) (by omega), Option.bind_some, if_pos rfl, hab]
      exact HN k (by omega)
  | e + 1, j, k, b, h, hk, hi => by
    obtain ⟨k, rfl⟩ := succ_of (k := k) (by omega)
    have hl6 := (dbl_six a ha).2.2
    simp only [laws_FnLabels.l1]
    rw [if_pos (by omega)]
    cases b with
    | false => rw [if_neg (by simp), wrap_succ (n := 6) ho (by omega)]; exact HN k (by omega)
    | true =>
      have hi' := hi rfl
      rw [if_pos rfl, if_pos (by omega), if_pos (by omega), wrap_succ (n := (dblM a).length) (by omega) (by omega)]
      refine law_l1 x4 x5 x6 x7 bits a o ho S r hb ha he M HN e (j + 1) k _ (by omega) (by omega) (fun hq => ⟨hi'.1, fun i hlt => ?_⟩)
      by_cases c : i = j
      · subst c; simpa using hq
      · exact hi'.2 i (by omega)
theorem law_l0 (x4 x5 : List Int) (x6 : Int) (x7 : Bool) (bits : List Int) (S : Int) (r : Bool) (hb : bits ∈ sixM) (HJ : ∀ k, 2000 < k → laws_FnLabels.j6 k x4 x5 x6 x7 S r = some true) : ∀ (d o k : Nat), o + d = 6 → 3000 + d * 200 ≤ k → laws_FnLabels.l0 k x4 x5 x6 x7 bits (dblM bits) sixM (o : Int) S r = some true
  | 0, o, k, h, hk => by
    obtain ⟨k, rfl⟩ := succ_of (k := k) (by omega)
    simp only [laws_FnLabels.l0]
    rw [if_neg (show ¬ (o : Int) < ((sixM.length : Nat) : Int) by show ¬ (o : Int) < ((6 : Nat) : Int); omega)]
    exact HJ k (by omega)
  | d + 1, o, k, h, hk => by
    obtain ⟨k, rfl⟩ := succ_of (k := k) (by omega)
    have ha := dbl_ix ⟨o, by omega⟩
    simp only at ha
    have hx := (dbl_six_k _ ha k (by omega)).1
    have hl6 := (dbl_six _ ha).2.2
    simp only [laws_FnLabels.l0]
    rw [if_pos (show (o : Int) < ((sixM.length : Nat) : Int) by show (o : Int) < ((6 : Nat) : Int); omega), if_pos (by omega), hx, Option.bind_some, if_pos rfl]
    exact law_l1 x4 x5 x6 x7 bits _ o (by omega) S r hb ha rfl (3000 + d * 200) (fun k hk => law_l0 x4 x5 x6 x7 bits S r hb HJ d (o + 1) k (by omega) hk) _ 0 k _ (Nat.zero_add _) (by omega) (fun hq => ⟨by simpa using hq, fun i hi => absurd hi (Nat.not_lt_zero _)⟩)
theorem FnLabels : laws_FnLabels.Pure := by
  intro l0 hm _ hwf
  have hl : byteL l0 := fun x hx => by
    have := hwf x hx
    simp [Lit.wf, IntKind.min, IntKind.max, IntKind.bits, IntKind.signed, IntKind.wrap] at this
    omega
  refine ⟨2000000, ?_⟩
  unfold laws_FnLabels.f laws_rBig.f
  rw [Option.bind_some]
  by_cases c0 : (l0.length : Int) > 65536
  · rw [decide_eq_true c0, if_pos rfl]
  rw [decide_eq_false c0, if_neg (by simp)]
  obtain ⟨s, r, one, two, e0, hn1, hn2⟩ := DrawLabelTime_ok 2000000 l0 hl (by omega)
  rw [e0, Option.bind_some]
  simp only
  have hj6 : ∃ tm ok, impl_LabelTime.f 2000000 s r one two = some (tm, ok) ∧ spec_LabelTime.f 2000000 s r one two = some (tm, ok) ∧ ∀ k, 2000 < k → laws_FnLabels.j6 k one two tm ok s r = some true := by
    rw [impl_LabelTime_eq 2000000 s r one two (by omega) (by omega) (by omega), spec_LabelTime_eq 2000000 s r one two (by omega) (by omega) (by omega)]
    by_cases c : (road s r && (r && (labelOk one && (labelOk two && (decide (one.length = two.length) && decide (s.toNat * one.length ≤ 24)))))) = true
    · rw [if_pos c]
      simp only [Bool.and_eq_true, decide_eq_true_eq] at c
      obtain ⟨c1, c2, c3, c4, c5, c6⟩ := c
      have hb := road_bd c1
      obtain ⟨S, rfl⟩ := Int.eq_ofNat_of_zero_le (show 0 ≤ s by omega)
      subst c2
      rw [Int.toNat_natCast] at c6 ⊢
      by_cases c7 : pauseM (tabT (rowsW S true 1 0 (toldM S one) S) (rowsW S true 1 0 (toldM S two) S) S).flatten < 0
      · rw [if_pos c7]
        refine ⟨_, _, rfl, rfl, fun k hk => ?_⟩
        obtain ⟨k, rfl⟩ := succ_of (k := k) (by omega)
        simp only [laws_FnLabels.j6]
        rw [if_neg (by simp)]
      · rw [if_neg c7]
        obtain ⟨i, hi, hpre, hd, h1, h2⟩ := label_time S (by omega) one two c3 c4 c5 c6 (by unfold tabL; omega)
        refine ⟨_, _, rfl, rfl, fun k hk => ?_⟩
        obtain ⟨k, rfl⟩ := succ_of (k := k) (by omega)
        have hle : (i + 1) * S ≤ one.length * S := Nat.mul_le_mul_right _ hi
        rw [Nat.mul_comm one.length S] at hle
        have h6 := (label_bits c3).1
        simp only [laws_FnLabels.j6]
        rw [if_pos trivial]
        exact law_l2 S (by omega) one two (by omega) c5 _ true i hi (by omega) hpre hd h1 h2 i 0 k (by omega) (by omega)
    · rw [if_neg c]
      refine ⟨_, _, rfl, rfl, fun k hk => ?_⟩
      obtain ⟨k, rfl⟩ := succ_of (k := k) (by omega)
      simp only [laws_FnLabels.j6]
      rw [if_neg (by simp)]
  obtain ⟨tm, ok, e1, e2, hj6⟩ := hj6
  rw [e1, Option.bind_some, e2, Option.bind_some, if_pos rfl]
  simp only [bne_self_eq_false]
  have hj3 : ∀ k bits b, 10000 < k → (b = true → bits ∈ sixM) → laws_FnLabels.j3 k one two tm ok bits (if b = true then dblM bits else []) b false s r = some true := by
    intro k bits b hk hb
    obtain ⟨k, rfl⟩ := succ_of (k := k) (by omega)
    conv => lhs; simp only [laws_FnLabels.j3]
    rw [if_neg (by simp)]
    cases b with
    | false => rw [if_neg (by simp)]; exact hj6 k (by omega)
    | true =>
      rw [if_pos rfl, if_pos rfl]
      exact law_l0 one two tm ok bits s r (hb rfl) hj6 6 0 k (by omega) (by omega)
  have hj3' : ∀ k bits v b, 10000 < k → (b = true → bits ∈ sixM ∧ v = dblM bits) → laws_FnLabels.j3 k one two tm ok bits v b false s r = some true := by
    intro k bits v b hk hb
    cases b with
    | true =>
      have h := hj3 k bits true hk (fun _ => (hb rfl).1)
      rw [if_pos rfl] at h
      rw [(hb rfl).2]
      exact h
    | false =>
      obtain ⟨k, rfl⟩ := succ_of (k := k) (by omega)
      conv => lhs; simp only [laws_FnLabels.j3]
      rw [if_neg (by simp), if_neg (by simp)]
      exact hj6 k (by omega)
  obtain ⟨lab, n, e3, hn3, hn4⟩ := DrawLabelMoves_ok 1999999 l0 hl (by omega)
  obtain ⟨mv, b3, e4, e5, hn5, hmv⟩ := moves_any 1999999 lab n (by omega) hn4 (by omega)
  obtain ⟨bits, e6, hn6⟩ := DrawDoubleLabel_ok 1999998 l0 hl (by omega)
  obtain ⟨db, b4, e7, e8, hn7, hdb⟩ := double_any 1999998 bits (by omega) (by omega)
  have hj2 : laws_FnLabels.j2 1999998 one two tm ok lab n mv b3 bits db b4 false s r = some true := by
    conv => lhs; simp only [laws_FnLabels.j2]
    rw [if_neg (by simp)]
    cases hb3 : b3 with
    | false => rw [if_neg (by simp)]; exact hj3' _ bits db b4 (by omega) hdb
    | true =>
      obtain ⟨N, rfl, hN, hok, rfl⟩ := hmv hb3
      have hlb := label_bits hok
      have htb := told_bits N hlb.2
      have hs := sum_told N lab
      have hsb := sum_bits _ htb
      rw [toldM_len] at hn5
      rw [if_pos rfl, ← Int.natCast_mul, wrap64_id (by omega) (by omega), if_pos (by rw [toldM_len]), laws_rSum_eq _ _ (by rw [toldM_len]; omega) (fun x hx => by have := htb x hx; omega) (by omega), Option.bind_some, laws_rSum_eq _ _ (by omega) (fun x hx => by have := hlb.2 x hx; omega) (by omega), Option.bind_some, ← hs]
      rw [toldM_len] at hsb
      rw [wrap64_id (by omega) (by omega), bne_self_eq_false]
      exact hj3' _ bits db b4 (by omega) hdb
  have hj1 : laws_FnLabels.j1 1999999 l0 one two tm ok lab n mv b3 false s r = some true := by
    conv => lhs; simp only [laws_FnLabels.j1]
    rw [if_neg (by simp), e6, Option.bind_some, e7, Option.bind_some, e8, Option.bind_some]
    simp only [bne_self_eq_false]
    rw [if_neg (by simp), laws_rInts_self _ _ (by omega) (by omega), Option.bind_some]
    exact hj2
  conv => lhs; simp only [laws_FnLabels.j0]
  rw [if_neg (by simp), e3, Option.bind_some]
  simp only
  rw [e4, Option.bind_some, e5, Option.bind_some]
  simp only [bne_self_eq_false]
  rw [if_neg (by simp), laws_rInts_self _ _ (by omega) (by omega), Option.bind_some]
  exact hj1

end Go.Proofs.Ytmamhnbhahafgaa.Pure
