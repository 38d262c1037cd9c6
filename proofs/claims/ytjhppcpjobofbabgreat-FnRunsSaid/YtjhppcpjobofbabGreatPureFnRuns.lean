/- Plain facts on numbers and lists: what the functions that the law FnRuns reaches answer, and that the law's own function answers true. No program, no memory. -/
import Derived.Test.YtjhppcpjobofbabGreatPFnRunsx1
import Derived.Test.YtjhppcpjobofbabGreatPFnRunsx2
import Derived.Test.YtjhppcpjobofbabGreatPFnRunsx3
import Derived.Test.YtjhppcpjobofbabGreatPFnRunsx4
import Derived.Test.YtjhppcpjobofbabGreatPFnRunsx5
import Derived.Test.YtjhppcpjobofbabGreatPFnRunsx6
import Derived.Test.YtjhppcpjobofbabGreatPFnRunsx7
import Derived.Test.YtjhppcpjobofbabGreatPFnRunsx8
import Derived.Test.YtjhppcpjobofbabGreatPFnRunsx9
import Derived.Test.YtjhppcpjobofbabGreatPFnRunsx10
import Derived.Test.YtjhppcpjobofbabGreatPFnRunsx11
import Derived.Test.YtjhppcpjobofbabGreatPFnRunsx12
import Derived.Test.YtjhppcpjobofbabGreatPFnRunsx13
import Derived.Test.YtjhppcpjobofbabGreatPFnRunsx14
import Derived.Test.YtjhppcpjobofbabGreatPFnRunsx15
import Derived.Test.YtjhppcpjobofbabGreatPFnRunsx16
import Derived.Test.YtjhppcpjobofbabGreatPFnRunsx17
import Derived.Test.YtjhppcpjobofbabGreatPFnRunsx18
import Derived.Test.YtjhppcpjobofbabGreatPFnRunsx19
import Derived.Test.YtjhppcpjobofbabGreatPFnRunsx20
import Derived.Test.YtjhppcpjobofbabGreatPFnRunsx21
import Derived.Laws.Bits64b
namespace Go.Proofs.YtjhppcpjobofbabGreat.Pure
open Go.RowKit Go.Proofs.YtjhppcpjobofbabGreat.PFnRuns Go.Proofs.YtjhppcpjobofbabGreatW.PrintWords Go.Proofs.YtjhppcpjobofbabGreatW.PrintLast Go.Proofs.YtjhppcpjobofbabGreatW.PrintMore
set_option linter.unusedVariables false
set_option linter.unusedSimpArgs false
theorem wrap64_id {x : Int} (h1 : -9223372036854775808 ≤ x) (h2 : x ≤ 9223372036854775807) : wrap64 x = x := by unfold wrap64; omega
def inR (x a b : Int) : Bool := decide (a ≤ x) && decide (x ≤ b)
theorem inR_iff {x a b : Int} : inR x a b = true ↔ a ≤ x ∧ x ≤ b := by unfold inR; simp
theorem inR_not {x a b : Int} : inR x a b = false ↔ ¬ (a ≤ x ∧ x ≤ b) := by rw [← inR_iff]; simp
def road (s : Int) (r : Bool) : Bool := inR s 2 24 && (!r || decide (3 ≤ s))
theorem road_bd {s : Int} {r : Bool} (h : road s r = true) : 2 ≤ s ∧ s ≤ 24 ∧ (r = true → 3 ≤ s) := by
  unfold road at h
  rw [Bool.and_eq_true, inR_iff] at h
  refine ⟨h.1.1, h.1.2, fun hr => ?_⟩
  have := h.2
  simp [hr] at this
  exact this
theorem spec_l1In_eq (a b c : Int) : Q26.f a b c = some (inR a b c) := by
  unfold Q26.f inR
  by_cases h : a ≥ b
  · have h' : b ≤ a := h
    simp [h, h']
  · have h' : ¬ b ≤ a := h
    simp [h, h']
theorem impl_within_eq (a b c : Int) : Q30.f a b c = some (inR a b c) := by
  unfold Q30.f inR
  by_cases h : a ≥ b
  · have h' : b ≤ a := h
    simp [h, h']
  · have h' : ¬ b ≤ a := h
    simp [h, h']
theorem spec_l2Road_eq (s : Int) (r : Bool) : Q53.f s r = some (road s r) := by
  unfold Q53.f road
  rw [spec_l1In_eq, Option.bind_some]
  cases inR s 2 24 <;> cases r <;> simp
  omega
theorem impl_IsRoad_eq (s : Int) (r : Bool) : Q20.f s r = some (road s r) := by
  unfold Q20.f road
  rw [impl_within_eq, Option.bind_some]
  cases inR s 2 24 <;> cases r <;> simp
theorem wrap_succ {i n : Nat} (h : i < n) (hn : n ≤ 9223372036854775807) : wrap64 ((i : Int) + 1) = ((i + 1 : Nat) : Int) := by unfold wrap64; omega
theorem drop_rd (l : List Int) (i : Nat) (h : i < l.length) : l.drop i = rd l (i : Int) :: l.drop (i + 1) := by
  rw [List.drop_eq_getElem_cons h]
  unfold rd
  simp [List.getD_eq_getElem?_getD, h]
theorem succ_of {k : Nat} (h : 0 < k) : ∃ m, k = m + 1 := ⟨k - 1, by omega⟩
theorem drop_end {α : Type} (l : List α) (i : Nat) (h : l.length ≤ i) : l.drop i = [] := List.drop_of_length_le h
def allIn (l : List Int) (a b : Int) : Bool := l.all (fun x => inR x a b)
theorem impl_allWithin_l0 (lo hi : Int) (l : List Int) (hl : l.length ≤ 9223372036854775807) : ∀ (d i k : Nat), i + d = l.length → d < k →
    Q35.l0 k lo hi l (l.length : Int) (i : Int) = some (allIn (l.drop i) lo hi)
  | 0, i, k, h, hk => by
    obtain ⟨k, rfl⟩ := succ_of (k := k) (by omega)
    simp only [Q35.l0]
    rw [if_neg (by omega), drop_end l i (by omega)]
    rfl
  | d + 1, i, k, h, hk => by
    obtain ⟨k, rfl⟩ := succ_of (k := k) (by omega)
    simp only [Q35.l0]
    rw [if_pos (by omega), if_pos (by omega), if_pos (by omega), impl_within_eq, Option.bind_some, wrap_succ (n := l.length) (by omega) hl, impl_allWithin_l0 lo hi l hl d (i + 1) k (by omega) (by omega), drop_rd l i (by omega)]
    unfold allIn
    rw [List.all_cons]
    cases inR (rd l (i : Int)) lo hi <;> simp
theorem impl_allWithin_eq (k : Nat) (l : List Int) (a b : Int) (hl : l.length ≤ 9223372036854775807) (hk : l.length < k) : Q35.f k l a b = some (allIn l a b) := by
  unfold Q35.f
  have := impl_allWithin_l0 a b l hl l.length 0 k (by omega) hk
  simpa using this
theorem impl_Road_has_eq (k : Nat) (s : Int) (r : Bool) (l : List Int) (hl : l.length ≤ 9223372036854775807) (hk : l.length < k) : Q6.f k s r l = some (allIn l 0 (wrap64 (s - 1))) := by
  unfold Q6.f
  rw [impl_allWithin_eq k l _ _ hl hk, Option.bind_some]
theorem impl_Road_has1 (k : Nat) (s : Int) (r : Bool) (x : Int) (hs : road s r = true) (hk : 1 < k) : Q6.f k s r [x] = some (inR x 0 (s - 1)) := by
  rw [impl_Road_has_eq k s r [x] (by simp) (by simpa using hk)]
  have := road_bd hs
  rw [wrap64_id (by omega) (by omega)]
  simp [allIn]
theorem impl_Road_hasN (k : Nat) (s : Int) (r : Bool) (l : List Int) (hs : road s r = true) (hl : l.length ≤ 9223372036854775807) (hk : l.length < k) : Q6.f k s r l = some (allIn l 0 (s - 1)) := by
  rw [impl_Road_has_eq k s r l hl hk]
  have := road_bd hs
  rw [wrap64_id (by omega) (by omega)]
theorem spec_l2Place_eq (s : Int) (r : Bool) (x : Int) : Q13.f s r x = some (road s r && inR x 0 (s - 1)) := by
  unfold Q13.f
  rw [spec_l2Road_eq, Option.bind_some]
  cases h : road s r with
  | false => simp
  | true =>
    have := road_bd h
    rw [wrap64_id (by omega) (by omega)]
    simp [spec_l1In_eq]
theorem spec_l6Starts_l0 (s : Int) (r : Bool) (l : List Int) (hl : l.length ≤ 9223372036854775807) : ∀ (d i k : Nat), i + d = min 5 l.length → 2 * d + 1 < k →
    Q32.l0 k l (i : Int) s r = some (road s r && inR (l.length : Int) 1 4 && allIn (l.drop i) 0 (s - 1))
  | 0, i, k, h, hk => by
    obtain ⟨k, rfl⟩ := succ_of (k := k) (by omega)
    obtain ⟨k, rfl⟩ := succ_of (k := k) (by omega)
    have hf : (if (i : Int) < (l.length : Int) then Q32.j1 (k + 1) l (i : Int) (decide ((i : Int) ≤ 4)) s r else Q32.j1 (k + 1) l (i : Int) false s r) = Q32.j1 (k + 1) l (i : Int) false s r := by
      by_cases c : (i : Int) < (l.length : Int)
      · rw [if_pos c, decide_eq_false (by omega)]
      · rw [if_neg c]
    simp only [Q32.l0]
    rw [hf]
    simp only [Q32.j1]
    rw [if_neg (by simp), spec_l2Road_eq, Option.bind_some]
    cases hr : road s r with
    | false => simp
    | true =>
      rw [if_pos rfl, spec_l1In_eq, Option.bind_some, Bool.true_and]
      by_cases c : l.length ≤ 5
      · rw [drop_end l i (by omega)]
        simp [allIn]
      · have : inR (l.length : Int) 1 4 = false := inR_not.2 (by omega)
        simp [this]
  | d + 1, i, k, h, hk => by
    obtain ⟨k, rfl⟩ := succ_of (k := k) (by omega)
    obtain ⟨k, rfl⟩ := succ_of (k := k) (by omega)
    simp only [Q32.l0]
    rw [if_pos (by omega), decide_eq_true (by omega)]
    simp only [Q32.j1]
    rw [if_pos trivial, if_pos (by omega), if_pos (by omega), spec_l2Place_eq, Option.bind_some, drop_rd l i (by omega), wrap_succ (n := l.length) (by omega) hl, spec_l6Starts_l0 s r l hl d (i + 1) k (by omega) (by omega)]
    unfold allIn
    rw [List.all_cons]
    cases road s r <;> cases inR (rd l (i : Int)) 0 (s - 1) <;> simp
theorem spec_l6Starts_eq (k : Nat) (s : Int) (r : Bool) (l : List Int) (hl : l.length ≤ 9223372036854775807) (hk : 12 < k) :
    Q32.f k s r l = some (road s r && inR (l.length : Int) 1 4 && allIn l 0 (s - 1)) := by
  unfold Q32.f
  have := spec_l6Starts_l0 s r l hl (min 5 l.length) 0 k (by omega) (by omega)
  simpa using this
theorem impl_Road_areExplorers_eq (k : Nat) (s : Int) (r : Bool) (l : List Int) (hs : road s r = true) (hl : l.length ≤ 9223372036854775807) (hk : l.length < k) :
    Q61.f k s r l = some (inR (l.length : Int) 1 4 && allIn l 0 (s - 1)) := by
  unfold Q61.f
  rw [impl_within_eq, Option.bind_some, impl_Road_hasN k s r l hs hl hk]
  cases inR (l.length : Int) 1 4 <;> simp
def runL (s x : Int) (n : Nat) : List Int := (List.range n).map (fun (i : Nat) => Int.tmod (x + i) s)
theorem runL_snoc (s x : Int) (n : Nat) : runL s x (n + 1) = runL s x n ++ [Int.tmod (x + n) s] := by unfold runL; rw [List.range_succ]; simp
theorem runL_len (s x : Int) (n : Nat) : (runL s x n).length = n := by simp [runL]
def fits (s : Int) (r : Bool) (x n : Int) : Bool := inR x 0 (s - 1) && inR n 0 s && (r || decide (x + n ≤ s))
theorem spec_l6Run_l0 (s : Int) (r : Bool) (x : Int) (n : Nat) (hs : 2 ≤ s ∧ s ≤ 24) (hx : 0 ≤ x ∧ x ≤ 1000) (hn : n ≤ 1000) : ∀ (d i k : Nat), i + d = n → d < k →
    Q27.l0 k x (n : Int) (runL s x i) (i : Int) s r = some (runL s x n)
  | 0, i, k, h, hk => by
    obtain ⟨k, rfl⟩ := succ_of (k := k) (by omega)
    simp only [Q27.l0]
    rw [if_neg (by omega), show i = n by omega]
  | d + 1, i, k, h, hk => by
    obtain ⟨k, rfl⟩ := succ_of (k := k) (by omega)
    simp only [Q27.l0]
    rw [if_pos (by omega), if_neg (by omega), if_pos (by rw [runL_len]; omega), wrap64_id (x := x + i) (by omega) (by omega), wrap_succ (n := n) (by omega) (by omega), ← runL_snoc]
    exact spec_l6Run_l0 s r x n hs hx hn d (i + 1) k (by omega) (by omega)
theorem spec_l6Run_eq (k : Nat) (s : Int) (r : Bool) (x n : Int) (hs : 2 ≤ s ∧ s ≤ 24) (hx : 0 ≤ x ∧ x ≤ 1000) (hn : 0 ≤ n ∧ n ≤ 1000) (hk : n.toNat < k) : Q27.f k s r x n = some (runL s x n.toNat) := by
  unfold Q27.f
  have := spec_l6Run_l0 s r x n.toNat hs hx (by omega) n.toNat 0 k (by omega) hk
  rw [Int.toNat_of_nonneg hn.1] at this
  simpa [runL] using this
theorem impl_Road_run_l0 (s : Int) (r : Bool) (x : Int) (n : Nat) (hs : 2 ≤ s ∧ s ≤ 24) (hx : 0 ≤ x ∧ x ≤ 1000) (hn : n ≤ 1000) : ∀ (d i k : Nat), i + d = n → d < k →
    Q25.l0 k x (runL s x i) (n : Int) (i : Int) s r = some (runL s x n)
  | 0, i, k, h, hk => by
    obtain ⟨k, rfl⟩ := succ_of (k := k) (by omega)
    simp only [Q25.l0]
    rw [if_neg (by omega), show i = n by omega]
  | d + 1, i, k, h, hk => by
    obtain ⟨k, rfl⟩ := succ_of (k := k) (by omega)
    simp only [Q25.l0]
    rw [if_pos (by omega), if_neg (by omega), if_pos (by rw [runL_len]; omega), wrap64_id (x := x + i) (by omega) (by omega), wrap_succ (n := n) (by omega) (by omega), ← runL_snoc]
    exact impl_Road_run_l0 s r x n hs hx hn d (i + 1) k (by omega) (by omega)
theorem impl_Road_run_eq (k : Nat) (s : Int) (r : Bool) (x n : Int) (hs : 2 ≤ s ∧ s ≤ 24) (hx : 0 ≤ x ∧ x ≤ 1000) (hn : 0 ≤ n ∧ n ≤ 1000) (hk : n.toNat < k) : Q25.f k s r x n = some (runL s x n.toNat) := by
  unfold Q25.f
  have := impl_Road_run_l0 s r x n.toNat hs hx (by omega) n.toNat 0 k (by omega) hk
  rw [Int.toNat_of_nonneg hn.1] at this
  simpa [runL] using this
theorem spec_l6Fits_eq (s : Int) (r : Bool) (x n : Int) : Q52.f s r x n = some (road s r && fits s r x n) := by
  unfold Q52.f fits
  rw [spec_l2Place_eq, Option.bind_some]
  cases hr : road s r with
  | false => simp
  | true =>
    have := road_bd hr
    cases hx : inR x 0 (s - 1) with
    | false => simp
    | true =>
      have hx := inR_iff.1 hx
      rw [spec_l1In_eq]
      cases hn : inR n 0 s with
      | false => simp
      | true =>
        have hn := inR_iff.1 hn
        rw [wrap64_id (x := x + n) (by omega) (by omega)]
        cases r <;> simp
theorem impl_Road_isRun_eq (k : Nat) (s : Int) (r : Bool) (x n : Int) (hr : road s r = true) (hk : 1 < k) : Q38.f k s r x n = some (fits s r x n) := by
  unfold Q38.f fits
  rw [impl_Road_has1 k s r x hr hk, Option.bind_some]
  have := road_bd hr
  cases hx : inR x 0 (s - 1) with
  | false => simp
  | true =>
    have hx := inR_iff.1 hx
    rw [impl_within_eq]
    cases hn : inR n 0 s with
    | false => simp
    | true =>
      have hn := inR_iff.1 hn
      rw [wrap64_id (x := x + n) (by omega) (by omega)]
      cases r <;> simp
def lo2 (a b : Int) : Int := if a < b then a else b
theorem spec_l1Least_eq (a b : Int) : Q37.f a b = some (lo2 a b) := by unfold Q37.f lo2; split <;> rfl
def hi2 (a b : Int) : Int := if b < a then a else b
theorem spec_l1Most_eq (a b : Int) : Q31.f a b = some (hi2 a b) := by unfold Q31.f hi2; by_cases h : b < a <;> simp [h]
theorem spec_l1Has_l0 (x : Int) (l : List Int) (hl : l.length ≤ 9223372036854775807) : ∀ (d i k : Nat), i + d = l.length → d < k → Q42.l0 k l x (i : Int) = some ((l.drop i).any fun y => decide (y = x))
  | 0, i, k, h, hk => by
    obtain ⟨k, rfl⟩ := succ_of (k := k) (by omega)
    simp only [Q42.l0]
    rw [if_neg (by omega), drop_end l i (by omega)]
    rfl
  | d + 1, i, k, h, hk => by
    obtain ⟨k, rfl⟩ := succ_of (k := k) (by omega)
    simp only [Q42.l0]
    rw [if_pos (by omega), if_pos (by omega), drop_rd l i (by omega), List.any_cons]
    by_cases c : rd l (i : Int) = x
    · rw [if_pos c, decide_eq_true c]
      rfl
    · rw [if_neg c, decide_eq_false c, Bool.false_or, wrap_succ (n := l.length) (by omega) hl]
      exact spec_l1Has_l0 x l hl d (i + 1) k (by omega) (by omega)
theorem spec_l1Has_eq (k : Nat) (x : Int) (l : List Int) (hl : l.length ≤ 9223372036854775807) (hk : l.length < k) : Q42.f k l x = some (l.any fun y => decide (y = x)) := by
  unfold Q42.f
  exact spec_l1Has_l0 x l hl l.length 0 k (by omega) hk
def byteL (l : List Int) : Prop := ∀ x ∈ l, 0 ≤ x ∧ x ≤ 255
theorem rd_in {l : List Int} {i : Int} (h0 : 0 ≤ i) (h1 : i < (l.length : Int)) : rd l i ∈ l := by
  unfold rd
  rw [List.getD_eq_getElem?_getD, List.getElem?_eq_getElem (show i.toNat < l.length by omega)]
  exact List.getElem_mem _
theorem u64_bd (x : Int) : 0 ≤ IntKind.u64.wrap x ∧ IntKind.u64.wrap x < 18446744073709551616 := by
  simp [IntKind.wrap, IntKind.bits, IntKind.signed]
  omega
theorem and255 (x : Int) (h0 : 0 ≤ x) (h1 : x < 18446744073709551616) : 0 ≤ Go.bits .and .u64 x 255 ∧ Go.bits .and .u64 x 255 ≤ 255 := by
  obtain ⟨n, rfl⟩ := Int.eq_ofNat_of_zero_le h0
  have h := bits_and_u64_nat n 255 (by omega) (by decide)
  rw [show ((255 : Nat) : Int) = 255 from rfl] at h
  rw [h]
  have h2 := Nat.and_le_right (n := n) (m := 255)
  omega
theorem next_ok (l : List Int) (hl : byteL l) (a b : Int) (h0 : 0 ≤ a) (h1 : a + 1 ≤ 4000000000000000000) : ∃ x b', Q57.f l a b = some (x, a + 1, b') ∧ 0 ≤ x ∧ x ≤ 255 := by
  unfold Q57.f
  have e : wrap64 (a + 1) = a + 1 := wrap64_id (by omega) (by omega)
  rw [e]
  by_cases c : a < (l.length : Int)
  · rw [if_pos c, if_pos h0, if_pos (by omega)]
    have hx := hl _ (rd_in h0 c)
    rw [wrap64_id (x := rd l a) (by omega) (by omega)]
    exact ⟨_, _, rfl, hx.1, hx.2⟩
  · rw [if_neg c, if_neg (by omega)]
    have hb := u64_bd (IntKind.u64.wrap (IntKind.u64.wrap (b * 6364136223846793005)) + 462197)
    generalize IntKind.u64.wrap (IntKind.u64.wrap (IntKind.u64.wrap (b * 6364136223846793005)) + 462197) = U at hb ⊢
    have h := and255 (U / 1099511627776) (by omega) (by omega)
    refine ⟨_, _, rfl, ?_⟩
    rw [wrap64_id (by omega) (by omega)]
    exact h
theorem pick_ok (l : List Int) (hl : byteL l) (a b n : Int) (h0 : 0 ≤ a) (h1 : a + 1 ≤ 4000000000000000000) (hn : n ≤ 200) : ∃ x a' b', Q19.f l a b n = some (x, a', b') ∧ (0 ≤ x ∧ x ≤ 200 ∧ (x < n ∨ x = 0)) ∧ a ≤ a' ∧ a' ≤ a + 1 := by
  unfold Q19.f
  by_cases c : n ≤ 1
  · rw [if_pos c]
    exact ⟨0, a, b, rfl, by omega, by omega, by omega⟩
  · obtain ⟨x, b', e, hx⟩ := next_ok l hl a b h0 h1
    rw [if_neg c, e, Option.bind_some, if_neg (by omega), if_neg (by omega)]
    have h3 := Int.tmod_nonneg n hx.1
    have h4 := Int.tmod_lt_of_pos x (show 0 < n by omega)
    have h5 : 0 ≤ Int.tmod x n ∧ Int.tmod x n ≤ 200 ∧ (Int.tmod x n < n ∨ Int.tmod x n = 0) := by omega
    exact ⟨_, _, _, rfl, h5, by show a ≤ a + 1; omega, by show a + 1 ≤ a + 1; omega⟩
theorem one_ok (l : List Int) (hl : byteL l) (a b n : Int) (h0 : 0 ≤ a) (h1 : a + 1 ≤ 4000000000000000000) (hn : n ≤ 200) : ∃ (x : Bool) (a' b' : Int), Q2.f l a b n = some (x, a', b') ∧ a ≤ a' ∧ a' ≤ a + 1 := by
  unfold Q2.f
  obtain ⟨x, a', b', e, _, h3⟩ := pick_ok l hl a b n h0 h1 hn
  rw [e]
  exact ⟨_, _, _, rfl, h3⟩
theorem among_ok (l : List Int) (hl : byteL l) (a b : Int) (xs : List Int) (h0 : 0 ≤ a) (h1 : a + 1 ≤ 4000000000000000000) (hx : 0 < xs.length) (hx2 : xs.length ≤ 200) : ∃ x a' b', Q14.f l a b xs = some (x, a', b') ∧ x ∈ xs ∧ a ≤ a' ∧ a' ≤ a + 1 := by
  unfold Q14.f
  obtain ⟨x, a', b', e, h2, h3⟩ := pick_ok l hl a b (xs.length : Int) h0 h1 (by omega)
  rw [e, Option.bind_some, if_pos h2.1, if_pos (by show x < _; omega)]
  exact ⟨_, _, _, rfl, rd_in h2.1 (by omega), h3⟩
theorem size_ok (l : List Int) (hl : byteL l) (a b : Int) (h0 : 0 ≤ a) (h1 : a + 2 ≤ 4000000000000000000) : ∃ x a' b', Q54.f l a b = some (x, a', b') ∧ (-1 ≤ x ∧ x ≤ 4611686018427387904) ∧ a ≤ a' ∧ a' ≤ a + 2 := by
  unfold Q54.f
  obtain ⟨x, a1, b1, e, h2⟩ := one_ok l hl a b 40 h0 (by omega) (by omega)
  rw [e, Option.bind_some]
  cases x with
  | true =>
    obtain ⟨y, a2, b2, e2, hy, h3⟩ := among_ok l hl a1 b1 [1, 2, 24, 25, 0, (-1), 4611686018427387904] (by omega) (by omega) (by simp) (by simp)
    rw [if_pos rfl, e2]
    exact ⟨_, _, _, rfl, by simp at hy; omega, by show a ≤ a2; omega, by show a2 ≤ _; omega⟩
  | false =>
    obtain ⟨y, a2, b2, e2, hy, h3⟩ := among_ok l hl a1 b1 [5, 6, 4, 8, 3, 10, 7, 13, 24, 2] (by omega) (by omega) (by simp) (by simp)
    rw [if_neg (by simp), e2]
    exact ⟨_, _, _, rfl, by simp at hy; omega, by show a ≤ a2; omega, by show a2 ≤ _; omega⟩
theorem ring_ok (l : List Int) (hl : byteL l) (a b : Int) (h0 : 0 ≤ a) (h1 : a + 3 ≤ 4000000000000000000) : ∃ (x : Int) (r : Bool) (a' b' : Int), Q69.f l a b = some (x, r, a', b') ∧ (-1 ≤ x ∧ x ≤ 4611686018427387904) ∧ a ≤ a' ∧ a' ≤ a + 3 := by
  unfold Q69.f
  obtain ⟨x, a1, b1, e, hx, h2⟩ := size_ok l hl a b h0 (by omega)
  rw [e, Option.bind_some]
  by_cases c : x = 2
  · obtain ⟨y, a2, b2, e2, h3⟩ := one_ok l hl a1 b1 4 (by omega) (by omega) (by omega)
    rw [if_pos c, e2, Option.bind_some]
    cases y with
    | true => exact ⟨_, _, _, _, if_pos rfl, hx, by show a ≤ a2; omega, by show a2 ≤ _; omega⟩
    | false => exact ⟨_, _, _, _, if_neg (by simp), by omega, by show a ≤ a2; omega, by show a2 ≤ _; omega⟩
  · rw [if_neg c]
    exact ⟨_, _, _, _, rfl, hx, by show a ≤ a1; omega, by show a1 ≤ _; omega⟩
theorem line_ok (l : List Int) (hl : byteL l) (a b : Int) (h0 : 0 ≤ a) (h1 : a + 2 ≤ 4000000000000000000) : ∃ (x : Int) (r : Bool) (a' b' : Int), Q67.f l a b = some (x, r, a', b') ∧ (-1 ≤ x ∧ x ≤ 4611686018427387904) ∧ a ≤ a' ∧ a' ≤ a + 2 := by
  unfold Q67.f
  obtain ⟨x, a1, b1, e, hx, h2⟩ := size_ok l hl a b h0 (by omega)
  rw [e]
  exact ⟨_, _, _, _, rfl, hx, h2⟩
theorem roadd_ok (l : List Int) (hl : byteL l) (a b : Int) (h0 : 0 ≤ a) (h1 : a + 4 ≤ 4000000000000000000) : ∃ (x : Int) (r : Bool) (a' b' : Int), Q46.f l a b = some (x, r, a', b') ∧ (-1 ≤ x ∧ x ≤ 4611686018427387904) ∧ a ≤ a' ∧ a' ≤ a + 4 := by
  unfold Q46.f
  obtain ⟨y, a1, b1, e, h2⟩ := one_ok l hl a b 2 h0 (by omega) (by omega)
  rw [e, Option.bind_some]
  cases y with
  | true =>
    obtain ⟨x, r, a2, b2, e2, hx, h3⟩ := line_ok l hl a1 b1 (by omega) (by omega)
    rw [if_pos rfl, e2]
    exact ⟨_, _, _, _, rfl, hx, by show a ≤ a2; omega, by show a2 ≤ _; omega⟩
  | false =>
    obtain ⟨x, r, a2, b2, e2, hx, h3⟩ := ring_ok l hl a1 b1 (by omega) (by omega)
    rw [if_neg (by simp), e2]
    exact ⟨_, _, _, _, rfl, hx, by show a ≤ a2; omega, by show a2 ≤ _; omega⟩
theorem shortRoad_ok (l : List Int) (hl : byteL l) (a b : Int) (h0 : 0 ≤ a) (h1 : a + 6 ≤ 4000000000000000000) : ∃ (x : Int) (r : Bool) (a' b' : Int), Q60.f l a b = some (x, r, a', b') ∧ (-1 ≤ x ∧ x ≤ 4611686018427387904) ∧ a ≤ a' ∧ a' ≤ a + 6 := by
  unfold Q60.f
  obtain ⟨x, r, a1, b1, e, hx, h2⟩ := roadd_ok l hl a b h0 (by omega)
  rw [e, Option.bind_some]
  by_cases c : x > 13
  · obtain ⟨y, a2, b2, e2, h3⟩ := one_ok l hl a1 b1 8 (by omega) (by omega) (by omega)
    rw [if_pos c, e2, Option.bind_some]
    cases y with
    | true => exact ⟨_, _, _, _, if_pos rfl, hx, by show a ≤ a2; omega, by show a2 ≤ _; omega⟩
    | false =>
      obtain ⟨z, a3, b3, e3, hz, h4⟩ := pick_ok l hl a2 b2 10 (by omega) (by omega) (by omega)
      rw [if_neg (by simp), e3]
      exact ⟨_, _, _, _, rfl, by show -1 ≤ wrap64 (3 + z) ∧ wrap64 (3 + z) ≤ _; rw [wrap64_id (by omega) (by omega)]; omega, by show a ≤ a3; omega, by show a3 ≤ _; omega⟩
  · rw [if_neg c]
    exact ⟨_, _, _, _, rfl, hx, by show a ≤ a1; omega, by show a1 ≤ _; omega⟩
theorem placeOn_ok (l : List Int) (hl : byteL l) (a b s : Int) (r : Bool) (hs : -1 ≤ s ∧ s ≤ 4611686018427387904) (h0 : 0 ≤ a) (h1 : a + 2 ≤ 4000000000000000000) : ∃ x a' b', Q29.f l a b s r = some (x, a', b') ∧ (-2 ≤ x ∧ x ≤ 4611686018427387904) ∧ a ≤ a' ∧ a' ≤ a + 2 := by
  unfold Q29.f
  obtain ⟨y, a1, b1, e, h2⟩ := one_ok l hl a b 30 h0 (by omega) (by omega)
  rw [e, Option.bind_some]
  cases y with
  | true =>
    obtain ⟨x, a2, b2, e2, hx, h3⟩ := among_ok l hl a1 b1 [(-1), 0, s, wrap64 (s - 1), 4611686018427387904] (by omega) (by omega) (by simp) (by simp)
    rw [if_pos rfl, e2]
    rw [wrap64_id (x := s - 1) (by omega) (by omega)] at hx
    exact ⟨_, _, _, rfl, by simp at hx; omega, by show a ≤ a2; omega, by show a2 ≤ _; omega⟩
  | false =>
    rw [if_neg (by simp)]
    have e3 : ∃ m, Q37.f s 24 = some m ∧ m ≤ 24 := by
      unfold Q37.f
      by_cases c : s < 24
      · exact ⟨s, if_pos c, by omega⟩
      · exact ⟨24, if_neg c, by omega⟩
    obtain ⟨m, e3, hm⟩ := e3
    have e4 : ∃ n, Q31.f m 1 = some n ∧ n ≤ 24 := by
      unfold Q31.f
      by_cases c : m > 1
      · exact ⟨m, if_pos c, by omega⟩
      · exact ⟨1, if_neg c, by omega⟩
    obtain ⟨n, e4, hn⟩ := e4
    obtain ⟨x, a2, b2, e2, hx, h3⟩ := pick_ok l hl a1 b1 n (by omega) (by omega) (by omega)
    rw [e3, Option.bind_some, e4, Option.bind_some, e2]
    exact ⟨_, _, _, rfl, by show -2 ≤ x ∧ x ≤ _; omega, by show a ≤ a2; omega, by show a2 ≤ _; omega⟩
theorem laws_rInts_l0 (l : List Int) (hl : l.length ≤ 9223372036854775807) : ∀ (d i k : Nat), i + d = l.length → d < k → Q33.l0 k l l (i : Int) = some true
  | 0, i, k, h, hk => by
    obtain ⟨k, rfl⟩ := succ_of (k := k) (by omega)
    simp only [Q33.l0]
    rw [if_neg (by omega)]
  | d + 1, i, k, h, hk => by
    obtain ⟨k, rfl⟩ := succ_of (k := k) (by omega)
    simp only [Q33.l0]
    rw [if_pos (by omega), if_pos (by omega), if_pos (by omega), if_pos trivial, wrap_succ (n := l.length) (by omega) hl]
    exact laws_rInts_l0 l hl d (i + 1) k (by omega) (by omega)
theorem laws_rInts_self (k : Nat) (l : List Int) (hl : l.length ≤ 9223372036854775807) (hk : l.length < k) : Q33.f k l l = some true := by
  unfold Q33.f
  rw [if_pos rfl]
  have := laws_rInts_l0 l hl l.length 0 k (by omega) hk
  simpa using this
theorem laws_rSum_l0 (l : List Int) (hl : l.length ≤ 1000) (hx : ∀ x ∈ l, -100 ≤ x ∧ x ≤ 100) : ∀ (d i k : Nat) (a : Int), i + d = l.length → d < k → -100 * i ≤ a ∧ a ≤ 100 * i → Q47.l0 k l a (i : Int) = some (a + (l.drop i).sum)
  | 0, i, k, a, h, hk, ha => by
    obtain ⟨k, rfl⟩ := succ_of (k := k) (by omega)
    simp only [Q47.l0]
    rw [if_neg (by omega), drop_end l i (by omega)]
    simp
  | d + 1, i, k, a, h, hk, ha => by
    obtain ⟨k, rfl⟩ := succ_of (k := k) (by omega)
    have hb := hx _ (rd_in (l := l) (i := (i : Int)) (by omega) (by omega))
    simp only [Q47.l0]
    rw [if_pos (by omega), if_pos (by omega), wrap64_id (by omega) (by omega), wrap_succ (n := l.length) (by omega) (by omega), laws_rSum_l0 l hl hx d (i + 1) k _ (by omega) (by omega) (by omega), drop_rd l i (by omega), List.sum_cons, Int.add_assoc]
theorem laws_rSum_eq (k : Nat) (l : List Int) (hl : l.length ≤ 1000) (hx : ∀ x ∈ l, -100 ≤ x ∧ x ≤ 100) (hk : 1000 < k) : Q47.f k l = some l.sum := by
  unfold Q47.f
  have := laws_rSum_l0 l hl hx l.length 0 k 0 (by omega) (by omega) (by omega)
  simpa using this
theorem le_foldMin {β : Type} (f : β → Int) (x : Int) : ∀ (l : List β) (b : Int), x ≤ l.foldl (fun b i => min b (f i)) b ↔ x ≤ b ∧ ∀ i ∈ l, x ≤ f i
  | [], b => by simp
  | a :: l, b => by
    rw [List.foldl_cons, le_foldMin f x l, List.forall_mem_cons, Int.le_min, and_assoc]
theorem foldMax_le {β : Type} (f : β → Int) (x : Int) : ∀ (l : List β) (b : Int), l.foldl (fun b i => max b (f i)) b ≤ x ↔ b ≤ x ∧ ∀ i ∈ l, f i ≤ x
  | [], b => by simp
  | a :: l, b => by
    rw [List.foldl_cons, foldMax_le f x l, List.forall_mem_cons, Int.max_le, and_assoc]
theorem foldMax_perm {β : Type} (f : β → Int) {l l' : List β} (h : ∀ i, i ∈ l ↔ i ∈ l') (b : Int) : l.foldl (fun b i => max b (f i)) b = l'.foldl (fun b i => max b (f i)) b := by
  apply Int.le_antisymm
  · rw [foldMax_le]
    have := (foldMax_le f _ l' b).1 (Int.le_refl _)
    exact ⟨this.1, fun i hi => this.2 i ((h i).1 hi)⟩
  · rw [foldMax_le]
    have := (foldMax_le f _ l b).1 (Int.le_refl _)
    exact ⟨this.1, fun i hi => this.2 i ((h i).2 hi)⟩
/-- How far one goes to the left where one goes so far to the right. -/
def leftAt (s : Int) (fs : List Int) (right : Int) : Int := fs.foldl (fun m f => max m (if right < f then s - f else 0)) 0
theorem leftAt_nn (s : Int) (fs : List Int) (right : Int) : 0 ≤ leftAt s fs right := ((foldMax_le _ _ fs 0).1 (Int.le_refl _)).1
theorem leftAt_ge {s : Int} {fs : List Int} {right f : Int} (hf : f ∈ fs) (h : right < f) : s - f ≤ leftAt s fs right := by
  have := ((foldMax_le (fun f => if right < f then s - f else 0) _ fs 0).1 (Int.le_refl _)).2 f hf
  rw [if_pos h] at this
  exact this
theorem leftAt_le {s : Int} {fs : List Int} {right x : Int} (h0 : 0 ≤ x) (h : ∀ f ∈ fs, right < f → s - f ≤ x) : leftAt s fs right ≤ x := by
  unfold leftAt
  rw [foldMax_le]
  refine ⟨h0, fun f hf => ?_⟩
  by_cases c : right < f
  · rw [if_pos c]; exact h f hf c
  · rw [if_neg c]; exact h0
/-- The least over all ways to the right. -/
def bestTo (s : Int) (c : Int → Int → Int) (fs : List Int) : Int := (List.range s.toNat).foldl (fun (b : Int) (i : Nat) => min b (c (leftAt s fs (i : Int)) (i : Int))) s
def upK (us : List Int) (k : Nat) : Int := if 0 < k then rd us ((k : Int) - 1) else 0
def downK (s : Int) (us : List Int) (k : Nat) : Int := if k < us.length then s - rd us (k : Int) else 0
/-- The least over all splits of the places in order. -/
def bestSp (s : Int) (c : Int → Int → Int) (us : List Int) (b0 : Int) : Int := (List.range (us.length + 1)).foldl (fun (b : Int) (k : Nat) => min b (c (downK s us k) (upK us k))) b0
theorem rd_nat (l : List Int) (i : Nat) (h : i < l.length) : rd l (i : Int) = l[i] := by
  unfold rd
  simp [List.getD_eq_getElem?_getD, h]
/-- Where a number parts a list in order. -/
theorem part_at (x : Int) : ∀ (us : List Int), us.Pairwise (· ≤ ·) → ∃ k, k ≤ us.length ∧ (∀ j (h : j < us.length), j < k → us[j] ≤ x) ∧ (∀ j (h : j < us.length), k ≤ j → x < us[j])
  | [], _ => ⟨0, by simp, fun j h => by simp at h, fun j h => by simp at h⟩
  | u :: us, hp => by
    rw [List.pairwise_cons] at hp
    by_cases c : u ≤ x
    · obtain ⟨k, hk, h1, h2⟩ := part_at x us hp.2
      refine ⟨k + 1, by simpa using hk, fun j h hj => ?_, fun j h hj => ?_⟩
      · cases j with
        | zero => exact c
        | succ j => exact h1 j (by simpa using h) (by omega)
      · cases j with
        | zero => omega
        | succ j => exact h2 j (by simpa using h) (by omega)
    · refine ⟨0, Nat.zero_le _, fun j h hj => by omega, fun j h _ => ?_⟩
      cases j with
      | zero => simpa using (by omega : x < u)
      | succ j =>
        have hj : j < us.length := by simpa using h
        have := hp.1 us[j] (List.getElem_mem hj)
        simp only [List.getElem_cons_succ]
        omega
theorem best_split (s : Int) (c : Int → Int → Int) (fs us : List Int) (b0 : Int) (hs : 2 ≤ s) (hf : ∀ f ∈ fs, 0 ≤ f ∧ f < s) (hu : ∀ u, u ∈ us ↔ u ∈ fs ∧ u ≠ 0) (hp : us.Pairwise (· ≤ ·))
    (hc : ∀ a b a' b', 0 ≤ a → 0 ≤ b → a ≤ a' → b ≤ b' → c a b ≤ c a' b') (hb : s ≤ b0) (hz : b0 = s ∨ ∀ d, 0 ≤ d → d ≤ s → c d 0 ≤ s) : bestSp s c us b0 = bestTo s c fs := by
  have hup : ∀ k, k ≤ us.length → 0 ≤ upK us k ∧ upK us k < s := by
    intro k hk
    unfold upK
    by_cases h : 0 < k
    · rw [if_pos h, show ((k : Int) - 1) = ((k - 1 : Nat) : Int) by omega, rd_nat us (k - 1) (by omega)]
      exact hf _ ((hu _).1 (List.getElem_mem _)).1
    · rw [if_neg h]; omega
  have hdn : ∀ k, 0 ≤ downK s us k ∧ downK s us k ≤ s := by
    intro k
    unfold downK
    by_cases h : k < us.length
    · rw [if_pos h, rd_nat us k h]
      have := hf _ ((hu _).1 (List.getElem_mem h)).1
      omega
    · rw [if_neg h]; omega
  have hmono : ∀ i j (hi : i < us.length) (hj : j < us.length), i ≤ j → us[i] ≤ us[j] := by
    intro i j hi hj hij
    rcases Nat.lt_or_ge i j with h | h
    · exact List.pairwise_iff_getElem.1 hp i j hi hj h
    · have : i = j := by omega
      subst this
      exact Int.le_refl _
  apply Int.le_antisymm
  · -- the splits' least is no more
    unfold bestTo
    have H := (le_foldMin (fun k => c (downK s us k) (upK us k)) (bestSp s c us b0) (List.range (us.length + 1)) b0).1 (Int.le_refl _)
    rw [le_foldMin]
    constructor
    · rcases hz with rfl | hz
      · exact H.1
      · have h0 := H.2 0 (List.mem_range.2 (by omega))
        have := hz (downK s us 0) (hdn 0).1 (hdn 0).2
        have hu0 : upK us 0 = 0 := rfl
        rw [hu0] at h0
        omega
    · intro i hi
      obtain ⟨k, hk, h1, h2⟩ := part_at (i : Int) us hp
      have h3 := H.2 k (List.mem_range.2 (by omega))
      refine Int.le_trans h3 (hc _ _ _ _ (hdn k).1 (hup k hk).1 ?_ ?_)
      · unfold downK
        by_cases h : k < us.length
        · rw [if_pos h, rd_nat us k h]
          exact leftAt_ge ((hu _).1 (List.getElem_mem h)).1 (h2 k h (Nat.le_refl _))
        · rw [if_neg h]; exact leftAt_nn _ _ _
      · unfold upK
        by_cases h : 0 < k
        · rw [if_pos h, show ((k : Int) - 1) = ((k - 1 : Nat) : Int) by omega, rd_nat us (k - 1) (by omega)]
          exact h1 (k - 1) (by omega) (by omega)
        · rw [if_neg h]; omega
  · unfold bestSp
    have H := (le_foldMin (fun i : Nat => c (leftAt s fs (i : Int)) (i : Int)) (bestTo s c fs) (List.range s.toNat) s).1 (Int.le_refl _)
    rw [le_foldMin]
    refine ⟨Int.le_trans H.1 hb, fun k hk => ?_⟩
    have hk := List.mem_range.1 hk
    obtain ⟨u, hu0⟩ := Int.eq_ofNat_of_zero_le (hup k (by omega)).1
    have hlt := (hup k (by omega)).2
    have h3 := H.2 u (List.mem_range.2 (by omega))
    rw [← hu0] at h3
    refine Int.le_trans h3 (hc _ _ _ _ (leftAt_nn _ _ _) (hup k (by omega)).1 (leftAt_le (hdn k).1 (fun f hf1 hf2 => ?_)) (Int.le_refl _))
    have hfu : f ∈ us := (hu f).2 ⟨hf1, by have := (hup k (by omega)).1; omega⟩
    obtain ⟨j, hj, rfl⟩ := List.getElem_of_mem hfu
    have hkj : k ≤ j := by
      rcases Nat.lt_or_ge j k with h | h
      · exfalso
        have := hmono j (k - 1) hj (by omega) (by omega)
        unfold upK at hf2
        rw [if_pos (by omega), show ((k : Int) - 1) = ((k - 1 : Nat) : Int) by omega, rd_nat us (k - 1) (by omega)] at hf2
        omega
      · exact h
    unfold downK
    rw [if_pos (by omega), rd_nat us k (by omega)]
    have := hmono k j (by omega) hj hkj
    omega
theorem hi2_max (a b : Int) : hi2 a b = max a b := by unfold hi2; split <;> omega
theorem lo2_min (a b : Int) : lo2 a b = min a b := by unfold lo2; split <;> omega
theorem mx_max (a b : Int) : mx a b = max a b := by unfold mx; split <;> omega
theorem mn_min (a b : Int) : mn a b = min a b := by unfold mn; split <;> omega
theorem rd_all {P : Int → Prop} {l : List Int} (hx : ∀ x ∈ l, P x) (i : Nat) (h : i < l.length) : P (rd l (i : Int)) := by
  rw [rd_nat l i h]
  exact hx _ (List.getElem_mem h)
def upRing (s p q : Int) : Int := Int.tmod (q - p + s) s
theorem upRing_bd {s p q : Int} (hs : 2 ≤ s) (hp : 0 ≤ p ∧ p ≤ s - 1) (hq : 0 ≤ q ∧ q ≤ s - 1) : 0 ≤ upRing s p q ∧ upRing s p q < s := by
  unfold upRing
  rw [Int.tmod_eq_emod_of_nonneg (by omega)]
  exact ⟨Int.emod_nonneg _ (by omega), Int.emod_lt_of_pos _ (by omega)⟩
def costT (a b : Int) : Int := a + b + min a b
def costB (a b : Int) : Int := 2 * (a + b)
theorem costT_mono : ∀ a b a' b' : Int, 0 ≤ a → 0 ≤ b → a ≤ a' → b ≤ b' → costT a b ≤ costT a' b' := by
  intro a b a' b' _ _ _ _
  unfold costT
  omega
theorem costB_mono : ∀ a b a' b' : Int, 0 ≤ a → 0 ≤ b → a ≤ a' → b ≤ b' → costB a b ≤ costB a' b' := by
  intro a b a' b' _ _ _ _
  unfold costB
  omega
/-- Where the line's places lead to: left and right. -/
def leftL (p : Int) (l : List Int) (a : Int) : Int := l.foldl (fun m q => max m (p - q)) a
def rightL (p : Int) (l : List Int) (a : Int) : Int := l.foldl (fun m q => max m (q - p)) a
/-- The least time of a way through places: on a ring over all ways to the right. -/
def wayM (c : Int → Int → Int) (s : Int) (r : Bool) (p : Int) (l : List Int) : Int := if r = true then bestTo s c (l.map (upRing s p)) else c (leftL p l 0) (rightL p l 0)
def lfF (s p right : Int) (m q : Int) : Int := max m (if right < upRing s p q then s - upRing s p q else 0)
theorem leftAt_map (s p right : Int) (l : List Int) : leftAt s (l.map (upRing s p)) right = l.foldl (lfF s p right) 0 := by
  unfold leftAt
  rw [List.foldl_map]
  rfl
def bestR (s : Int) (c : Int → Int → Int) (p : Int) (l : List Int) (i d : Nat) (b : Int) : Int := (List.range' i d).foldl (fun (b : Int) (i : Nat) => min b (c (l.foldl (lfF s p (i : Int)) 0) (i : Int))) b
theorem bestR_succ (s : Int) (c : Int → Int → Int) (p : Int) (l : List Int) (i d : Nat) (b : Int) : bestR s c p l i (d + 1) b = bestR s c p l (i + 1) d (min b (c (l.foldl (lfF s p (i : Int)) 0) (i : Int))) := by
  unfold bestR
  rw [List.range'_succ, List.foldl_cons]
theorem bestR_all (s : Int) (c : Int → Int → Int) (p : Int) (l : List Int) : bestR s c p l 0 s.toNat s = bestTo s c (l.map (upRing s p)) := by
  unfold bestR bestTo
  rw [List.range_eq_range']
  congr 1
  funext b i
  rw [leftAt_map]
def bestK (s : Int) (c : Int → Int → Int) (us : List Int) (i d : Nat) (b : Int) : Int := (List.range' i d).foldl (fun (b : Int) (k : Nat) => min b (c (downK s us k) (upK us k))) b
theorem bestK_succ (s : Int) (c : Int → Int → Int) (us : List Int) (i d : Nat) (b : Int) : bestK s c us i (d + 1) b = bestK s c us (i + 1) d (min b (c (downK s us i) (upK us i))) := by
  unfold bestK
  rw [List.range'_succ, List.foldl_cons]
theorem bestK_all (s : Int) (c : Int → Int → Int) (us : List Int) (b : Int) : bestK s c us 0 (us.length + 1) b = bestSp s c us b := by
  unfold bestK bestSp
  rw [List.range_eq_range']
theorem spec_l2Far_eq (s : Int) (r : Bool) (p q : Int) (hs : 2 ≤ s ∧ s ≤ 24) (hp : 0 ≤ p ∧ p ≤ s - 1) (hq : 0 ≤ q ∧ q ≤ s - 1) : Q58.f s r p q = some (upRing s p q) := by
  unfold Q58.f upRing
  rw [if_neg (by omega), wrap64_id (x := q - p) (by omega) (by omega), wrap64_id (x := q - p + s) (by omega) (by omega)]
theorem spec_l2Tour_eq (a b : Int) (ha : 0 ≤ a ∧ a ≤ 1000) (hb : 0 ≤ b ∧ b ≤ 1000) : Q66.f a b = some (costT a b) := by
  unfold Q66.f costT
  rw [spec_l1Least_eq, Option.bind_some, lo2_min, wrap64_id (x := a + b) (by omega) (by omega), wrap64_id (by omega) (by omega)]
theorem spec_l6Back_l0 (p : Int) (l : List Int) (hp : 0 ≤ p ∧ p ≤ 23) (hl : l.length ≤ 1048576) (hx : ∀ x ∈ l, 0 ≤ x ∧ x ≤ 23) : ∀ (d i k : Nat) (a b : Int), i + d = l.length → 0 ≤ a ∧ a ≤ 23 → 0 ≤ b ∧ b ≤ 23 → d < k →
    Q10.l0 k p l a b (i : Int) = some (costB (leftL p (l.drop i) a) (rightL p (l.drop i) b))
  | 0, i, k, a, b, h, ha, hb, hk => by
    obtain ⟨k, rfl⟩ := succ_of (k := k) (by omega)
    simp only [Q10.l0]
    rw [if_neg (by omega), drop_end l i (by omega), wrap64_id (x := a + b) (by omega) (by omega), wrap64_id (by omega) (by omega)]
    rfl
  | d + 1, i, k, a, b, h, ha, hb, hk => by
    obtain ⟨k, rfl⟩ := succ_of (k := k) (by omega)
    have hq := rd_all hx i (by omega)
    simp only [Q10.l0]
    rw [if_pos (by omega), if_pos (by omega), wrap64_id (x := p - _) (by omega) (by omega), wrap64_id (x := _ - p) (by omega) (by omega), spec_l1Most_eq, Option.bind_some, spec_l1Most_eq, Option.bind_some, hi2_max, hi2_max, wrap_succ (n := l.length) (by omega) (by omega), spec_l6Back_l0 p l hp hl hx d (i + 1) k _ _ (by omega) (by omega) (by omega) (by omega), drop_rd l i (by omega)]
    rfl
theorem spec_l6Back_l2 (s : Int) (r : Bool) (p : Int) (l : List Int) (hs : 2 ≤ s ∧ s ≤ 24) (hp : 0 ≤ p ∧ p ≤ s - 1) (hl : l.length ≤ 1048576) (hx : ∀ x ∈ l, 0 ≤ x ∧ x ≤ s - 1) (best right : Int) (hr : 0 ≤ right ∧ right < s) : ∀ (d i k : Nat) (a : Int), i + d = l.length → 0 ≤ a ∧ a ≤ s →
    Q10.l2 (k + d + 1) p l best right a (i : Int) s r = Q10.l1 k p l (min best (costB ((l.drop i).foldl (lfF s p right) a) right)) (wrap64 (right + 1)) s r
  | 0, i, k, a, h, ha => by
    simp only [Q10.l2]
    rw [if_neg (by omega), drop_end l i (by omega), wrap64_id (x := a + right) (by omega) (by omega), wrap64_id (x := 2 * _) (by omega) (by omega), spec_l1Least_eq, Option.bind_some, lo2_min]
    rfl
  | d + 1, i, k, a, h, ha => by
    have hq := rd_all hx i (by omega)
    have hf := upRing_bd hs.1 hp hq
    have ih := spec_l6Back_l2 s r p l hs hp hl hx best right hr d (i + 1) k
    obtain ⟨m, hm⟩ : ∃ m, m = k + d + 1 := ⟨_, rfl⟩
    simp only [← hm] at ih
    rw [show k + (d + 1) + 1 = m + 1 by omega]
    simp only [Q10.l2]
    rw [if_pos (by omega), if_pos (by omega), spec_l2Far_eq s r p _ hs hp hq, Option.bind_some, wrap_succ (n := l.length) (by omega) (by omega), drop_rd l i (by omega), List.foldl_cons]
    by_cases c : upRing s p (rd l (i : Int)) > right
    · rw [if_pos c, wrap64_id (x := s - _) (by omega) (by omega), spec_l1Most_eq, Option.bind_some, hi2_max]
      have e := ih (max a (s - upRing s p (rd l (i : Int)))) (by omega) (by omega)
      rw [e]
      unfold lfF
      rw [if_pos (show right < upRing s p (rd l (i : Int)) from c)]
    · rw [if_neg c]
      have e := ih a (by omega) ha
      rw [e]
      have : lfF s p right a (rd l (i : Int)) = a := by
        unfold lfF
        rw [if_neg (show ¬ right < upRing s p (rd l (i : Int)) from c)]
        omega
      rw [this]
theorem spec_l6Back_l1 (s : Int) (r : Bool) (p : Int) (l : List Int) (hs : 2 ≤ s ∧ s ≤ 24) (hp : 0 ≤ p ∧ p ≤ s - 1) (hl : l.length ≤ 1048576) (hx : ∀ x ∈ l, 0 ≤ x ∧ x ≤ s - 1) : ∀ (d i k : Nat) (best : Int), i + d = s.toNat → d * (l.length + 2) < k →
    Q10.l1 k p l best (i : Int) s r = some (bestR s costB p l i d best)
  | 0, i, k, best, h, hk => by
    obtain ⟨k, rfl⟩ := succ_of (k := k) (by omega)
    simp only [Q10.l1]
    rw [if_neg (by omega)]
    rfl
  | d + 1, i, k, best, h, hk => by
    have hm : (d + 1) * (l.length + 2) = d * (l.length + 2) + l.length + 2 := by rw [Nat.succ_mul]; omega
    rw [hm] at hk
    obtain ⟨k, rfl⟩ : ∃ k', k = k' + l.length + 1 + 1 := ⟨k - l.length - 2, by omega⟩
    simp only [Q10.l1]
    rw [if_pos (by omega)]
    have e := spec_l6Back_l2 s r p l hs hp hl hx best (i : Int) (by omega) l.length 0 k 0 (by omega) (by omega)
    rw [show ((0 : Nat) : Int) = 0 from rfl, List.drop_zero] at e
    rw [e, wrap_succ (n := s.toNat) (by omega) (by omega), spec_l6Back_l1 s r p l hs hp hl hx d (i + 1) k _ (by omega) (by omega), bestR_succ]
theorem spec_l6Back_eq (k : Nat) (s : Int) (r : Bool) (p : Int) (l : List Int) (hs : 2 ≤ s ∧ s ≤ 24) (hp : 0 ≤ p ∧ p ≤ s - 1) (hl : l.length ≤ 100) (hx : ∀ x ∈ l, 0 ≤ x ∧ x ≤ s - 1) (hk : 10000 < k) : Q10.f k s r p l = some (wayM costB s r p l) := by
  unfold Q10.f wayM
  cases r with
  | true =>
    have h1 : s.toNat * (l.length + 2) ≤ 24 * 102 := Nat.mul_le_mul (by omega) (by omega)
    have e := spec_l6Back_l1 s true p l hs hp (by omega) hx s.toNat 0 k s (by omega) (by omega)
    rw [show ((0 : Nat) : Int) = 0 from rfl] at e
    simp only [if_true]
    rw [e, bestR_all]
  | false =>
    have e := spec_l6Back_l0 p l (by omega) (by omega) (fun x h => by have := hx x h; omega) l.length 0 k 0 0 (by omega) (by omega) (by omega) (by omega)
    rw [show ((0 : Nat) : Int) = 0 from rfl, List.drop_zero] at e
    rw [if_neg (by simp), if_neg (by simp), e]
theorem spec_TourTime_l1 (p : Int) (l : List Int) (hp : 0 ≤ p ∧ p ≤ 23) (hl : l.length ≤ 1048576) (hx : ∀ x ∈ l, 0 ≤ x ∧ x ≤ 23) : ∀ (d i k : Nat) (a b : Int), i + d = l.length → 0 ≤ a ∧ a ≤ 23 → 0 ≤ b ∧ b ≤ 23 → d < k →
    Q5.l1 k p l a b (i : Int) = some (costT (leftL p (l.drop i) a) (rightL p (l.drop i) b), true)
  | 0, i, k, a, b, h, ha, hb, hk => by
    obtain ⟨k, rfl⟩ := succ_of (k := k) (by omega)
    simp only [Q5.l1]
    rw [if_neg (by omega), drop_end l i (by omega), spec_l2Tour_eq a b (by omega) (by omega), Option.bind_some]
    rfl
  | d + 1, i, k, a, b, h, ha, hb, hk => by
    obtain ⟨k, rfl⟩ := succ_of (k := k) (by omega)
    have hq := rd_all hx i (by omega)
    simp only [Q5.l1]
    rw [if_pos (by omega), if_pos (by omega), wrap64_id (x := p - _) (by omega) (by omega), wrap64_id (x := _ - p) (by omega) (by omega), spec_l1Most_eq, Option.bind_some, spec_l1Most_eq, Option.bind_some, hi2_max, hi2_max, wrap_succ (n := l.length) (by omega) (by omega), spec_TourTime_l1 p l hp hl hx d (i + 1) k _ _ (by omega) (by omega) (by omega) (by omega), drop_rd l i (by omega)]
    rfl
theorem spec_TourTime_l3 (s : Int) (r : Bool) (p : Int) (l : List Int) (hs : 2 ≤ s ∧ s ≤ 24) (hp : 0 ≤ p ∧ p ≤ s - 1) (hl : l.length ≤ 1048576) (hx : ∀ x ∈ l, 0 ≤ x ∧ x ≤ s - 1) (best right : Int) (hr : 0 ≤ right ∧ right < s) : ∀ (d i k : Nat) (a : Int), i + d = l.length → 0 ≤ a ∧ a ≤ s →
    Q5.l3 (k + d + 1) p l best right a (i : Int) s r = Q5.l2 k p l (min best (costT ((l.drop i).foldl (lfF s p right) a) right)) (wrap64 (right + 1)) s r
  | 0, i, k, a, h, ha => by
    simp only [Q5.l3]
    rw [if_neg (by omega), drop_end l i (by omega), spec_l2Tour_eq a right (by omega) (by omega), Option.bind_some, spec_l1Least_eq, Option.bind_some, lo2_min]
    rfl
  | d + 1, i, k, a, h, ha => by
    have hq := rd_all hx i (by omega)
    have hf := upRing_bd hs.1 hp hq
    have ih := spec_TourTime_l3 s r p l hs hp hl hx best right hr d (i + 1) k
    obtain ⟨m, hm⟩ : ∃ m, m = k + d + 1 := ⟨_, rfl⟩
    simp only [← hm] at ih
    rw [show k + (d + 1) + 1 = m + 1 by omega]
    simp only [Q5.l3]
    rw [if_pos (by omega), if_pos (by omega), spec_l2Far_eq s r p _ hs hp hq, Option.bind_some, wrap_succ (n := l.length) (by omega) (by omega), drop_rd l i (by omega), List.foldl_cons]
    by_cases c : upRing s p (rd l (i : Int)) > right
    · rw [if_pos c, wrap64_id (x := s - _) (by omega) (by omega), spec_l1Most_eq, Option.bind_some, hi2_max]
      have e := ih (max a (s - upRing s p (rd l (i : Int)))) (by omega) (by omega)
      rw [e]
      unfold lfF
      rw [if_pos (show right < upRing s p (rd l (i : Int)) from c)]
    · rw [if_neg c]
      have e := ih a (by omega) ha
      rw [e]
      have : lfF s p right a (rd l (i : Int)) = a := by
        unfold lfF
        rw [if_neg (show ¬ right < upRing s p (rd l (i : Int)) from c)]
        omega
      rw [this]
theorem spec_TourTime_l2 (s : Int) (r : Bool) (p : Int) (l : List Int) (hs : 2 ≤ s ∧ s ≤ 24) (hp : 0 ≤ p ∧ p ≤ s - 1) (hl : l.length ≤ 1048576) (hx : ∀ x ∈ l, 0 ≤ x ∧ x ≤ s - 1) : ∀ (d i k : Nat) (best : Int), i + d = s.toNat → d * (l.length + 2) < k →
    Q5.l2 k p l best (i : Int) s r = some (bestR s costT p l i d best, true)
  | 0, i, k, best, h, hk => by
    obtain ⟨k, rfl⟩ := succ_of (k := k) (by omega)
    simp only [Q5.l2]
    rw [if_neg (by omega)]
    rfl
  | d + 1, i, k, best, h, hk => by
    have hm : (d + 1) * (l.length + 2) = d * (l.length + 2) + l.length + 2 := by rw [Nat.succ_mul]; omega
    rw [hm] at hk
    obtain ⟨k, rfl⟩ : ∃ k', k = k' + l.length + 1 + 1 := ⟨k - l.length - 2, by omega⟩
    simp only [Q5.l2]
    rw [if_pos (by omega)]
    have e := spec_TourTime_l3 s r p l hs hp hl hx best (i : Int) (by omega) l.length 0 k 0 (by omega) (by omega)
    rw [show ((0 : Nat) : Int) = 0 from rfl, List.drop_zero] at e
    rw [e, wrap_succ (n := s.toNat) (by omega) (by omega), spec_TourTime_l2 s r p l hs hp hl hx d (i + 1) k _ (by omega) (by omega), bestR_succ]
theorem spec_TourTime_l0 (s : Int) (r : Bool) (p : Int) (l : List Int) (hr : road s r = true) (hp : 0 ≤ p ∧ p ≤ s - 1) (hl : l.length ≤ 1048576) : ∀ (d i k : Nat), i + d = l.length → d + 30 * (l.length + 2) < k → (∀ j, j < i → inR (rd l (j : Int)) 0 (s - 1) = true) →
    Q5.l0 k p l (i : Int) s r = some (if allIn l 0 (s - 1) = true then (wayM costT s r p l, true) else (0, false))
  | 0, i, k, h, hk, hin => by
    obtain ⟨k, rfl⟩ := succ_of (k := k) (by omega)
    have hs := road_bd hr
    have hx : ∀ x ∈ l, 0 ≤ x ∧ x ≤ s - 1 := by
      intro x hx
      obtain ⟨j, hj, rfl⟩ := List.getElem_of_mem hx
      have := inR_iff.1 (hin j (by omega))
      rw [rd_nat l j hj] at this
      exact this
    have ha : allIn l 0 (s - 1) = true := List.all_eq_true.2 (fun x h => inR_iff.2 (hx x h))
    simp only [Q5.l0]
    rw [if_neg (by omega), if_pos ha]
    unfold wayM
    cases r with
    | true =>
      have h1 : s.toNat * (l.length + 2) ≤ 24 * (l.length + 2) := Nat.mul_le_mul (by omega) (by omega)
      have e := spec_TourTime_l2 s true p l ⟨hs.1, hs.2.1⟩ hp hl hx s.toNat 0 k s (by omega) (by omega)
      rw [show ((0 : Nat) : Int) = 0 from rfl] at e
      simp only [if_true]
      rw [e, bestR_all]
    | false =>
      have e := spec_TourTime_l1 p l (by omega) hl (fun x h => by have := hx x h; omega) l.length 0 k 0 0 (by omega) (by omega) (by omega) (by omega)
      rw [show ((0 : Nat) : Int) = 0 from rfl, List.drop_zero] at e
      rw [if_neg (by simp), if_neg (by simp), e]
  | d + 1, i, k, h, hk, hin => by
    obtain ⟨k, rfl⟩ := succ_of (k := k) (by omega)
    have hs := road_bd hr
    simp only [Q5.l0]
    rw [if_pos (by omega), if_pos (by omega), spec_l2Place_eq, Option.bind_some, hr, Bool.true_and]
    by_cases c : inR (rd l (i : Int)) 0 (s - 1) = true
    · rw [if_pos c, wrap_succ (n := l.length) (by omega) (by omega)]
      exact spec_TourTime_l0 s r p l hr hp hl d (i + 1) k (by omega) (by omega) (fun j hj => by
        rcases Nat.lt_or_ge j i with h1 | h1
        · exact hin j h1
        · have : j = i := by omega
          subst this
          exact c)
    · rw [if_neg c, if_neg]
      intro ha
      have := List.all_eq_true.1 ha _ (List.getElem_mem (show i < l.length by omega))
      rw [rd_nat l i (by omega)] at c
      exact c this
theorem spec_TourTime_eq (k : Nat) (s : Int) (r : Bool) (p : Int) (l : List Int) (hl : l.length ≤ 1048576) (hk : 31 * (l.length + 2) < k) : Q5.f k s r p l = some (if (road s r && inR p 0 (s - 1) && allIn l 0 (s - 1)) = true then (wayM costT s r p l, true) else (0, false)) := by
  unfold Q5.f
  rw [spec_l2Place_eq, Option.bind_some]
  cases hr : road s r with
  | false => simp
  | true =>
    cases hp : inR p 0 (s - 1) with
    | false => simp
    | true =>
      have e := spec_TourTime_l0 s r p l hr (inR_iff.1 hp) hl l.length 0 k (by omega) (by omega) (fun j hj => by omega)
      rw [show ((0 : Nat) : Int) = 0 from rfl] at e
      simp only [Bool.and_self, if_true, Bool.true_and]
      rw [e]
def upM (s : Int) (r : Bool) (p q : Int) : Int := if r = true then upRing s p q else q - p
theorem upM_bd {s p q : Int} {r : Bool} (hs : 2 ≤ s) (hp : 0 ≤ p ∧ p ≤ s - 1) (hq : 0 ≤ q ∧ q ≤ s - 1) : -s ≤ upM s r p q ∧ upM s r p q < s := by
  unfold upM
  have := upRing_bd hs hp hq
  cases r <;> simp <;> omega
def upF (us : List Int) (a : Int) : Int := us.foldl (fun m u => max m u) a
def dnF (us : List Int) (a : Int) : Int := us.foldl (fun m u => max m (-u)) a
theorem downK_bd {s : Int} {us : List Int} (hs : 2 ≤ s) (hu : ∀ u ∈ us, 0 ≤ u ∧ u ≤ s - 1) (k : Nat) : 0 ≤ downK s us k ∧ downK s us k ≤ s := by
  unfold downK
  by_cases h : k < us.length
  · have := rd_all hu k h
    rw [if_pos h]
    omega
  · rw [if_neg h]; omega
theorem upK_bd {s : Int} {us : List Int} (hs : 2 ≤ s) (hu : ∀ u ∈ us, 0 ≤ u ∧ u ≤ s - 1) (k : Nat) (hk : k ≤ us.length) : 0 ≤ upK us k ∧ upK us k ≤ s := by
  unfold upK
  by_cases h : 0 < k
  · have := rd_all hu (k - 1) (by omega)
    rw [if_pos h, show ((k : Int) - 1) = ((k - 1 : Nat) : Int) by omega]
    omega
  · rw [if_neg h]; omega
theorem sortI_len (l : List Int) : (sortI l).length = l.length := List.length_mergeSort _
theorem sortI_mem (l : List Int) (x : Int) : x ∈ sortI l ↔ x ∈ l := (List.mergeSort_perm l _).mem_iff
theorem sortI_sorted (l : List Int) : (sortI l).Pairwise (· ≤ ·) := by
  have h := List.pairwise_mergeSort (le := fun x y : Int => decide (x ≤ y)) (fun a b c hab hbc => by simp at hab hbc ⊢; omega) (fun a b => by simp; omega) l
  exact h.imp (fun h => by simpa using h)
/-- What the places in order come to. -/
theorem ways_sorted (c : Int → Int → Int) (s : Int) (p : Int) (l : List Int) (b0 : Int) (hs : 2 ≤ s) (hp : 0 ≤ p ∧ p ≤ s - 1) (hx : ∀ x ∈ l, 0 ≤ x ∧ x ≤ s - 1)
    (hc : ∀ a b a' b', 0 ≤ a → 0 ≤ b → a ≤ a' → b ≤ b' → c a b ≤ c a' b') (hb : s ≤ b0) (hz : b0 = s ∨ ∀ d, 0 ≤ d → d ≤ s → c d 0 ≤ s) :
    bestSp s c ((sortI (l.map (upM s true p))).filter fun x => !(x == 0)) b0 = wayM c s true p l := by
  have hm : l.map (upM s true p) = l.map (upRing s p) := rfl
  unfold wayM
  rw [if_pos rfl, hm]
  refine best_split s c (l.map (upRing s p)) _ b0 hs (fun f hf => ?_) (fun u => ?_) ?_ hc hb hz
  · obtain ⟨q, hq, rfl⟩ := List.mem_map.1 hf
    exact upRing_bd hs hp (hx q hq)
  · rw [List.mem_filter, sortI_mem]
    simp
  · exact (sortI_sorted _).filter _
theorem ways_line (c : Int → Int → Int) (s p : Int) (l : List Int) : c (dnF (sortI (l.map (upM s false p))) 0) (upF (sortI (l.map (upM s false p))) 0) = wayM c s false p l := by
  unfold wayM
  rw [if_neg (by simp)]
  have h1 : dnF (sortI (l.map (upM s false p))) 0 = leftL p l 0 := by
    unfold dnF leftL
    rw [foldMax_perm (fun u => -u) (fun i => sortI_mem (l.map (upM s false p)) i), List.foldl_map]
    congr 1
    funext m q
    show max m (-(q - p)) = max m (p - q)
    rw [Int.neg_sub]
  have h2 : upF (sortI (l.map (upM s false p))) 0 = rightL p l 0 := by
    unfold upF rightL
    rw [foldMax_perm (fun u => u) (fun i => sortI_mem (l.map (upM s false p)) i), List.foldl_map]
    rfl
  rw [h1, h2]
theorem impl_Road_roundTrip_1_eq (s : Int) (r : Bool) (p q : Int) (hs : 2 ≤ s ∧ s ≤ 24) (hp : 0 ≤ p ∧ p ≤ s - 1) (hq : 0 ≤ q ∧ q ≤ s - 1) : Q80.f q s r p = some (upM s r p q) := by
  unfold Q80.f upM upRing
  rw [if_neg (show ¬ s = 0 by omega), wrap64_id (x := q - p) (by omega) (by omega), wrap64_id (x := q - p + s) (by omega) (by omega)]
  cases r <;> simp
theorem impl_mapped_roundTrip_l0 (s : Int) (r : Bool) (p : Int) (l : List Int) (hs : 2 ≤ s ∧ s ≤ 24) (hp : 0 ≤ p ∧ p ≤ s - 1) (hl : l.length ≤ 1048576) (hx : ∀ x ∈ l, 0 ≤ x ∧ x ≤ s - 1) : ∀ (d i k : Nat) (acc : List Int), i + d = l.length → acc.length ≤ i → d < k →
    Q39.l0 k acc l (l.length : Int) (i : Int) s r p = some (acc ++ (l.drop i).map (upM s r p))
  | 0, i, k, acc, h, ha, hk => by
    obtain ⟨k, rfl⟩ := succ_of (k := k) (by omega)
    simp only [Q39.l0]
    rw [if_neg (by omega), drop_end l i (by omega)]
    simp
  | d + 1, i, k, acc, h, ha, hk => by
    obtain ⟨k, rfl⟩ := succ_of (k := k) (by omega)
    have hq := rd_all hx i (by omega)
    simp only [Q39.l0]
    rw [if_pos (by omega), if_pos (by omega), if_pos (by omega), impl_Road_roundTrip_1_eq s r p _ hs hp hq, Option.bind_some, if_pos (by omega), wrap_succ (n := l.length) (by omega) (by omega), impl_mapped_roundTrip_l0 s r p l hs hp hl hx d (i + 1) k _ (by omega) (by simp; omega) (by omega), drop_rd l i (by omega)]
    simp
theorem impl_mapped_roundTrip_eq (k : Nat) (s : Int) (r : Bool) (p : Int) (l : List Int) (hs : 2 ≤ s ∧ s ≤ 24) (hp : 0 ≤ p ∧ p ≤ s - 1) (hl : l.length ≤ 1048576) (hx : ∀ x ∈ l, 0 ≤ x ∧ x ≤ s - 1) (hk : l.length < k) : Q39.f k l s r p = some (l.map (upM s r p)) := by
  unfold Q39.f
  have := impl_mapped_roundTrip_l0 s r p l hs hp hl hx l.length 0 k [] (by omega) (by simp) hk
  simpa using this
theorem impl_Road_roundTrip_l0 (us : List Int) (hl : us.length ≤ 1048576) (hu : ∀ u ∈ us, -24 ≤ u ∧ u ≤ 24) : ∀ (d i k : Nat) (a b : Int), i + d = us.length → 0 ≤ a ∧ a ≤ 24 → 0 ≤ b ∧ b ≤ 24 → d < k →
    Q8.l0 k a b us (us.length : Int) (i : Int) = some (costB (dnF (us.drop i) b) (upF (us.drop i) a))
  | 0, i, k, a, b, h, ha, hb, hk => by
    obtain ⟨k, rfl⟩ := succ_of (k := k) (by omega)
    simp only [Q8.l0]
    rw [if_neg (by omega), drop_end us i (by omega), wrap64_id (x := a + b) (by omega) (by omega), wrap64_id (by omega) (by omega), show 2 * (a + b) = costB b a by unfold costB; omega]
    rfl
  | d + 1, i, k, a, b, h, ha, hb, hk => by
    obtain ⟨k, rfl⟩ := succ_of (k := k) (by omega)
    have hq := rd_all hu i (by omega)
    simp only [Q8.l0]
    rw [if_pos (by omega), if_pos (by omega), if_pos (by omega), wrap64_id (x := -_) (by omega) (by omega), mx_max, mx_max, wrap_succ (n := us.length) (by omega) (by omega), impl_Road_roundTrip_l0 us hl hu d (i + 1) k _ _ (by omega) (by omega) (by omega) (by omega), drop_rd us i (by omega)]
    rfl
theorem impl_Road_roundTrip_l1 (s : Int) (r : Bool) (us : List Int) (hs : 2 ≤ s ∧ s ≤ 24) (hl : us.length ≤ 1048576) (hu : ∀ u ∈ us, 0 ≤ u ∧ u ≤ s - 1) : ∀ (d i k : Nat) (best : Int), i + d = us.length + 1 → d < k →
    Q8.l1 k us best ((us.length : Int) + 1) (i : Int) s r = some (bestK s costB us i d best)
  | 0, i, k, best, h, hk => by
    obtain ⟨k, rfl⟩ := succ_of (k := k) (by omega)
    simp only [Q8.l1]
    rw [if_neg (by omega)]
    rfl
  | d + 1, i, k, best, h, hk => by
    obtain ⟨k, rfl⟩ := succ_of (k := k) (by omega)
    have hdn := downK_bd hs.1 hu i
    have hup := upK_bd hs.1 hu i (by omega)
    have ih := impl_Road_roundTrip_l1 s r us hs hl hu d (i + 1) k (min best (costB (downK s us i) (upK us i))) (by omega) (by omega)
    simp only [Q8.l1]
    rw [if_pos (by omega), bestK_succ, wrap_succ (n := us.length + 1) (by omega) (by omega)]
    by_cases c : (i : Int) > 0
    · have e : upK us i = rd us ((i : Int) - 1) := by unfold upK; rw [if_pos (by omega)]
      rw [if_pos c, wrap64_id (x := (i : Int) - 1) (by omega) (by omega), if_pos (by omega), if_pos (by omega), ← e]
      by_cases c2 : (i : Int) < (us.length : Int)
      · have e2 : downK s us i = s - rd us (i : Int) := by unfold downK; rw [if_pos (by omega)]
        have hq := rd_all hu i (by omega)
        rw [if_pos c2, if_pos (by omega), wrap64_id (x := s - _) (by omega) (by omega), ← e2, wrap64_id (x := upK us i + downK s us i) (by omega) (by omega), wrap64_id (x := 2 * _) (by omega) (by omega), show 2 * (upK us i + downK s us i) = costB (downK s us i) (upK us i) by unfold costB; omega, mn_min]
        exact ih
      · have e2 : downK s us i = 0 := by unfold downK; rw [if_neg (by omega)]
        rw [e2] at ih ⊢
        rw [if_neg c2, wrap64_id (x := upK us i) (by omega) (by omega), wrap64_id (x := 2 * _) (by omega) (by omega), show 2 * upK us i = costB 0 (upK us i) by unfold costB; omega, mn_min]
        exact ih
    · have e : upK us i = 0 := by unfold upK; rw [if_neg (by omega)]
      rw [e] at ih ⊢
      rw [if_neg c]
      by_cases c2 : (i : Int) < (us.length : Int)
      · have e2 : downK s us i = s - rd us (i : Int) := by unfold downK; rw [if_pos (by omega)]
        have hq := rd_all hu i (by omega)
        rw [if_pos c2, if_pos (by omega), wrap64_id (x := s - _) (by omega) (by omega), ← e2, wrap64_id (x := downK s us i) (by omega) (by omega), wrap64_id (x := 2 * _) (by omega) (by omega), show 2 * downK s us i = costB (downK s us i) 0 by unfold costB; omega, mn_min]
        exact ih
      · have e2 : downK s us i = 0 := by unfold downK; rw [if_neg (by omega)]
        rw [e2] at ih ⊢
        rw [if_neg c2, show (0 : Int) = costB 0 0 from rfl, mn_min]
        exact ih
theorem impl_Road_roundTrip_eq (k : Nat) (s : Int) (r : Bool) (p : Int) (l : List Int) (hs : 2 ≤ s ∧ s ≤ 24) (hp : 0 ≤ p ∧ p ≤ s - 1) (hl : l.length ≤ 100000) (hx : ∀ x ∈ l, 0 ≤ x ∧ x ≤ s - 1) (hk : l.length + 10 < k) : Q8.f k s r p l = some (wayM costB s r p l) := by
  unfold Q8.f
  have hub : ∀ u ∈ sortI (l.map (upM s r p)), -s ≤ u ∧ u < s := fun u h => by
    obtain ⟨q, hq, rfl⟩ := List.mem_map.1 ((sortI_mem _ _).1 h)
    exact upM_bd hs.1 hp (hx q hq)
  have hlen : (sortI (l.map (upM s r p))).length = l.length := by rw [sortI_len, List.length_map]
  rw [impl_mapped_roundTrip_eq k s r p l hs hp (by omega) hx (by omega), Option.bind_some]
  unfold Q45.f
  rw [if_pos (by rw [List.length_map]; omega), Option.bind_some]
  obtain ⟨k, rfl⟩ := succ_of (k := k) (by omega)
  cases r with
  | true =>
    rw [if_pos rfl]
    unfold Q59.f
    rw [Option.bind_some]
    simp only [Q8.j0]
    rw [if_pos trivial]
    have hl2 : ((sortI (l.map (upM s true p))).filter fun x => !(x == 0)).length ≤ l.length := Nat.le_trans (List.length_filter_le _ _) (by omega)
    have hu2 : ∀ u ∈ ((sortI (l.map (upM s true p))).filter fun x => !(x == 0)), 0 ≤ u ∧ u ≤ s - 1 := fun u h => by
      obtain ⟨q, hq, rfl⟩ := List.mem_map.1 ((sortI_mem _ _).1 (List.mem_filter.1 h).1)
      have := upRing_bd hs.1 hp (hx q hq)
      show 0 ≤ upRing s p q ∧ upRing s p q ≤ s - 1
      omega
    have e := impl_Road_roundTrip_l1 s true _ hs (by omega) hu2 (((sortI (l.map (upM s true p))).filter fun x => !(x == 0)).length + 1) 0 k s (by omega) (by omega)
    rw [bestK_all, ways_sorted costB s p l s hs.1 hp hx costB_mono (Int.le_refl _) (.inl rfl)] at e
    rw [wrap64_id (by omega) (by omega)]
    exact e
  | false =>
    rw [if_neg (by simp)]
    simp only [Q8.j0]
    rw [if_neg (by simp)]
    have e := impl_Road_roundTrip_l0 (sortI (l.map (upM s false p))) (by omega) (fun u h => by have := hub u h; omega) (sortI (l.map (upM s false p))).length 0 k 0 0 (by omega) (by omega) (by omega) (by omega)
    rw [show ((0 : Nat) : Int) = 0 from rfl, List.drop_zero, ways_line costB s p l] at e
    exact e
theorem impl_Road_tour_1_eq (s : Int) (r : Bool) (p q : Int) (hs : 2 ≤ s ∧ s ≤ 24) (hp : 0 ≤ p ∧ p ≤ s - 1) (hq : 0 ≤ q ∧ q ≤ s - 1) : Q79.f q s r p = some (upM s r p q) := by
  unfold Q79.f upM upRing
  rw [if_neg (show ¬ s = 0 by omega), wrap64_id (x := q - p) (by omega) (by omega), wrap64_id (x := q - p + s) (by omega) (by omega)]
  cases r <;> simp
theorem impl_mapped_tour_l0 (s : Int) (r : Bool) (p : Int) (l : List Int) (hs : 2 ≤ s ∧ s ≤ 24) (hp : 0 ≤ p ∧ p ≤ s - 1) (hl : l.length ≤ 1048576) (hx : ∀ x ∈ l, 0 ≤ x ∧ x ≤ s - 1) : ∀ (d i k : Nat) (acc : List Int), i + d = l.length → acc.length ≤ i → d < k →
    Q40.l0 k acc l (l.length : Int) (i : Int) s r p = some (acc ++ (l.drop i).map (upM s r p))
  | 0, i, k, acc, h, ha, hk => by
    obtain ⟨k, rfl⟩ := succ_of (k := k) (by omega)
    simp only [Q40.l0]
    rw [if_neg (by omega), drop_end l i (by omega)]
    simp
  | d + 1, i, k, acc, h, ha, hk => by
    obtain ⟨k, rfl⟩ := succ_of (k := k) (by omega)
    have hq := rd_all hx i (by omega)
    simp only [Q40.l0]
    rw [if_pos (by omega), if_pos (by omega), if_pos (by omega), impl_Road_tour_1_eq s r p _ hs hp hq, Option.bind_some, if_pos (by omega), wrap_succ (n := l.length) (by omega) (by omega), impl_mapped_tour_l0 s r p l hs hp hl hx d (i + 1) k _ (by omega) (by simp; omega) (by omega), drop_rd l i (by omega)]
    simp
theorem impl_mapped_tour_eq (k : Nat) (s : Int) (r : Bool) (p : Int) (l : List Int) (hs : 2 ≤ s ∧ s ≤ 24) (hp : 0 ≤ p ∧ p ≤ s - 1) (hl : l.length ≤ 1048576) (hx : ∀ x ∈ l, 0 ≤ x ∧ x ≤ s - 1) (hk : l.length < k) : Q40.f k l s r p = some (l.map (upM s r p)) := by
  unfold Q40.f
  have := impl_mapped_tour_l0 s r p l hs hp hl hx l.length 0 k [] (by omega) (by simp) hk
  simpa using this
theorem impl_Road_tour_3_eq (a b : Int) (ha : 0 ≤ a ∧ a ≤ 1000) (hb : 0 ≤ b ∧ b ≤ 1000) : Q23.f a b = some (costT b a) := by
  unfold Q23.f costT
  rw [mn_min, wrap64_id (x := a + b) (by omega) (by omega), wrap64_id (by omega) (by omega)]
  congr 1
  omega
theorem impl_Road_tour_l0 (us : List Int) (hl : us.length ≤ 1048576) (hu : ∀ u ∈ us, -24 ≤ u ∧ u ≤ 24) : ∀ (d i k : Nat) (a b : Int), i + d = us.length → 0 ≤ a ∧ a ≤ 24 → 0 ≤ b ∧ b ≤ 24 → d < k →
    Q4.l0 k a b us (us.length : Int) (i : Int) = some (costT (dnF (us.drop i) b) (upF (us.drop i) a))
  | 0, i, k, a, b, h, ha, hb, hk => by
    obtain ⟨k, rfl⟩ := succ_of (k := k) (by omega)
    simp only [Q4.l0]
    rw [if_neg (by omega), drop_end us i (by omega), impl_Road_tour_3_eq a b (by omega) (by omega), Option.bind_some]
    rfl
  | d + 1, i, k, a, b, h, ha, hb, hk => by
    obtain ⟨k, rfl⟩ := succ_of (k := k) (by omega)
    have hq := rd_all hu i (by omega)
    simp only [Q4.l0]
    rw [if_pos (by omega), if_pos (by omega), if_pos (by omega), wrap64_id (x := -_) (by omega) (by omega), mx_max, mx_max, wrap_succ (n := us.length) (by omega) (by omega), impl_Road_tour_l0 us hl hu d (i + 1) k _ _ (by omega) (by omega) (by omega) (by omega), drop_rd us i (by omega)]
    rfl
theorem impl_Road_tour_l1 (s : Int) (r : Bool) (us : List Int) (hs : 2 ≤ s ∧ s ≤ 24) (hl : us.length ≤ 1048576) (hu : ∀ u ∈ us, 0 ≤ u ∧ u ≤ s - 1) : ∀ (d i k : Nat) (best : Int), i + d = us.length + 1 → d < k →
    Q4.l1 k us best ((us.length : Int) + 1) (i : Int) s r = some (bestK s costT us i d best)
  | 0, i, k, best, h, hk => by
    obtain ⟨k, rfl⟩ := succ_of (k := k) (by omega)
    simp only [Q4.l1]
    rw [if_neg (by omega)]
    rfl
  | d + 1, i, k, best, h, hk => by
    obtain ⟨k, rfl⟩ := succ_of (k := k) (by omega)
    have hdn := downK_bd hs.1 hu i
    have hup := upK_bd hs.1 hu i (by omega)
    have ih := impl_Road_tour_l1 s r us hs hl hu d (i + 1) k (min best (costT (downK s us i) (upK us i))) (by omega) (by omega)
    simp only [Q4.l1]
    rw [if_pos (by omega), bestK_succ, wrap_succ (n := us.length + 1) (by omega) (by omega)]
    by_cases c : (i : Int) > 0
    · have e : upK us i = rd us ((i : Int) - 1) := by unfold upK; rw [if_pos (by omega)]
      rw [if_pos c, wrap64_id (x := (i : Int) - 1) (by omega) (by omega), if_pos (by omega), if_pos (by omega), ← e]
      by_cases c2 : (i : Int) < (us.length : Int)
      · have e2 : downK s us i = s - rd us (i : Int) := by unfold downK; rw [if_pos (by omega)]
        have hq := rd_all hu i (by omega)
        rw [if_pos c2, if_pos (by omega), wrap64_id (x := s - _) (by omega) (by omega), ← e2, impl_Road_tour_3_eq _ _ (by omega) (by omega), Option.bind_some, mn_min]
        exact ih
      · have e2 : downK s us i = 0 := by unfold downK; rw [if_neg (by omega)]
        rw [e2] at ih ⊢
        rw [if_neg c2, impl_Road_tour_3_eq _ _ (by omega) (by omega), Option.bind_some, mn_min]
        exact ih
    · have e : upK us i = 0 := by unfold upK; rw [if_neg (by omega)]
      rw [e] at ih ⊢
      rw [if_neg c]
      by_cases c2 : (i : Int) < (us.length : Int)
      · have e2 : downK s us i = s - rd us (i : Int) := by unfold downK; rw [if_pos (by omega)]
        have hq := rd_all hu i (by omega)
        rw [if_pos c2, if_pos (by omega), wrap64_id (x := s - _) (by omega) (by omega), ← e2, impl_Road_tour_3_eq _ _ (by omega) (by omega), Option.bind_some, mn_min]
        exact ih
      · have e2 : downK s us i = 0 := by unfold downK; rw [if_neg (by omega)]
        rw [e2] at ih ⊢
        rw [if_neg c2, impl_Road_tour_3_eq _ _ (by omega) (by omega), Option.bind_some, mn_min]
        exact ih
theorem impl_Road_tour_eq (k : Nat) (s : Int) (r : Bool) (p : Int) (l : List Int) (hs : 2 ≤ s ∧ s ≤ 24) (hp : 0 ≤ p ∧ p ≤ s - 1) (hl : l.length ≤ 100000) (hx : ∀ x ∈ l, 0 ≤ x ∧ x ≤ s - 1) (hk : l.length + 10 < k) : Q4.f k s r p l = some (wayM costT s r p l) := by
  unfold Q4.f
  have hub : ∀ u ∈ sortI (l.map (upM s r p)), -s ≤ u ∧ u < s := fun u h => by
    obtain ⟨q, hq, rfl⟩ := List.mem_map.1 ((sortI_mem _ _).1 h)
    exact upM_bd hs.1 hp (hx q hq)
  have hlen : (sortI (l.map (upM s r p))).length = l.length := by rw [sortI_len, List.length_map]
  rw [impl_mapped_tour_eq k s r p l hs hp (by omega) hx (by omega), Option.bind_some]
  unfold Q45.f
  rw [if_pos (by rw [List.length_map]; omega), Option.bind_some]
  obtain ⟨k, rfl⟩ := succ_of (k := k) (by omega)
  cases r with
  | true =>
    rw [if_pos rfl]
    unfold Q63.f
    rw [Option.bind_some]
    simp only [Q4.j0]
    rw [if_pos trivial]
    have hl2 : ((sortI (l.map (upM s true p))).filter fun x => !(x == 0)).length ≤ l.length := Nat.le_trans (List.length_filter_le _ _) (by omega)
    have hu2 : ∀ u ∈ ((sortI (l.map (upM s true p))).filter fun x => !(x == 0)), 0 ≤ u ∧ u ≤ s - 1 := fun u h => by
      obtain ⟨q, hq, rfl⟩ := List.mem_map.1 ((sortI_mem _ _).1 (List.mem_filter.1 h).1)
      have := upRing_bd hs.1 hp (hx q hq)
      show 0 ≤ upRing s p q ∧ upRing s p q ≤ s - 1
      omega
    have e := impl_Road_tour_l1 s true _ hs (by omega) hu2 (((sortI (l.map (upM s true p))).filter fun x => !(x == 0)).length + 1) 0 k 60 (by omega) (by omega)
    rw [bestK_all, ways_sorted costT s p l 60 hs.1 hp hx costT_mono (by omega) (.inr (fun d h0 h1 => by unfold costT; omega))] at e
    rw [wrap64_id (by omega) (by omega)]
    exact e
  | false =>
    rw [if_neg (by simp)]
    simp only [Q4.j0]
    rw [if_neg (by simp)]
    have e := impl_Road_tour_l0 (sortI (l.map (upM s false p))) (by omega) (fun u h => by have := hub u h; omega) (sortI (l.map (upM s false p))).length 0 k 0 0 (by omega) (by omega) (by omega) (by omega)
    rw [show ((0 : Nat) : Int) = 0 from rfl, List.drop_zero, ways_line costT s p l] at e
    exact e
def timeM (s : Int) (r : Bool) (p x : Int) (n : Nat) (back : Bool) : Int := wayM (if back = true then costB else costT) s r p (runL s x n)
theorem runL_in {s x : Int} {n : Nat} (hs : 2 ≤ s) (hx : 0 ≤ x) : ∀ y ∈ runL s x n, 0 ≤ y ∧ y ≤ s - 1 := by
  intro y hy
  unfold runL at hy
  obtain ⟨i, _, rfl⟩ := List.mem_map.1 hy
  rw [Int.tmod_eq_emod_of_nonneg (by omega)]
  have h1 := Int.emod_nonneg (x + (i : Int)) (show s ≠ 0 by omega)
  have h2 := Int.emod_lt_of_pos (x + (i : Int)) (show 0 < s by omega)
  omega
theorem spec_l6Time_eq (k : Nat) (s : Int) (r : Bool) (p x n : Int) (back : Bool) (hr : road s r = true) (hp : 0 ≤ p ∧ p ≤ s - 1) (hx : 0 ≤ x ∧ x ≤ s - 1) (hn : 0 ≤ n ∧ n ≤ s) (hk : 10000 < k) : Q16.f k s r p x n back = some (timeM s r p x n.toNat back) := by
  unfold Q16.f timeM
  have hs := road_bd hr
  have hin := runL_in (n := n.toNat) hs.1 hx.1
  have hlen := runL_len s x n.toNat
  rw [spec_l6Run_eq k s r x n ⟨hs.1, hs.2.1⟩ (by omega) (by omega) (by omega)]
  cases back with
  | true =>
    simp only [if_true, Option.bind_some]
    rw [spec_l6Back_eq k s r p _ ⟨hs.1, hs.2.1⟩ hp (by omega) hin hk, Option.bind_some]
  | false =>
    have ha : allIn (runL s x n.toNat) 0 (s - 1) = true := List.all_eq_true.2 (fun y h => inR_iff.2 (hin y h))
    rw [if_neg (by simp), if_neg (by simp), Option.bind_some, spec_TourTime_eq k s r p _ (by omega) (by omega), if_pos (by rw [hr, inR_iff.2 hp, ha]; rfl), Option.bind_some]
theorem spec_RunTime_eq (k : Nat) (s : Int) (r : Bool) (p x n : Int) (back : Bool) (hk : 10000 < k) : Q75.f k s r p x n back = some (if (road s r && inR p 0 (s - 1) && fits s r x n) = true then (timeM s r p x n.toNat back, true) else (0, false)) := by
  unfold Q75.f
  rw [spec_l2Place_eq, Option.bind_some, spec_l6Fits_eq, Option.bind_some]
  cases hr : road s r with
  | false => simp
  | true =>
    cases hp : inR p 0 (s - 1) with
    | false => simp
    | true =>
      cases hf : fits s r x n with
      | false => simp
      | true =>
        have hf' := hf
        unfold fits at hf'
        rw [Bool.and_eq_true, Bool.and_eq_true, inR_iff, inR_iff] at hf'
        simp only [Bool.and_self, if_true]
        rw [spec_l6Time_eq k s r p x n back hr (inR_iff.1 hp) hf'.1.1 hf'.1.2 hk, Option.bind_some]
theorem impl_Road_runTime_eq (k : Nat) (s : Int) (r : Bool) (p x n : Int) (back : Bool) (hr : road s r = true) (hp : 0 ≤ p ∧ p ≤ s - 1) (hx : 0 ≤ x ∧ x ≤ s - 1) (hn : 0 ≤ n ∧ n ≤ s) (hk : 10000 < k) : Q15.f k s r p x n back = some (timeM s r p x n.toNat back) := by
  unfold Q15.f timeM
  have hs := road_bd hr
  have hin := runL_in (n := n.toNat) hs.1 hx.1
  have hlen := runL_len s x n.toNat
  rw [impl_Road_run_eq k s r x n ⟨hs.1, hs.2.1⟩ (by omega) (by omega) (by omega)]
  cases back with
  | true =>
    simp only [if_true, Option.bind_some]
    rw [impl_Road_roundTrip_eq k s r p _ ⟨hs.1, hs.2.1⟩ hp (by omega) hin (by omega), Option.bind_some]
  | false =>
    rw [if_neg (by simp), if_neg (by simp), Option.bind_some, impl_Road_tour_eq k s r p _ ⟨hs.1, hs.2.1⟩ hp (by omega) hin (by omega), Option.bind_some]
theorem impl_RunTime_eq (k : Nat) (s : Int) (r : Bool) (p x n : Int) (back : Bool) (hk : 10000 < k) : Q36.f k s r p x n back = some (if (road s r && inR p 0 (s - 1) && fits s r x n) = true then (timeM s r p x n.toNat back, true) else (0, false)) := by
  unfold Q36.f
  rw [impl_IsRoad_eq, Option.bind_some]
  cases hr : road s r with
  | false => simp
  | true =>
    rw [if_pos rfl, impl_Road_has1 k s r p hr (by omega), Option.bind_some]
    cases hp : inR p 0 (s - 1) with
    | false => simp
    | true =>
      rw [if_pos rfl, impl_Road_isRun_eq k s r x n hr (by omega), Option.bind_some]
      cases hf : fits s r x n with
      | false => simp
      | true =>
        have hf' := hf
        unfold fits at hf'
        rw [Bool.and_eq_true, Bool.and_eq_true, inR_iff, inR_iff] at hf'
        simp only [Bool.and_self, if_true]
        rw [impl_Road_runTime_eq k s r p x n back hr (inR_iff.1 hp) hf'.1.1 hf'.1.2 hk, Option.bind_some]
theorem bestTo_mono {s : Int} {c : Int → Int → Int} (hs : 2 ≤ s) (hc : ∀ a b a' b', 0 ≤ a → 0 ≤ b → a ≤ a' → b ≤ b' → c a b ≤ c a' b') {fs gs : List Int} (h : ∀ f ∈ fs, f ∈ gs) (hg : ∀ f ∈ gs, f < s) : bestTo s c fs ≤ bestTo s c gs := by
  have H := (le_foldMin (fun i : Nat => c (leftAt s fs (i : Int)) (i : Int)) (bestTo s c fs) (List.range s.toNat) s).1 (Int.le_refl _)
  unfold bestTo at H ⊢
  rw [le_foldMin]
  refine ⟨H.1, fun i hi => Int.le_trans (H.2 i hi) (hc _ _ _ _ (leftAt_nn _ _ _) (by omega) (leftAt_le (leftAt_nn _ _ _) (fun f hf hlt => leftAt_ge (h f hf) hlt)) (Int.le_refl _))⟩
theorem wayM_mono {s : Int} {r : Bool} {c : Int → Int → Int} (hs : 2 ≤ s) (hc : ∀ a b a' b', 0 ≤ a → 0 ≤ b → a ≤ a' → b ≤ b' → c a b ≤ c a' b') {p : Int} (hp : 0 ≤ p ∧ p ≤ s - 1) {l l' : List Int} (h : ∀ x ∈ l, x ∈ l') (hx : ∀ x ∈ l', 0 ≤ x ∧ x ≤ s - 1) : wayM c s r p l ≤ wayM c s r p l' := by
  unfold wayM
  cases r with
  | true =>
    simp only [if_true]
    refine bestTo_mono hs hc (fun f hf => ?_) (fun f hf => ?_)
    · obtain ⟨q, hq, rfl⟩ := List.mem_map.1 hf
      exact List.mem_map.2 ⟨q, h q hq, rfl⟩
    · obtain ⟨q, hq, rfl⟩ := List.mem_map.1 hf
      exact (upRing_bd hs hp (hx q hq)).2
  | false =>
    rw [if_neg (by simp), if_neg (by simp)]
    have h1 := (foldMax_le (fun q => p - q) (leftL p l' 0) l' 0).1 (Int.le_refl _)
    have h2 := (foldMax_le (fun q => q - p) (rightL p l' 0) l' 0).1 (Int.le_refl _)
    have h3 := ((foldMax_le (fun q => p - q) (leftL p l 0) l 0).1 (Int.le_refl _)).1
    have h4 := ((foldMax_le (fun q => q - p) (rightL p l 0) l 0).1 (Int.le_refl _)).1
    exact hc _ _ _ _ h3 h4 ((foldMax_le _ _ l 0).2 ⟨h1.1, fun q hq => h1.2 q (h q hq)⟩) ((foldMax_le _ _ l 0).2 ⟨h2.1, fun q hq => h2.2 q (h q hq)⟩)
/-- The greatest number, from above. -/
def downM (P : Nat → Bool) : Nat → Nat
  | 0 => 0
  | n + 1 => if P (n + 1) = true then n + 1 else downM P n
/-- .. and from below. -/
def upM' (P : Nat → Bool) : Nat → Nat → Nat
  | 0, n => n
  | d + 1, n => if P (n + 1) = true then upM' P d (n + 1) else n
theorem downM_spec (P : Nat → Bool) : ∀ n, downM P n ≤ n ∧ (downM P n = 0 ∨ P (downM P n) = true) ∧ ∀ j, downM P n < j → j ≤ n → P j = false
  | 0 => ⟨Nat.le_refl _, .inl rfl, fun j h1 h2 => by simp [downM] at h1; omega⟩
  | n + 1 => by
    have ih := downM_spec P n
    unfold downM
    by_cases c : P (n + 1) = true
    · rw [if_pos c]
      exact ⟨Nat.le_refl _, .inr c, fun j h1 h2 => by omega⟩
    · rw [if_neg c]
      refine ⟨by omega, ih.2.1, fun j h1 h2 => ?_⟩
      rcases Nat.lt_or_ge n j with h | h
      · have : j = n + 1 := by omega
        subst this
        exact Bool.eq_false_iff.2 c
      · exact ih.2.2 j h1 h
theorem upM'_spec (P : Nat → Bool) : ∀ d n, (n = 0 ∨ P n = true) → n ≤ upM' P d n ∧ upM' P d n ≤ n + d ∧ (upM' P d n = 0 ∨ P (upM' P d n) = true) ∧ (upM' P d n = n + d ∨ P (upM' P d n + 1) = false)
  | 0, n, h => ⟨Nat.le_refl _, Nat.le_refl _, h, .inl rfl⟩
  | d + 1, n, h => by
    unfold upM'
    by_cases c : P (n + 1) = true
    · rw [if_pos c]
      have ih := upM'_spec P d (n + 1) (.inr c)
      exact ⟨by omega, by omega, ih.2.2.1, ih.2.2.2.imp (fun h => by omega) id⟩
    · rw [if_neg c]
      exact ⟨Nat.le_refl _, by omega, h, .inr (Bool.eq_false_iff.2 c)⟩
theorem up_down (P : Nat → Bool) (h : ∀ n, P (n + 1) = true → P n = true ∨ n = 0) (n : Nat) : upM' P n 0 = downM P n := by
  have anti : ∀ m j, j ≤ m → 0 < j → P m = true → P j = true := by
    intro m
    induction m with
    | zero => intro j h1 h2 _; omega
    | succ m ih =>
      intro j h1 h2 hp
      rcases Nat.lt_or_ge m j with h3 | h3
      · have : j = m + 1 := by omega
        subst this
        exact hp
      · rcases h m hp with h4 | h4
        · exact ih j h3 h2 h4
        · omega
  have h1 := downM_spec P n
  have h2 := upM'_spec P n 0 (.inl rfl)
  rcases Nat.lt_trichotomy (upM' P n 0) (downM P n) with h3 | h3 | h3
  · exfalso
    have hp : P (downM P n) = true := h1.2.1.resolve_left (by omega)
    have := anti _ (upM' P n 0 + 1) (by omega) (by omega) hp
    rcases h2.2.2.2 with h4 | h4
    · omega
    · rw [this] at h4; cases h4
  · exact h3
  · exfalso
    have hp : P (upM' P n 0) = true := h2.2.2.1.resolve_left (by omega)
    have := h1.2.2 _ h3 (by omega)
    rw [this] at hp
    cases hp
def fitB (s : Int) (r : Bool) (p x : Int) (back : Bool) (b : Int) (n : Nat) : Bool := decide (timeM s r p x n back ≤ b)
theorem runL_pre {s x : Int} {n m : Nat} (h : n ≤ m) : ∀ y ∈ runL s x n, y ∈ runL s x m := by
  intro y hy
  unfold runL at hy ⊢
  obtain ⟨i, hi, rfl⟩ := List.mem_map.1 hy
  exact List.mem_map.2 ⟨i, List.mem_range.2 (by have := List.mem_range.1 hi; omega), rfl⟩
theorem timeM_mono {s : Int} {r : Bool} {p x : Int} {back : Bool} {n m : Nat} (hs : 2 ≤ s) (hp : 0 ≤ p ∧ p ≤ s - 1) (hx : 0 ≤ x) (h : n ≤ m) : timeM s r p x n back ≤ timeM s r p x m back := by
  unfold timeM
  refine wayM_mono hs ?_ hp (runL_pre h) (runL_in hs hx)
  cases back
  · exact costT_mono
  · exact costB_mono
def nextM (s : Int) (r back : Bool) (starts budgets : List Int) (x done k : Int) : Nat := downM (fitB s r (rd starts k) (Int.tmod (x + done) s) back (rd budgets k)) (s - done).toNat
/-- What is taken in an order. -/
def takeM (s : Int) (r back : Bool) (starts budgets : List Int) (x : Int) : List Int → List Int → Int → List Int × Int
  | [], out, done => (out, done)
  | k :: ks, out, done => takeM s r back starts budgets x ks (out.set k.toNat (nextM s r back starts budgets x done k : Int)) (done + (nextM s r back starts budgets x done k : Int))
def lenX (s : Int) (r : Bool) (x : Nat) : Nat := if r = true then s.toNat else s.toNat - x
theorem fits_at (s : Int) (r : Bool) (x n : Nat) (hx : (x : Int) < s) : fits s r (x : Int) (n : Int) = decide (n ≤ lenX s r x) := by
  unfold fits lenX inR
  rw [Bool.eq_iff_iff]
  cases r <;> simp <;> omega
def rowM (s : Int) (r : Bool) (p : Int) (back : Bool) (x : Nat) : List Int := (List.range (lenX s r x + 1)).map fun n => timeM s r p (x : Int) n back
def tabM (s : Int) (r : Bool) (back : Bool) (p : Int) : List (List Int) := (List.range s.toNat).map fun x => rowM s r p back x
theorem newRuns_l2 (s : Int) (r back : Bool) (hr : road s r = true) (p : Int) (hp : 0 ≤ p ∧ p ≤ s - 1) (x : Nat) (hx : (x : Int) < s) (tb : List (List Int)) (htb : tb.length ≤ 1000) (a b c d0 e t0 : Int) (t1 : Bool) (st : List Int) (t2 : List (List (List Int))) : ∀ (d i k : Nat), i + d = lenX s r x + 1 → 10000 + d < k → ∃ k', k ≤ k' + d + 1 ∧
    Q11.l2 k back p tb (x : Int) ((List.range i).map fun n => timeM s r p (x : Int) n back) (i : Int) st a b c e s r t0 t1 t2 = Q11.l1 k' back p (tb ++ [rowM s r p back x]) st a b c (wrap64 (e + 1)) s r t0 t1 t2
  | 0, i, k, h, hk => by
    have hs := road_bd hr
    obtain ⟨k, rfl⟩ := succ_of (k := k) (by omega)
    refine ⟨k, by omega, ?_⟩
    have hL : lenX s r x ≤ s.toNat := by unfold lenX; split <;> omega
    obtain rfl : i = lenX s r x + 1 := by omega
    simp only [Q11.l2]
    by_cases c1 : ((lenX s r x + 1 : Nat) : Int) ≤ s
    · rw [if_pos c1, impl_Road_isRun_eq k s r _ _ hr (by omega), Option.bind_some, fits_at s r x _ hx, decide_eq_false (by omega), if_neg (by simp), if_pos (by omega)]
      rfl
    · rw [if_neg c1, if_pos (by omega)]
      rfl
  | d + 1, i, k, h, hk => by
    have hs := road_bd hr
    obtain ⟨k, rfl⟩ := succ_of (k := k) (by omega)
    have hL : lenX s r x ≤ s.toNat := by unfold lenX; split <;> omega
    obtain ⟨k', hk', e⟩ := newRuns_l2 s r back hr p hp x hx tb htb a b c d0 e t0 t1 st t2 d (i + 1) k (by omega) (by omega)
    refine ⟨k', by omega, ?_⟩
    simp only [Q11.l2]
    rw [if_pos (by omega), impl_Road_isRun_eq k s r _ _ hr (by omega), Option.bind_some, fits_at s r x _ hx, decide_eq_true (by omega), if_pos rfl, impl_Road_runTime_eq k s r p _ _ back hr hp (by omega) (by omega) (by omega), Option.bind_some, if_pos (by simp; omega), wrap_succ (n := s.toNat + 1) (by omega) (by omega), Int.toNat_natCast]
    rw [List.range_succ, List.map_append] at e
    exact e
theorem newRuns_l1 (s : Int) (r back : Bool) (hr : road s r = true) (p : Int) (hp : 0 ≤ p ∧ p ≤ s - 1) (a b t0 : Int) (t1 : Bool) (st : List Int) (t2 : List (List (List Int))) (ht2 : t2.length ≤ 1000) : ∀ (d x k : Nat), x + d = s.toNat → 10010 + 30 * d < k → ∃ k', k ≤ k' + 30 * d + 1 ∧
    Q11.l1 k back p ((List.range x).map fun x => rowM s r p back x) st a b s (x : Int) s r t0 t1 t2 = Q11.l0 k' back st a (wrap64 (b + 1)) s r t0 t1 (t2 ++ [tabM s r back p])
  | 0, x, k, h, hk => by
    obtain ⟨k, rfl⟩ := succ_of (k := k) (by omega)
    refine ⟨k, by omega, ?_⟩
    obtain rfl : x = s.toNat := by omega
    simp only [Q11.l1]
    rw [if_neg (by omega), if_pos (by omega)]
    rfl
  | d + 1, x, k, h, hk => by
    have hs := road_bd hr
    have hL : lenX s r x ≤ s.toNat := by unfold lenX; split <;> omega
    obtain ⟨k, rfl⟩ := succ_of (k := k) (by omega)
    obtain ⟨k1, hk1, e1⟩ := newRuns_l2 s r back hr p hp x (by omega) ((List.range x).map fun x => rowM s r p back x) (by simp; omega) a b s 0 (x : Int) t0 t1 st t2 (lenX s r x + 1) 0 k (by omega) (by omega)
    obtain ⟨k2, hk2, e2⟩ := newRuns_l1 s r back hr p hp a b t0 t1 st t2 ht2 d (x + 1) k1 (by omega) (by omega)
    refine ⟨k2, by omega, ?_⟩
    simp only [Q11.l1]
    rw [if_pos (by omega)]
    rw [show (([] : List Int)) = (List.range 0).map (fun n => timeM s r p (x : Int) n back) from rfl, show (0 : Int) = ((0 : Nat) : Int) from rfl, e1, wrap_succ (n := s.toNat) (by omega) (by omega)]
    rw [List.range_succ, List.map_append] at e2
    exact e2
theorem newRuns_l0 (s : Int) (r back : Bool) (hr : road s r = true) (st : List Int) (hl : st.length ≤ 4) (hx : ∀ p ∈ st, 0 ≤ p ∧ p ≤ s - 1) (t0 : Int) (t1 : Bool) : ∀ (d i k : Nat), i + d = st.length → 10020 + 1000 * d < k →
    Q11.l0 k back st (st.length : Int) (i : Int) s r t0 t1 ((st.take i).map (tabM s r back)) = some (t0, t1, st.map (tabM s r back))
  | 0, i, k, h, hk => by
    obtain ⟨k, rfl⟩ := succ_of (k := k) (by omega)
    simp only [Q11.l0]
    rw [if_neg (by omega), List.take_of_length_le (by omega)]
  | d + 1, i, k, h, hk => by
    have hs := road_bd hr
    obtain ⟨k, rfl⟩ := succ_of (k := k) (by omega)
    have hq := rd_all hx i (by omega)
    obtain ⟨k1, hk1, e1⟩ := newRuns_l1 s r back hr (rd st (i : Int)) hq (st.length : Int) (i : Int) t0 t1 st ((st.take i).map (tabM s r back)) (by simp; omega) s.toNat 0 k (by omega) (by omega)
    have e2 := newRuns_l0 s r back hr st hl hx t0 t1 d (i + 1) k1 (by omega) (by omega)
    simp only [Q11.l0]
    rw [if_pos (by omega), if_pos (by omega), if_pos (by omega)]
    rw [show (([] : List (List Int))) = (List.range 0).map (fun x => rowM s r (rd st (i : Int)) back x) from rfl, show (0 : Int) = ((0 : Nat) : Int) from rfl, e1, wrap_succ (n := st.length) (by omega) (by omega), ← e2, List.take_succ_eq_append_getElem (show i < st.length by omega), List.map_append, rd_nat st i (by omega)]
    rfl
theorem impl_newRuns_eq (k : Nat) (s : Int) (r back : Bool) (hr : road s r = true) (st : List Int) (hl : st.length ≤ 4) (hx : ∀ p ∈ st, 0 ≤ p ∧ p ≤ s - 1) (hk : 20000 < k) : Q11.f k s r st back = some (s, r, st.map (tabM s r back)) := by
  unfold Q11.f
  exact newRuns_l0 s r back hr st hl hx s r st.length 0 k (by omega) (by omega)
theorem rowM_rd (s : Int) (r : Bool) (p : Int) (back : Bool) (x n : Nat) (h : n ≤ lenX s r x) : rd (rowM s r p back x) (n : Int) = timeM s r p (x : Int) n back := by
  rw [rd_nat _ n (by unfold rowM; simp; omega)]
  unfold rowM
  simp
theorem rowM_len (s : Int) (r : Bool) (p : Int) (back : Bool) (x : Nat) : (rowM s r p back x).length = lenX s r x + 1 := by unfold rowM; simp
theorem tabM_rd (s : Int) (r back : Bool) (p x : Int) (h0 : 0 ≤ x) (h1 : x < s) : rd_L2 (tabM s r back p) x = rowM s r p back x.toNat := by
  unfold rd_L2 tabM
  rw [List.getD_eq_getElem?_getD, List.getElem?_map, List.getElem?_range (by omega)]
  rfl
theorem tabs_rd (s : Int) (r back : Bool) (st : List Int) (i : Int) (h0 : 0 ≤ i) (h1 : i < st.length) : rd_L3 (st.map (tabM s r back)) i = tabM s r back (rd st i) := by
  obtain ⟨j, rfl⟩ := Int.eq_ofNat_of_zero_le h0
  rw [rd_nat st j (by omega)]
  unfold rd_L3
  rw [List.getD_eq_getElem?_getD, List.getElem?_map, Int.toNat_natCast, List.getElem?_eq_getElem (by omega)]
  rfl
theorem pos_bd {s x done : Int} (hs : 2 ≤ s) (h : 0 ≤ x + done) : 0 ≤ Int.tmod (x + done) s ∧ Int.tmod (x + done) s < s := by
  rw [Int.tmod_eq_emod_of_nonneg h]
  exact ⟨Int.emod_nonneg _ (by omega), Int.emod_lt_of_pos _ (by omega)⟩
theorem pos_len {s x done : Int} {r : Bool} (hs : 2 ≤ s) (hx : 0 ≤ x ∧ x < s) (hd : 0 ≤ done ∧ done ≤ s) (hr : r = true ∨ x = 0) : (s - done).toNat ≤ lenX s r (Int.tmod (x + done) s).toNat := by
  unfold lenX
  cases r with
  | true => simp only [if_true]; omega
  | false =>
    rw [if_neg (by simp)]
    have hx0 : x = 0 := hr.resolve_left (by simp)
    subst hx0
    rcases Int.lt_or_le done s with h | h
    · rw [Int.zero_add, Int.tmod_eq_of_lt hd.1 h]
      omega
    · omega
theorem taken_l1 (s : Int) (r back : Bool) (hs : 2 ≤ s ∧ s ≤ 24) (p : Int) (x done i len idx : Int) (ps : Nat) (hd : 0 ≤ done ∧ done ≤ 1000) (bud out ord : List Int) (t2 : List (List (List Int))) (hi : 0 ≤ i ∧ i < bud.length) (ho : i < out.length) : ∀ (n k : Nat), n ≤ lenX s r ps → n + 1 < k → ∃ k', k ≤ k' + n + 1 ∧
    Q18.l1 k bud x out done i (rowM s r p back ps) (n : Int) ord len idx s r t2 = Q18.l0 k' bud x (out.set i.toNat (downM (fitB s r p (ps : Int) back (rd bud i)) n : Int)) (done + (downM (fitB s r p (ps : Int) back (rd bud i)) n : Int)) ord len (wrap64 (idx + 1)) s r t2
  | 0, k, h, hk => by
    obtain ⟨k, rfl⟩ := succ_of (k := k) (by omega)
    refine ⟨k, by omega, ?_⟩
    simp only [Q18.l1]
    rw [if_neg (by omega), if_pos hi.1, if_pos ho]
    simp only [downM]
    rw [wrap64_id (x := done + _) (by omega) (by omega)]
  | n + 1, k, h, hk => by
    obtain ⟨k, rfl⟩ := succ_of (k := k) (by omega)
    have hL : lenX s r ps ≤ s.toNat := by unfold lenX; split <;> omega
    obtain ⟨k', hk', e⟩ := taken_l1 s r back hs p x done i len idx ps hd bud out ord t2 hi ho n k (by omega) (by omega)
    simp only [Q18.l1]
    have hw : wrap64 (((n + 1 : Nat) : Int) - 1) = (n : Int) := by rw [wrap64_id (by omega) (by omega)]; omega
    rw [if_pos (by omega), if_pos (by omega), if_pos (by rw [rowM_len]; omega), if_pos hi.1, if_pos hi.2, rowM_rd s r p back ps (n + 1) h, hw]
    simp only [downM]
    by_cases c : timeM s r p (ps : Int) (n + 1) back ≤ rd bud i
    · have cf : fitB s r p (ps : Int) back (rd bud i) (n + 1) = true := by unfold fitB; exact decide_eq_true c
      refine ⟨k, by omega, ?_⟩
      rw [if_neg (by omega), if_pos ho, cf, if_pos rfl, wrap64_id (x := done + _) (by omega) (by omega)]
    · have cf : fitB s r p (ps : Int) back (rd bud i) (n + 1) = false := by unfold fitB; exact decide_eq_false c
      refine ⟨k', by omega, ?_⟩
      rw [if_pos (by omega), cf, if_neg (by simp)]
      exact e
theorem nextM_le (s : Int) (r back : Bool) (st bud : List Int) (x done k : Int) (hd : done ≤ s) : (nextM s r back st bud x done k : Int) ≤ s - done := by
  have := (downM_spec (fitB s r (rd st k) (Int.tmod (x + done) s) back (rd bud k)) (s - done).toNat).1
  unfold nextM
  omega
theorem taken_l0 (s : Int) (r back : Bool) (hs : 2 ≤ s ∧ s ≤ 24) (st bud ord : List Int) (x : Int) (hx : 0 ≤ x ∧ x < s) (hr : r = true ∨ x = 0) (hb : bud.length = st.length) (hst : st.length ≤ 4) (hol : ord.length ≤ 4) (hord : ∀ k ∈ ord, 0 ≤ k ∧ k < st.length) : ∀ (d i k : Nat) (out : List Int) (done : Int), i + d = ord.length → 0 ≤ done ∧ done ≤ s → out.length = st.length → 100 * d + 10 < k →
    Q18.l0 k bud x out done ord (ord.length : Int) (i : Int) s r (st.map (tabM s r back)) = some ((takeM s r back st bud x (ord.drop i) out done).1, (takeM s r back st bud x (ord.drop i) out done).2 == s)
  | 0, i, k, out, done, h, hd, ho, hk => by
    obtain ⟨k, rfl⟩ := succ_of (k := k) (by omega)
    simp only [Q18.l0]
    rw [if_neg (by omega), drop_end ord i (by omega)]
    rfl
  | d + 1, i, k, out, done, h, hd, ho, hk => by
    obtain ⟨k, rfl⟩ := succ_of (k := k) (by omega)
    have hq := rd_all hord i (by omega)
    have hp := pos_bd (s := s) (x := x) (done := done) hs.1 (by omega)
    have hpl := pos_len (r := r) hs.1 hx hd hr
    have hL : lenX s r (Int.tmod (x + done) s).toNat ≤ s.toNat := by unfold lenX; split <;> omega
    have hpn : (((Int.tmod (x + done) s).toNat : Nat) : Int) = Int.tmod (x + done) s := Int.toNat_of_nonneg hp.1
    obtain ⟨k1, hk1, e1⟩ := taken_l1 s r back hs (rd st (rd ord (i : Int))) x done (rd ord (i : Int)) (ord.length : Int) (i : Int) (Int.tmod (x + done) s).toNat (by omega) bud out ord (st.map (tabM s r back)) (by omega) (by omega) (s - done).toNat k hpl (by omega)
    have hnl := nextM_le s r back st bud x done (rd ord (i : Int)) hd.2
    rw [hpn, Int.toNat_of_nonneg (show 0 ≤ s - done by omega)] at e1
    have e2 := taken_l0 s r back hs st bud ord x hx hr hb hst hol hord d (i + 1) k1 (out.set (rd ord (i : Int)).toNat (nextM s r back st bud x done (rd ord (i : Int)) : Int)) (done + (nextM s r back st bud x done (rd ord (i : Int)) : Int)) (by omega) (by omega) (by rw [List.length_set]; exact ho) (by omega)
    simp only [Q18.l0]
    rw [if_pos (by omega), if_pos (by omega), if_pos (by omega), if_pos hq.1, if_pos (by rw [List.length_map]; exact hq.2), if_neg (by omega), wrap64_id (x := x + done) (by omega) (by omega), if_pos hp.1, tabs_rd s r back st _ hq.1 hq.2, if_pos (by unfold tabM; simp; omega), tabM_rd s r back _ _ hp.1 hp.2, wrap64_id (x := s - done) (by omega) (by omega), e1, wrap_succ (n := ord.length) (by omega) (by omega), drop_rd ord i (by omega)]
    exact e2
theorem impl_taken_eq (k : Nat) (s : Int) (r back : Bool) (hs : 2 ≤ s ∧ s ≤ 24) (st bud ord : List Int) (x : Int) (hx : 0 ≤ x ∧ x < s) (hr : r = true ∨ x = 0) (hb : bud.length = st.length) (hst : st.length ≤ 4) (hol : ord.length ≤ 4) (hord : ∀ k ∈ ord, 0 ≤ k ∧ k < st.length) (hk : 500 < k) :
    Q18.f k s r (st.map (tabM s r back)) bud x ord = some ((takeM s r back st bud x ord (List.replicate st.length 0) 0).1, (takeM s r back st bud x ord (List.replicate st.length 0) 0).2 == s) := by
  unfold Q18.f
  rw [if_pos (by omega), if_pos (by omega), hb, Int.toNat_natCast]
  exact taken_l0 s r back hs st bud ord x hx hr hb hst hol hord ord.length 0 k _ 0 (by omega) (by omega) (by simp) (by omega)
theorem fitB_anti (s : Int) (r : Bool) (p x : Int) (back : Bool) (b : Int) (hs : 2 ≤ s) (hp : 0 ≤ p ∧ p ≤ s - 1) (hx : 0 ≤ x) : ∀ n, fitB s r p x back b (n + 1) = true → fitB s r p x back b n = true ∨ n = 0 := by
  intro n h
  left
  unfold fitB at h ⊢
  have := timeM_mono (r := r) (back := back) hs hp hx (show n ≤ n + 1 by omega)
  have h := of_decide_eq_true h
  exact decide_eq_true (by omega)
theorem spec_taken_l1 (s : Int) (r back : Bool) (hr : road s r = true) (st bud ord out : List Int) (x done i idx : Int) (hx : 0 ≤ x ∧ x < s) (hd : 0 ≤ done ∧ done ≤ s) (hst : ∀ p ∈ st, 0 ≤ p ∧ p ≤ s - 1) (hi : 0 ≤ i ∧ i < st.length) (hb : bud.length = st.length) (ho : i < out.length) : ∀ (d n k : Nat), n + d = (s - done).toNat → 10001 + d < k → ∃ k', k ≤ k' + d + 1 ∧
    Q3.l1 k st bud x ord back out done idx i (n : Int) s r = Q3.l0 k' st bud x ord back (out.set i.toNat (upM' (fitB s r (rd st i) (Int.tmod (x + done) s) back (rd bud i)) d n : Int)) (done + (upM' (fitB s r (rd st i) (Int.tmod (x + done) s) back (rd bud i)) d n : Int)) (wrap64 (idx + 1)) s r
  | 0, n, k, h, hk => by
    have hs := road_bd hr
    obtain ⟨k, rfl⟩ := succ_of (k := k) (by omega)
    refine ⟨k, by omega, ?_⟩
    simp only [Q3.l1, upM']
    rw [wrap64_id (x := done + n) (by omega) (by omega), if_neg (by omega), if_pos hi.1, if_pos ho]
  | d + 1, n, k, h, hk => by
    have hs := road_bd hr
    obtain ⟨k, rfl⟩ := succ_of (k := k) (by omega)
    have hp := pos_bd (s := s) (x := x) (done := done) hs.1 (by omega)
    obtain ⟨j, hj⟩ := Int.eq_ofNat_of_zero_le hi.1
    have hq : 0 ≤ rd st i ∧ rd st i ≤ s - 1 := by rw [hj]; exact rd_all hst j (by omega)
    obtain ⟨k', hk', e⟩ := spec_taken_l1 s r back hr st bud ord out x done i idx hx hd hst hi hb ho d (n + 1) k (by omega) (by omega)
    simp only [Q3.l1, upM']
    rw [wrap64_id (x := done + n) (by omega) (by omega), if_pos (by omega), if_pos hi.1, if_pos hi.2, if_neg (by omega), wrap64_id (x := x + done) (by omega) (by omega), wrap_succ (n := (s - done).toNat) (by omega) (by omega), spec_l6Time_eq k s r _ _ _ back hr hq (by omega) (by omega) (by omega), Option.bind_some, if_pos (by omega), Int.toNat_natCast]
    by_cases c : timeM s r (rd st i) (Int.tmod (x + done) s) (n + 1) back ≤ rd bud i
    · have cf : fitB s r (rd st i) (Int.tmod (x + done) s) back (rd bud i) (n + 1) = true := by unfold fitB; exact decide_eq_true c
      refine ⟨k', by omega, ?_⟩
      rw [if_pos c, cf, if_pos rfl]
      exact e
    · have cf : fitB s r (rd st i) (Int.tmod (x + done) s) back (rd bud i) (n + 1) = false := by unfold fitB; exact decide_eq_false c
      refine ⟨k, by omega, ?_⟩
      rw [if_neg c, if_pos ho, cf, if_neg (by simp)]
theorem spec_taken_l0 (s : Int) (r back : Bool) (hr : road s r = true) (st bud ord : List Int) (x : Int) (hx : 0 ≤ x ∧ x < s) (hst : ∀ p ∈ st, 0 ≤ p ∧ p ≤ s - 1) (hb : bud.length = st.length) (hol : ord.length ≤ 4) (hord : ∀ k ∈ ord, 0 ≤ k ∧ k < st.length) : ∀ (d i k : Nat) (out : List Int) (done : Int), i + d = ord.length → 0 ≤ done ∧ done ≤ s → out.length = st.length → 10010 + 100 * d < k →
    Q3.l0 k st bud x ord back out done (i : Int) s r = some (takeM s r back st bud x (ord.drop i) out done)
  | 0, i, k, out, done, h, hd, ho, hk => by
    obtain ⟨k, rfl⟩ := succ_of (k := k) (by omega)
    simp only [Q3.l0]
    rw [if_neg (by omega), drop_end ord i (by omega)]
    rfl
  | d + 1, i, k, out, done, h, hd, ho, hk => by
    have hs := road_bd hr
    obtain ⟨k, rfl⟩ := succ_of (k := k) (by omega)
    have hq := rd_all hord i (by omega)
    obtain ⟨j, hj⟩ := Int.eq_ofNat_of_zero_le hq.1
    have hp := pos_bd (s := s) (x := x) (done := done) hs.1 (by omega)
    have hp2 : 0 ≤ rd st (rd ord (i : Int)) ∧ rd st (rd ord (i : Int)) ≤ s - 1 := by rw [hj]; exact rd_all hst j (by omega)
    obtain ⟨k1, hk1, e1⟩ := spec_taken_l1 s r back hr st bud ord out x done (rd ord (i : Int)) (i : Int) hx hd hst hq hb (by omega) (s - done).toNat 0 k (by omega) (by omega)
    have hnl := nextM_le s r back st bud x done (rd ord (i : Int)) hd.2
    have e2 := spec_taken_l0 s r back hr st bud ord x hx hst hb hol hord d (i + 1) k1 (out.set (rd ord (i : Int)).toNat (nextM s r back st bud x done (rd ord (i : Int)) : Int)) (done + (nextM s r back st bud x done (rd ord (i : Int)) : Int)) (by omega) (by omega) (by rw [List.length_set]; exact ho) (by omega)
    rw [up_down _ (fitB_anti s r _ _ back _ hs.1 hp2 hp.1)] at e1
    simp only [Q3.l0]
    rw [if_pos (by omega), if_pos (by omega)]
    rw [show ((0 : Nat) : Int) = 0 from rfl] at e1
    rw [e1, wrap_succ (n := ord.length) (by omega) (by omega), drop_rd ord i (by omega)]
    exact e2
theorem spec_taken_eq (k : Nat) (s : Int) (r back : Bool) (hr : road s r = true) (st bud ord : List Int) (x : Int) (hx : 0 ≤ x ∧ x < s) (hst : ∀ p ∈ st, 0 ≤ p ∧ p ≤ s - 1) (hsl : st.length ≤ 4) (hb : bud.length = st.length) (hol : ord.length ≤ 4) (hord : ∀ k ∈ ord, 0 ≤ k ∧ k < st.length) (hk : 11000 < k) :
    Q3.f k s r st bud x ord back = some (takeM s r back st bud x ord (List.replicate st.length 0) 0) := by
  have hs := road_bd hr
  unfold Q3.f
  rw [if_pos (by omega), if_pos (by omega), Int.toNat_natCast]
  exact spec_taken_l0 s r back hr st bud ord x hx hst hb hol hord ord.length 0 k _ 0 (by omega) (by omega) (by simp) (by omega)
theorem spec_own_eq (l : List Int) (hl : l.length ≤ 1000) : Q78.f l = some l := by
  unfold Q78.f
  rw [Option.bind_some, if_pos (by simp; omega)]
  rfl
theorem spec_orders (n : Nat) (hn : n ≤ 4) : ∀ (d : Nat) (xs : List Int) (k : Nat), xs.length + d = n → 10 * (d + 1) + 20 < k → Q22.f k (n : Int) xs = some (ordL n d xs)
  | 0, xs, k, h, hk => by
    obtain ⟨k, rfl⟩ := succ_of (k := k) (by omega)
    simp only [Q22.f]
    rw [if_pos (by omega)]
    rfl
  | d + 1, xs, k, h, hk => by
    obtain ⟨k, rfl⟩ := succ_of (k := k) (by omega)
    have hl : ∀ (e i k : Nat), i + e = n → 10 * (d + 1) + 20 + e < k → Q22.l0 k (n : Int) xs (ordP n d xs i) (i : Int) = some (ordP n d xs n) := by
      intro e
      induction e with
      | zero =>
        intro i k h1 h2
        obtain ⟨k, rfl⟩ := succ_of (k := k) (by omega)
        obtain rfl : i = n := by omega
        simp only [Q22.l0]
        rw [if_neg (by omega)]
      | succ e ih =>
        intro i k h1 h2
        obtain ⟨k, rfl⟩ := succ_of (k := k) (by omega)
        have hp := ordP_len n hn d xs i
        have hq := ordL_len n hn d (xs ++ [(i : Int)])
        have h4 : (4 : Nat) ^ d ≤ 4 ^ 4 := Nat.pow_le_pow_right (by omega) (by omega)
        have h5 : i * 4 ^ d ≤ 4 * 4 ^ 4 := Nat.mul_le_mul (by omega) h4
        have ih' := ih (i + 1) k (by omega) (by omega)
        rw [ordP_succ] at ih'
        simp only [Q22.l0]
        rw [if_pos (by omega), spec_l1Has_eq k _ xs (by omega) (by omega), Option.bind_some]
        by_cases c : (xs.any fun y => decide (y = (i : Int))) = true
        · rw [if_pos c, wrap_succ (n := n) (by omega) (by omega)]
          rw [if_pos c, List.append_nil] at ih'
          exact ih'
        · rw [if_neg c, spec_own_eq xs (by omega), Option.bind_some, if_pos (by omega), spec_orders n hn d (xs ++ [(i : Int)]) k (by simp; omega) (by omega), Option.bind_some, if_pos (by omega), wrap_succ (n := n) (by omega) (by omega)]
          rw [if_neg c] at ih'
          exact ih'
    simp only [Q22.f]
    rw [if_neg (by omega)]
    exact hl n 0 k (by omega) (by omega)
theorem impl_orders (k n : Nat) (hn : n ≤ 4) : Q55.f k (n : Int) = some (ordL n n []) := by
  unfold Q55.f
  rw [if_pos (by omega), Int.toNat_natCast]
theorem ordL_mem (n : Nat) : ∀ (d : Nat) (xs : List Int), xs.length + d = n → (∀ k ∈ xs, 0 ≤ k ∧ k < (n : Int)) → ∀ o ∈ ordL n d xs, o.length = n ∧ ∀ k ∈ o, 0 ≤ k ∧ k < (n : Int)
  | 0, xs, h, hx, o, ho => by
    simp only [ordL, List.mem_singleton] at ho
    subst ho
    exact ⟨by omega, hx⟩
  | d + 1, xs, h, hx, o, ho => by
    simp only [ordL, List.mem_flatMap, List.mem_range] at ho
    obtain ⟨i, hi, ho⟩ := ho
    split at ho
    · simp at ho
    · refine ordL_mem n d (xs ++ [(i : Int)]) (by simp; omega) (fun k hk => ?_) o ho
      rcases List.mem_append.1 hk with h1 | h1
      · exact hx k h1
      · rw [List.mem_singleton.1 h1]
        omega
def okO (s : Int) (r back : Bool) (st bud : List Int) (x : Int) (o : List Int) : Bool := (takeM s r back st bud x o (List.replicate st.length 0) 0).2 == s
def firstX (P : Int → List Int → Bool) (os : List (List Int)) : Nat → Nat → Option (Int × List Int)
  | 0, _ => none
  | d + 1, x => match os.find? (P (x : Int)) with
    | some o => some ((x : Int), o)
    | none => firstX P os d (x + 1)
def leftX (s : Int) (r : Bool) (x : Nat) : Nat := if r = true then s.toNat - x else if x = 0 then 1 else 0
theorem rdL_nat (os : List (List Int)) (i : Nat) (h : i < os.length) : rd_L2 os (i : Int) = os[i] := by
  unfold rd_L2
  rw [List.getD_eq_getElem?_getD, Int.toNat_natCast, List.getElem?_eq_getElem h]
  rfl
theorem spec_first_l1 (s : Int) (r back : Bool) (hr : road s r = true) (st bud : List Int) (hst : ∀ p ∈ st, 0 ≤ p ∧ p ≤ s - 1) (hsl : st.length ≤ 4) (hb : bud.length = st.length) (os : List (List Int)) (hos : ∀ o ∈ os, o.length ≤ 4 ∧ ∀ k ∈ o, 0 ≤ k ∧ k < st.length) (hol : os.length ≤ 1000) (x : Int) (hx : 0 ≤ x ∧ x < s) : ∀ (d i k : Nat), i + d = os.length → 12000 + d < k →
    (∃ o, (os.drop i).find? (okO s r back st bud x) = some o ∧ Q9.l1 k st bud back os x (i : Int) s r = some (x, o)) ∨ ((os.drop i).find? (okO s r back st bud x) = none ∧ ∃ k', k ≤ k' + d + 1 ∧ Q9.l1 k st bud back os x (i : Int) s r = Q9.l0 k' st bud back os (wrap64 (x + 1)) s r)
  | 0, i, k, h, hk => by
    obtain ⟨k, rfl⟩ := succ_of (k := k) (by omega)
    refine .inr ⟨by rw [drop_end os i (by omega)]; rfl, k, by omega, ?_⟩
    simp only [Q9.l1]
    rw [if_neg (by omega)]
  | d + 1, i, k, h, hk => by
    obtain ⟨k, rfl⟩ := succ_of (k := k) (by omega)
    have hi : i < os.length := by omega
    have ho := hos _ (List.getElem_mem hi)
    simp only [Q9.l1]
    rw [if_pos (by omega), if_pos (by omega), rdL_nat os i hi, spec_taken_eq k s r back hr st bud _ x hx hst hsl hb ho.1 ho.2 (by omega), Option.bind_some, List.drop_eq_getElem_cons hi, List.find?_cons]
    by_cases c : (takeM s r back st bud x os[i] (List.replicate st.length 0) 0).2 = s
    · have cb : okO s r back st bud x os[i] = true := by unfold okO; exact beq_iff_eq.2 c
      rw [if_pos c, cb]
      exact .inl ⟨os[i], rfl, rfl⟩
    · have cb : okO s r back st bud x os[i] = false := by unfold okO; exact beq_eq_false_iff_ne.2 c
      rw [if_neg c, cb, wrap_succ (n := os.length) (by omega) (by omega)]
      rcases spec_first_l1 s r back hr st bud hst hsl hb os hos hol x hx d (i + 1) k (by omega) (by omega) with h1 | ⟨h1, k', hk', e⟩
      · exact .inl h1
      · exact .inr ⟨h1, k', by omega, e⟩
theorem spec_first_l0 (s : Int) (r back : Bool) (hr : road s r = true) (st bud : List Int) (hst : ∀ p ∈ st, 0 ≤ p ∧ p ≤ s - 1) (hsl : st.length ≤ 4) (hb : bud.length = st.length) (os : List (List Int)) (hos : ∀ o ∈ os, o.length ≤ 4 ∧ ∀ k ∈ o, 0 ≤ k ∧ k < st.length) (hol : os.length ≤ 1000) : ∀ (d x k : Nat), x + d = s.toNat → 13000 + 1010 * d < k →
    Q9.l0 k st bud back os (x : Int) s r = some (match firstX (okO s r back st bud) os (leftX s r x) x with | some z => z | none => (-1, []))
  | 0, x, k, h, hk => by
    have hs := road_bd hr
    obtain ⟨k, rfl⟩ : ∃ k', k = k' + 1 + 1 := ⟨k - 2, by omega⟩
    have hl : leftX s r x = 0 := by unfold leftX; split <;> (try split) <;> omega
    simp only [Q9.l0, Q9.j1]
    rw [if_neg (by omega), if_neg (by simp), hl]
    rfl
  | d + 1, x, k, h, hk => by
    have hs := road_bd hr
    obtain ⟨k, rfl⟩ : ∃ k', k = k' + 1 + 1 := ⟨k - 2, by omega⟩
    have step : ∀ m, leftX s r x = m + 1 → m = leftX s r (x + 1) → Q9.l1 k st bud back os (x : Int) 0 s r = some (match firstX (okO s r back st bud) os (leftX s r x) x with | some z => z | none => (-1, [])) := by
      intro m hm hm2
      rw [hm]
      simp only [firstX]
      have h0 := spec_first_l1 s r back hr st bud hst hsl hb os hos hol (x : Int) (by omega) os.length 0 k (by omega) (by omega)
      rw [List.drop_zero, show ((0 : Nat) : Int) = 0 from rfl] at h0
      rcases h0 with ⟨o, h1, e⟩ | ⟨h1, k', hk', e⟩
      · rw [h1, e]
      · rw [h1, e, wrap_succ (n := s.toNat) (by omega) (by omega), spec_first_l0 s r back hr st bud hst hsl hb os hos hol d (x + 1) k' (by omega) (by omega), ← hm2]
    simp only [Q9.l0, Q9.j1]
    rw [if_pos (by omega)]
    cases r with
    | true =>
      have hl : leftX s true x = (s.toNat - (x + 1)) + 1 := by unfold leftX; simp; omega
      have := step _ hl (by unfold leftX; simp)
      by_cases c : (x : Int) = 0
      · rw [if_pos c, if_pos trivial]; exact this
      · rw [if_neg c, if_pos rfl]; exact this
    | false =>
      by_cases c : (x : Int) = 0
      · have hx0 : x = 0 := by omega
        have hl : leftX s false x = 0 + 1 := by unfold leftX; simp [hx0]
        rw [if_pos c, if_pos trivial]
        exact step _ hl (by unfold leftX; simp)
      · have hx0 : ¬ x = 0 := by omega
        have hl : leftX s false x = 0 := by unfold leftX; simp [hx0]
        rw [if_neg c, if_neg (by simp), hl]
        rfl
theorem impl_first_l1 (s : Int) (r back : Bool) (hs : 2 ≤ s ∧ s ≤ 24) (st bud : List Int) (hsl : st.length ≤ 4) (hb : bud.length = st.length) (os : List (List Int)) (hos : ∀ o ∈ os, o.length ≤ 4 ∧ ∀ k ∈ o, 0 ≤ k ∧ k < st.length) (hol : os.length ≤ 1000) (x a b : Int) (hx : 0 ≤ x ∧ x < s) (hrx : r = true ∨ x = 0) : ∀ (d i k : Nat), i + d = os.length → 1000 + d < k →
    (∃ o, (os.drop i).find? (okO s r back st bud x) = some o ∧ Q17.l1 k bud os x a b os (os.length : Int) (i : Int) s r (st.map (tabM s r back)) = some (x, o, true)) ∨ ((os.drop i).find? (okO s r back st bud x) = none ∧ ∃ k', k ≤ k' + d + 1 ∧ Q17.l1 k bud os x a b os (os.length : Int) (i : Int) s r (st.map (tabM s r back)) = Q17.l0 k' bud os a (wrap64 (b + 1)) s r (st.map (tabM s r back)))
  | 0, i, k, h, hk => by
    obtain ⟨k, rfl⟩ := succ_of (k := k) (by omega)
    refine .inr ⟨by rw [drop_end os i (by omega)]; rfl, k, by omega, ?_⟩
    simp only [Q17.l1]
    rw [if_neg (by omega)]
  | d + 1, i, k, h, hk => by
    obtain ⟨k, rfl⟩ := succ_of (k := k) (by omega)
    have hi : i < os.length := by omega
    have ho := hos _ (List.getElem_mem hi)
    simp only [Q17.l1]
    rw [if_pos (by omega), if_pos (by omega), if_pos (by omega), rdL_nat os i hi, impl_taken_eq k s r back hs st bud _ x hx hrx hb hsl ho.1 ho.2 (by omega), Option.bind_some, List.drop_eq_getElem_cons hi, List.find?_cons]
    show (∃ o, (match okO s r back st bud x os[i] with | true => some os[i] | false => _) = some o ∧ (if okO s r back st bud x os[i] = true then _ else _) = _) ∨ ((match okO s r back st bud x os[i] with | true => some os[i] | false => _) = none ∧ ∃ k', k + 1 ≤ k' + (d + 1) + 1 ∧ (if okO s r back st bud x os[i] = true then _ else _) = _)
    cases cb : okO s r back st bud x os[i] with
    | true => exact .inl ⟨os[i], rfl, rfl⟩
    | false =>
      rw [wrap_succ (n := os.length) (by omega) (by omega)]
      rcases impl_first_l1 s r back hs st bud hsl hb os hos hol x a b hx hrx d (i + 1) k (by omega) (by omega) with h1 | ⟨h1, k', hk', e⟩
      · exact .inl (by simpa using h1)
      · exact .inr ⟨h1, k', by omega, by simpa using e⟩
theorem impl_first_l0 (s : Int) (r back : Bool) (hs : 2 ≤ s ∧ s ≤ 24) (st bud : List Int) (hsl : st.length ≤ 4) (hb : bud.length = st.length) (os : List (List Int)) (hos : ∀ o ∈ os, o.length ≤ 4 ∧ ∀ k ∈ o, 0 ≤ k ∧ k < st.length) (hol : os.length ≤ 1000) : ∀ (d x k : Nat), x + d = s.toNat → 2000 + 1010 * d < k →
    Q17.l0 k bud os s (x : Int) s r (st.map (tabM s r back)) = some (match firstX (okO s r back st bud) os (leftX s r x) x with | some z => (z.1, z.2, true) | none => (0, [], false))
  | 0, x, k, h, hk => by
    obtain ⟨k, rfl⟩ : ∃ k', k = k' + 1 + 1 := ⟨k - 2, by omega⟩
    have hl : leftX s r x = 0 := by unfold leftX; split <;> (try split) <;> omega
    simp only [Q17.l0]
    rw [if_neg (by omega), hl]
    rfl
  | d + 1, x, k, h, hk => by
    obtain ⟨k, rfl⟩ : ∃ k', k = k' + 1 + 1 := ⟨k - 2, by omega⟩
    have step : ∀ m, leftX s r x = m + 1 → m = leftX s r (x + 1) → (r = true ∨ (x : Int) = 0) → Q17.l1 k bud os (x : Int) s (x : Int) os (os.length : Int) 0 s r (st.map (tabM s r back)) = some (match firstX (okO s r back st bud) os (leftX s r x) x with | some z => (z.1, z.2, true) | none => (0, [], false)) := by
      intro m hm hm2 hrx
      rw [hm]
      simp only [firstX]
      have h0 := impl_first_l1 s r back hs st bud hsl hb os hos hol (x : Int) s (x : Int) (by omega) hrx os.length 0 k (by omega) (by omega)
      rw [List.drop_zero, show ((0 : Nat) : Int) = 0 from rfl] at h0
      rcases h0 with ⟨o, h1, e⟩ | ⟨h1, k', hk', e⟩
      · rw [h1, e]
      · rw [h1, e, wrap_succ (n := s.toNat) (by omega) (by omega), impl_first_l0 s r back hs st bud hsl hb os hos hol d (x + 1) k' (by omega) (by omega), ← hm2]
    simp only [Q17.l0, Q17.j1]
    rw [if_pos (by omega)]
    cases r with
    | true =>
      have hl : leftX s true x = (s.toNat - (x + 1)) + 1 := by unfold leftX; simp; omega
      have := step _ hl (by unfold leftX; simp) (.inl rfl)
      by_cases c : (x : Int) > 0
      · rw [if_pos c, if_neg (by simp)]; exact this
      · rw [if_neg c, if_neg (by simp)]; exact this
    | false =>
      by_cases c : (x : Int) > 0
      · have hx0 : ¬ x = 0 := by omega
        have hl : leftX s false x = 0 := by unfold leftX; simp [hx0]
        rw [if_pos c, if_pos (by simp), hl]
        rfl
      · have hx0 : x = 0 := by omega
        have hl : leftX s false x = 0 + 1 := by unfold leftX; simp [hx0]
        rw [if_neg c, if_neg (by simp)]
        exact step _ hl (by unfold leftX; simp) (.inr (by omega))
def findM (s : Int) (r back : Bool) (st bud : List Int) : Option (Int × List Int) := firstX (okO s r back st bud) (ordL st.length st.length []) (leftX s r 0) 0
theorem orders_ok (st : List Int) (hsl : st.length ≤ 4) : (∀ o ∈ ordL st.length st.length [], o.length ≤ 4 ∧ ∀ k ∈ o, 0 ≤ k ∧ k < (st.length : Int)) ∧ (ordL st.length st.length []).length ≤ 1000 := by
  refine ⟨fun o ho => ?_, ?_⟩
  · have := ordL_mem st.length st.length [] (by simp) (fun k hk => by simp at hk) o ho
    exact ⟨by omega, this.2⟩
  · have h1 := ordL_len st.length hsl st.length []
    have h2 : (4 : Nat) ^ st.length ≤ 4 ^ 4 := Nat.pow_le_pow_right (by omega) hsl
    omega
theorem spec_first_eq (k : Nat) (s : Int) (r back : Bool) (hr : road s r = true) (st bud : List Int) (hst : ∀ p ∈ st, 0 ≤ p ∧ p ≤ s - 1) (hsl : st.length ≤ 4) (hb : bud.length = st.length) (hk : 50000 < k) : Q9.f k s r st bud back = some (match findM s r back st bud with | some z => z | none => (-1, [])) := by
  have hs := road_bd hr
  have ho := orders_ok st hsl
  unfold Q9.f findM
  rw [spec_orders st.length hsl st.length [] k (by simp) (by omega), Option.bind_some]
  exact spec_first_l0 s r back hr st bud hst hsl hb _ ho.1 ho.2 s.toNat 0 k (by omega) (by omega)
theorem impl_first_eq (k : Nat) (s : Int) (r back : Bool) (hs : 2 ≤ s ∧ s ≤ 24) (st bud : List Int) (hsl : st.length ≤ 4) (hb : bud.length = st.length) (hk : 50000 < k) : Q17.f k s r (st.map (tabM s r back)) bud = some (match findM s r back st bud with | some z => (z.1, z.2, true) | none => (0, [], false)) := by
  have ho := orders_ok st hsl
  unfold Q17.f findM
  rw [hb, impl_orders k st.length hsl, Option.bind_some]
  exact impl_first_l0 s r back hs st bud hsl hb _ ho.1 ho.2 s.toNat 0 k (by omega) (by omega)
theorem firstX_nn (P : Int → List Int → Bool) (os : List (List Int)) : ∀ (d x : Nat) z, firstX P os d x = some z → 0 ≤ z.1 ∧ z.2 ∈ os
  | 0, x, z, h => by simp [firstX] at h
  | d + 1, x, z, h => by
    simp only [firstX] at h
    cases hf : os.find? (P (x : Int)) with
    | some o =>
      rw [hf] at h
      obtain rfl := Option.some.inj h
      exact ⟨by show 0 ≤ (x : Int); omega, List.mem_of_find?_eq_some hf⟩
    | none =>
      rw [hf] at h
      exact firstX_nn P os d (x + 1) z h
def budOk (s : Int) (r : Bool) (st bud : List Int) : Bool := allIn bud 0 99 && (road s r && inR (st.length : Int) 1 4 && allIn st 0 (s - 1)) && ((bud.length : Int) == (st.length : Int))
theorem spec_budgets_l0 (s : Int) (r : Bool) (st bud : List Int) (hl : st.length ≤ 1048576) (hl2 : bud.length ≤ 1048576) : ∀ (d i k : Nat), i + d = bud.length → 20 + d < k → Q21.l0 k st bud (i : Int) s r = some (allIn (bud.drop i) 0 99 && (road s r && inR (st.length : Int) 1 4 && allIn st 0 (s - 1)) && ((bud.length : Int) == (st.length : Int)))
  | 0, i, k, h, hk => by
    obtain ⟨k, rfl⟩ := succ_of (k := k) (by omega)
    simp only [Q21.l0]
    rw [if_neg (by omega), drop_end bud i (by omega), spec_l6Starts_eq k s r st (by omega) (by omega), Option.bind_some]
    show _ = some (true && _ && _)
    cases (road s r && inR (st.length : Int) 1 4 && allIn st 0 (s - 1)) <;> simp
  | d + 1, i, k, h, hk => by
    obtain ⟨k, rfl⟩ := succ_of (k := k) (by omega)
    simp only [Q21.l0]
    rw [if_pos (by omega), if_pos (by omega), spec_l1In_eq, Option.bind_some, wrap_succ (n := bud.length) (by omega) (by omega), spec_budgets_l0 s r st bud hl hl2 d (i + 1) k (by omega) (by omega), drop_rd bud i (by omega)]
    unfold allIn
    rw [List.all_cons]
    cases inR (rd bud (i : Int)) 0 99 <;> simp
theorem spec_budgets_eq (k : Nat) (s : Int) (r : Bool) (st bud : List Int) (hl : st.length ≤ 1048576) (hl2 : bud.length ≤ 1048576) (hk : 1048600 < k) : Q21.f k s r st bud = some (budOk s r st bud) := by
  unfold Q21.f budOk
  have := spec_budgets_l0 s r st bud hl hl2 bud.length 0 k (by omega) (by omega)
  simpa using this
theorem budOk_bd {s : Int} {r : Bool} {st bud : List Int} (h : budOk s r st bud = true) : road s r = true ∧ (1 ≤ st.length ∧ st.length ≤ 4) ∧ (∀ p ∈ st, 0 ≤ p ∧ p ≤ s - 1) ∧ bud.length = st.length ∧ ∀ b ∈ bud, 0 ≤ b ∧ b ≤ 99 := by
  unfold budOk at h
  simp only [Bool.and_eq_true] at h
  have h1 := inR_iff.1 h.1.2.1.2
  have h2 := beq_iff_eq.1 h.2
  exact ⟨h.1.2.1.1, by omega, fun p hp => inR_iff.1 (List.all_eq_true.1 h.1.2.2 p hp), by omega, fun b hb => inR_iff.1 (List.all_eq_true.1 h.1.1 b hb)⟩
theorem impl_budgets_eq (k : Nat) (s : Int) (r : Bool) (st bud : List Int) (hl : st.length ≤ 1048576) (hl2 : bud.length ≤ 1048576) (hk : 1048600 < k) : Q50.f k s r st bud = some (budOk s r st bud) := by
  unfold Q50.f budOk
  rw [impl_IsRoad_eq, Option.bind_some]
  cases hr : road s r with
  | false => simp
  | true =>
    rw [if_pos rfl, impl_Road_areExplorers_eq k s r st hr (by omega) (by omega), Option.bind_some]
    cases hc : (inR (st.length : Int) 1 4 && allIn st 0 (s - 1)) with
    | false =>
      have : (true && inR (st.length : Int) 1 4 && allIn st 0 (s - 1)) = false := by rw [Bool.true_and]; exact hc
      rw [this]
      simp
    | true =>
      have : (true && inR (st.length : Int) 1 4 && allIn st 0 (s - 1)) = true := by rw [Bool.true_and]; exact hc
      rw [this, if_pos rfl, impl_allWithin_eq k bud 0 99 (by omega) (by omega), Option.bind_some]
      by_cases c : (bud.length : Int) = (st.length : Int)
      · rw [if_pos c, beq_iff_eq.2 c]
        simp
      · rw [if_neg c, beq_eq_false_iff_ne.2 c]
        simp
def firstOrdM (s : Int) (r back : Bool) (st bud : List Int) : Int × List Int × Bool := if budOk s r st bud = true then (match findM s r back st bud with | some z => (z.1, z.2, true) | none => (0, [], false)) else (0, [], false)
theorem firstOrdM_len (s : Int) (r back : Bool) (st bud : List Int) : (firstOrdM s r back st bud).2.1.length ≤ 4 := by
  unfold firstOrdM
  by_cases c : budOk s r st bud = true
  · rw [if_pos c]
    have h := budOk_bd c
    have ho := orders_ok st h.2.1.2
    cases hf : findM s r back st bud with
    | none => simp
    | some z => exact (ho.1 _ (firstX_nn _ _ _ _ z hf).2).1
  · rw [if_neg c]
    simp
theorem spec_FirstOrder_eq (k : Nat) (s : Int) (r back : Bool) (st bud : List Int) (hl : st.length ≤ 1048576) (hl2 : bud.length ≤ 1048576) (hk : 1048600 < k) : Q76.f k s r st bud back = some (firstOrdM s r back st bud) := by
  unfold Q76.f firstOrdM
  rw [spec_budgets_eq k s r st bud hl hl2 hk, Option.bind_some]
  cases hb : budOk s r st bud with
  | false => simp
  | true =>
    have h := budOk_bd hb
    rw [if_pos rfl, if_pos rfl, spec_first_eq k s r back h.1 st bud h.2.2.1 h.2.1.2 h.2.2.2.1 (by omega), Option.bind_some]
    cases hf : findM s r back st bud with
    | none => rfl
    | some z =>
      have := (firstX_nn _ _ _ _ z hf).1
      show (if z.1 < 0 then _ else some (z.1, z.2, true)) = _
      rw [if_neg (by omega)]
theorem impl_FirstOrder_eq (k : Nat) (s : Int) (r back : Bool) (st bud : List Int) (hl : st.length ≤ 1048576) (hl2 : bud.length ≤ 1048576) (hk : 1048600 < k) : Q77.f k s r st bud back = some (firstOrdM s r back st bud) := by
  unfold Q77.f firstOrdM
  rw [impl_budgets_eq k s r st bud hl hl2 hk, Option.bind_some]
  cases hb : budOk s r st bud with
  | false => simp
  | true =>
    have h := budOk_bd hb
    have hs := road_bd h.1
    rw [if_pos rfl, if_pos rfl, impl_newRuns_eq k s r back h.1 st h.2.1.2 h.2.2.1 (by omega), Option.bind_some, impl_first_eq k s r back ⟨hs.1, hs.2.1⟩ st bud h.2.1.2 h.2.2.2.1 (by omega), Option.bind_some]
theorem firstX_ok (P : Int → List Int → Bool) (os : List (List Int)) : ∀ (d x : Nat) z, firstX P os d x = some z → z.2 ∈ os ∧ P z.1 z.2 = true ∧ (x : Int) ≤ z.1 ∧ z.1 < (x + d : Nat)
  | 0, x, z, h => by simp [firstX] at h
  | d + 1, x, z, h => by
    simp only [firstX] at h
    cases hf : os.find? (P (x : Int)) with
    | some o =>
      rw [hf] at h
      obtain rfl := Option.some.inj h
      exact ⟨List.mem_of_find?_eq_some hf, List.find?_some hf, by show (x : Int) ≤ (x : Int); omega, by show (x : Int) < _; omega⟩
    | none =>
      rw [hf] at h
      obtain ⟨h1, h2, h3, h4⟩ := firstX_ok P os d (x + 1) z h
      exact ⟨h1, h2, by omega, by omega⟩
theorem rd_rep (n : Nat) (t k : Int) (h0 : 0 ≤ k) (h1 : k < n) : rd (List.replicate n t) k = t := by
  obtain ⟨j, rfl⟩ := Int.eq_ofNat_of_zero_le h0
  rw [rd_nat _ j (by simp; omega)]
  simp
def ordOk (n : Nat) (l : List Int) : Bool := ((List.range n).all fun j => l.any fun y => decide (y = (j : Int))) && ((l.length : Int) == (n : Int))
theorem spec_order_l0 (l : List Int) (n : Nat) (hl : l.length ≤ 1048576) (hn : n ≤ 4) : ∀ (d i k : Nat), i + d = n → l.length + d + 1 < k → Q24.l0 k l (n : Int) (i : Int) = some (((List.range d).all fun j => l.any fun y => decide (y = ((i + j : Nat) : Int))) && ((l.length : Int) == (n : Int)))
  | 0, i, k, h, hk => by
    obtain ⟨k, rfl⟩ := succ_of (k := k) (by omega)
    simp only [Q24.l0]
    rw [if_neg (by omega)]
    simp
  | d + 1, i, k, h, hk => by
    obtain ⟨k, rfl⟩ := succ_of (k := k) (by omega)
    simp only [Q24.l0]
    rw [if_pos (by omega), spec_l1Has_eq k (i : Int) l (by omega) (by omega), Option.bind_some, List.range_succ_eq_map, List.all_cons, List.all_map, Nat.add_zero]
    cases hx : (l.any fun y => decide (y = (i : Int))) with
    | false => simp
    | true =>
      rw [if_pos rfl, wrap_succ (n := 10) (by omega) (by omega), spec_order_l0 l n hl hn d (i + 1) k (by omega) (by omega), Bool.true_and]
      have e : ((fun j => l.any fun y => decide (y = ((i + j : Nat) : Int))) ∘ Nat.succ) = (fun j => l.any fun y => decide (y = ((i + 1 + j : Nat) : Int))) := by
        funext j
        simp only [Function.comp, Nat.succ_eq_add_one, Nat.add_assoc, Nat.add_comm 1 j]
      rw [e]
theorem spec_order_eq (k : Nat) (l : List Int) (n : Nat) (hl : l.length ≤ 1048576) (hn : n ≤ 4) (hk : l.length + 10 < k) : Q24.f k l (n : Int) = some (ordOk n l) := by
  unfold Q24.f ordOk
  have := spec_order_l0 l n hl hn n 0 k (by omega) (by omega)
  simpa using this
theorem slices_Equal_l0 (a b : List Int) (h : a.length = b.length) (hl : a.length ≤ 1048576) : ∀ (d i k : Nat), i + d = a.length → d < k → Q49.l0 k a b (a.length : Int) (i : Int) = some (decide (a.drop i = b.drop i))
  | 0, i, k, hi, hk => by
    obtain ⟨k, rfl⟩ := succ_of (k := k) (by omega)
    simp only [Q49.l0]
    rw [if_neg (by omega), List.drop_of_length_le (by omega), List.drop_of_length_le (by omega)]
    simp
  | d + 1, i, k, hi, hk => by
    obtain ⟨k, rfl⟩ := succ_of (k := k) (by omega)
    simp only [Q49.l0]
    rw [if_pos (by omega), if_pos (by omega), if_pos (by omega), if_pos (by omega), rd_nat a i (by omega), rd_nat b i (by omega), List.drop_eq_getElem_cons (show i < a.length by omega), List.drop_eq_getElem_cons (show i < b.length by omega)]
    by_cases c : a[i] = b[i]
    · rw [if_pos c, wrap_succ (n := 1048577) (by omega) (by omega), slices_Equal_l0 a b h hl d (i + 1) k (by omega) (by omega)]
      exact congrArg some (decide_eq_decide.2 ⟨fun h => by rw [c, h], fun h => (List.cons.inj h).2⟩)
    · rw [if_neg c]
      exact congrArg some (decide_eq_false (fun h => c (List.cons.inj h).1)).symm
theorem slices_Equal_eq (k : Nat) (a b : List Int) (hl : a.length ≤ 1048576) (hk : a.length < k) : Q49.f k a b = some (decide (a = b)) := by
  unfold Q49.f
  by_cases c : (a.length : Int) = (b.length : Int)
  · rw [if_pos c]
    have := slices_Equal_l0 a b (by omega) hl a.length 0 k (by omega) hk
    simpa using this
  · rw [if_neg c]
    have : a ≠ b := fun e => c (by rw [e])
    simp [this]
theorem perm_of_sub {α : Type} [BEq α] [LawfulBEq α] : ∀ (l1 l2 : List α), l1.Nodup → (∀ x ∈ l1, x ∈ l2) → l2.length ≤ l1.length → l1.Perm l2
  | [], l2, _, _, hl => by
    have : l2 = [] := List.eq_nil_of_length_eq_zero (by simpa using hl)
    rw [this]
  | x :: l1, l2, hn, hs, hl => by
    rw [List.nodup_cons] at hn
    have hx := hs x List.mem_cons_self
    have hp := List.perm_cons_erase hx
    have hlen := List.length_erase_of_mem hx
    have hpos : 0 < l2.length := List.length_pos_of_mem hx
    rw [List.length_cons] at hl
    have ih := perm_of_sub l1 (l2.erase x) hn.2 (fun y hy => (List.mem_erase_of_ne (fun e => hn.1 (by rw [e] at hy; exact hy))).2 (hs y (List.mem_cons_of_mem _ hy))) (by omega)
    exact (ih.cons x).trans hp.symm
def rangeI (n : Nat) : List Int := (List.range n).map fun i : Nat => (i : Int)
theorem sortV_range (n : Nat) (l : List Int) (hl : l.length = n) : decide (sortV l = rangeI n) = ordOk n l := by
  have hiff : sortV l = rangeI n ↔ ordOk n l = true := by
    unfold ordOk
    rw [Bool.and_eq_true, List.all_eq_true, hl]
    have hnd : (rangeI n).Nodup := List.pairwise_map.2 ((List.nodup_range (n := n)).imp (fun {a b} hab e => hab (by omega)))
    constructor
    · intro h
      refine ⟨fun j hj => ?_, by simp⟩
      have hm : (j : Int) ∈ sortV l := by rw [h]; exact List.mem_map.2 ⟨j, hj, rfl⟩
      have hm2 : (j : Int) ∈ l := (List.mergeSort_perm l _).mem_iff.1 hm
      exact List.any_eq_true.2 ⟨(j : Int), hm2, by simp⟩
    · rintro ⟨h, -⟩
      have hsub : ∀ x ∈ rangeI n, x ∈ l := by
        intro x hx
        obtain ⟨j, hj, rfl⟩ := List.mem_map.1 hx
        obtain ⟨y, hy, e⟩ := List.any_eq_true.1 (h j hj)
        rw [← of_decide_eq_true e]
        exact hy
      have hp : (rangeI n).Perm l := perm_of_sub _ _ hnd hsub (by simp [rangeI, hl])
      refine List.Perm.eq_of_pairwise (le := fun a b : Int => a ≤ b) (fun a b _ _ h1 h2 => by omega) ?_ ?_ ((List.mergeSort_perm l _).trans hp.symm)
      · have hs := List.pairwise_mergeSort (le := fun x y : Int => decide (x ≤ y)) (fun a b c h1 h2 => decide_eq_true (Int.le_trans (of_decide_eq_true h1) (of_decide_eq_true h2))) (fun a b => by rcases Int.le_total a b with h | h <;> simp [h]) l
        exact hs.imp (fun {a b} h => of_decide_eq_true h)
      · exact List.pairwise_map.2 (List.pairwise_lt_range.imp (fun {a b} h => by omega))
  cases ho : ordOk n l with
  | true => exact decide_eq_true (hiff.2 ho)
  | false => exact decide_eq_false (fun h => by rw [hiff.1 h] at ho; cases ho)
theorem takeM_len (s : Int) (r back : Bool) (st bud : List Int) (x : Int) : ∀ (ks out : List Int) (done : Int), (takeM s r back st bud x ks out done).1.length = out.length
  | [], out, done => rfl
  | k :: ks, out, done => by
    show (takeM s r back st bud x ks (out.set k.toNat _) _).1.length = _
    rw [takeM_len s r back st bud x ks, List.length_set]
def takenRunsM (s : Int) (r back : Bool) (st bud : List Int) (x : Int) (o : List Int) : List Int × Bool := if (budOk s r st bud && inR x 0 (s - 1) && (r || x == 0) && ordOk st.length o) = true then ((takeM s r back st bud x o (List.replicate st.length 0) 0).1, true) else ([], false)
theorem takenRunsM_len (s : Int) (r back : Bool) (st bud : List Int) (x : Int) (o : List Int) : (takenRunsM s r back st bud x o).1.length ≤ 4 := by
  unfold takenRunsM
  by_cases c : (budOk s r st bud && inR x 0 (s - 1) && (r || x == 0) && ordOk st.length o) = true
  · rw [if_pos c, takeM_len, List.length_replicate]
    rw [Bool.and_eq_true, Bool.and_eq_true, Bool.and_eq_true] at c
    exact (budOk_bd c.1.1.1).2.1.2
  · rw [if_neg c]
    simp
theorem ordOk_bd {n : Nat} {o : List Int} (h : ordOk n o = true) : o.length = n ∧ ∀ k ∈ o, 0 ≤ k ∧ k < (n : Int) := by
  unfold ordOk at h
  rw [Bool.and_eq_true, List.all_eq_true] at h
  have hl : o.length = n := by have := beq_iff_eq.1 h.2; omega
  refine ⟨hl, fun k hk => ?_⟩
  have hnd : (rangeI n).Nodup := List.pairwise_map.2 ((List.nodup_range (n := n)).imp (fun {a b} hab e => hab (by omega)))
  have hsub : ∀ x ∈ rangeI n, x ∈ o := by
    intro x hx
    obtain ⟨j, hj, rfl⟩ := List.mem_map.1 hx
    obtain ⟨y, hy, e⟩ := List.any_eq_true.1 (h.1 j hj)
    rw [← of_decide_eq_true e]
    exact hy
  have hp : (rangeI n).Perm o := perm_of_sub _ _ hnd hsub (by simp [rangeI, hl])
  obtain ⟨j, hj, rfl⟩ := List.mem_map.1 (hp.mem_iff.2 hk)
  have := List.mem_range.1 hj
  omega
theorem spec_TakenRuns_eq (k : Nat) (s : Int) (r back : Bool) (st bud : List Int) (x : Int) (o : List Int) (hl : st.length ≤ 1048576) (hl2 : bud.length ≤ 1048576) (hl3 : o.length ≤ 1048576) (hk : 1048600 < k) : Q64.f k s r st bud x o back = some (takenRunsM s r back st bud x o) := by
  unfold Q64.f takenRunsM
  rw [spec_budgets_eq k s r st bud hl hl2 hk, Option.bind_some]
  cases hb : budOk s r st bud with
  | false => simp
  | true =>
    have h := budOk_bd hb
    rw [if_pos rfl, spec_l2Place_eq, Option.bind_some, h.1, Bool.true_and]
    cases hp : inR x 0 (s - 1) with
    | false => simp
    | true =>
      have hx := inR_iff.1 hp
      rw [if_pos rfl, spec_order_eq k o st.length hl3 h.2.1.2 (by omega), Option.bind_some, Bool.true_and]
      have hgo : (r = true ∨ x = 0) → (if ordOk st.length o = true then ((Q3.f k s r st bud x o back).bind fun bt => some (bt.1, true)) else some (([] : List Int), false)) = some (if ordOk st.length o = true then ((takeM s r back st bud x o (List.replicate st.length 0) 0).1, true) else ([], false)) := by
        intro hr
        cases ho : ordOk st.length o with
        | false => simp
        | true =>
          have hoo := ordOk_bd ho
          rw [if_pos rfl, if_pos rfl, spec_taken_eq k s r back h.1 st bud o x ⟨hx.1, by omega⟩ h.2.2.1 h.2.1.2 h.2.2.2.1 (by omega) hoo.2 (by omega), Option.bind_some]
      cases r with
      | true =>
        rw [if_pos rfl, hgo (.inl rfl)]
        simp
      | false =>
        rw [if_neg (by simp)]
        by_cases c : x = 0
        · rw [if_pos c, hgo (.inr c)]
          simp [c]
        · rw [if_neg c]
          simp [c]
theorem ordL_first (n : Nat) (h : 1 ≤ n ∧ n ≤ 4) : 0 < (ordL n n []).length ∧ rd_L2 (ordL n n []) 0 = rangeI n := by
  obtain h | h | h | h : n = 1 ∨ n = 2 ∨ n = 3 ∨ n = 4 := by omega
  all_goals (subst h; decide +kernel)
theorem impl_taken_j1 (k : Nat) (s : Int) (r back : Bool) (st bud : List Int) (x : Int) (o : List Int) : Q7.j1 (k + 1) st bud x o back true s r = some ([], false) := by
  simp only [Q7.j1]
  rw [if_pos trivial]
theorem impl_TakenRuns_eq (k : Nat) (s : Int) (r back : Bool) (st bud : List Int) (x : Int) (o : List Int) (hl : st.length ≤ 1048576) (hl2 : bud.length ≤ 1048576) (hl3 : o.length ≤ 1048576) (hk : 1048610 < k) : Q7.f k s r st bud x o back = some (takenRunsM s r back st bud x o) := by
  obtain ⟨k, rfl⟩ := succ_of (k := k) (by omega)
  have hbad : Q7.j0 (k + 1) st bud x o back true s r = some ([], false) := by
    simp only [Q7.j0]
    rw [if_pos trivial]
  unfold Q7.f takenRunsM
  rw [impl_budgets_eq (k + 1) s r st bud hl hl2 (by omega), Option.bind_some]
  cases hb : budOk s r st bud with
  | false => rw [if_neg (by simp), hbad]; simp
  | true =>
    have h := budOk_bd hb
    have hs := road_bd h.1
    rw [if_pos rfl, impl_Road_has1 (k + 1) s r x h.1 (by omega), Option.bind_some, Bool.true_and]
    cases hp : inR x 0 (s - 1) with
    | false => rw [if_neg (by simp), hbad]; simp
    | true =>
      have hx := inR_iff.1 hp
      rw [if_pos rfl, Bool.true_and]
      have hgo : (r = true ∨ x = 0) → Q7.j0 (k + 1) st bud x o back false s r = some (if ordOk st.length o = true then ((takeM s r back st bud x o (List.replicate st.length 0) 0).1, true) else ([], false)) := by
        intro hr
        obtain ⟨k, rfl⟩ := succ_of (k := k) (by omega)
        simp only [Q7.j0]
        have hso : Q71.f (k + 1) o = some (sortV o) := by unfold Q71.f; rw [if_pos hl3]
        rw [if_neg (by simp), hso, Option.bind_some]
        by_cases c : (o.length : Int) = (st.length : Int)
        · have hn := ordL_first st.length h.2.1
          have hsl : (sortV o).length = o.length := List.length_mergeSort _
          rw [if_pos c, impl_orders (k + 1) st.length h.2.1.2, Option.bind_some, if_pos (by omega), slices_Equal_eq (k + 1) (sortV o) _ (by omega) (by omega), Option.bind_some, hn.2, sortV_range st.length o (by omega)]
          cases ho : ordOk st.length o with
          | false => exact (impl_taken_j1 k s r back st bud x o).trans (by simp)
          | true =>
            have hoo := ordOk_bd ho
            simp only [Q7.j1]
            rw [if_neg (by simp), if_pos trivial, impl_newRuns_eq k s r back h.1 st h.2.1.2 h.2.2.1 (by omega), Option.bind_some, impl_taken_eq k s r back ⟨hs.1, hs.2.1⟩ st bud o x ⟨hx.1, by omega⟩ hr h.2.2.2.1 h.2.1.2 (by omega) hoo.2 (by omega), Option.bind_some]
        · have ho : ordOk st.length o = false := by
            unfold ordOk
            simp [c]
          rw [if_neg c, ho, if_neg (by simp)]
          exact impl_taken_j1 k s r back st bud x o
      cases r with
      | true =>
        rw [if_pos rfl, hgo (.inl rfl)]
        simp
      | false =>
        rw [if_neg (by simp)]
        by_cases c : x = 0
        · subst c
          rw [show ((0 : Int) != 0) = false from rfl, hgo (.inr rfl)]
          simp
        · rw [show (x != 0) = true from by simp [c], hbad]
          simp [c]

theorem costTB (a b : Int) (ha : 0 ≤ a) (hb : 0 ≤ b) : costT a b ≤ costB a b := by unfold costT costB; omega
theorem leftAt_mono2 {s right : Int} {f g : List Int} (h : ∀ x ∈ f, x ∈ g) : leftAt s f right ≤ leftAt s g right := by
  unfold leftAt
  refine (foldMax_le _ _ f 0).2 ⟨leftAt_nn s g right, fun i hi => ?_⟩
  exact ((foldMax_le (fun f => if right < f then s - f else 0) (leftAt s g right) g 0).1 (Int.le_refl _)).2 i (h i hi)
theorem way_le {s : Int} {r : Bool} {p : Int} {c d : Int → Int → Int} (hc : ∀ a b a' b' : Int, 0 ≤ a → 0 ≤ b → a ≤ a' → b ≤ b' → c a b ≤ d a' b') {l m : List Int} (h : ∀ x ∈ l, x ∈ m) : wayM c s r p l ≤ wayM d s r p m := by
  unfold wayM
  cases r with
  | true =>
    simp only [if_true]
    have h1 := (le_foldMin (fun i : Nat => c (leftAt s (l.map (upRing s p)) (i : Int)) (i : Int)) (bestTo s c (l.map (upRing s p))) (List.range s.toNat) s).1 (Int.le_refl _)
    conv => rhs; unfold bestTo
    refine (le_foldMin _ _ _ _).2 ⟨h1.1, fun i hi => Int.le_trans (h1.2 i hi) ?_⟩
    refine hc _ _ _ _ (leftAt_nn _ _ _) (by omega) (leftAt_mono2 (fun x hx => ?_)) (Int.le_refl _)
    obtain ⟨y, hy, rfl⟩ := List.mem_map.1 hx
    exact List.mem_map.2 ⟨y, h y hy, rfl⟩
  | false =>
    rw [if_neg (by simp), if_neg (by simp)]
    have a1 := (foldMax_le (fun q => p - q) (leftL p m 0) m 0).1 (Int.le_refl _)
    have a2 := (foldMax_le (fun q => q - p) (rightL p m 0) m 0).1 (Int.le_refl _)
    have b1 := (foldMax_le (fun q => p - q) (leftL p l 0) l 0).1 (Int.le_refl _)
    have b2 := (foldMax_le (fun q => q - p) (rightL p l 0) l 0).1 (Int.le_refl _)
    refine hc _ _ _ _ b1.1 b2.1 ?_ ?_
    · exact (foldMax_le (fun q => p - q) _ l 0).2 ⟨a1.1, fun i hi => a1.2 i (h i hi)⟩
    · exact (foldMax_le (fun q => q - p) _ l 0).2 ⟨a2.1, fun i hi => a2.2 i (h i hi)⟩
theorem ordL_nodup (n : Nat) : ∀ (d : Nat) (xs : List Int), xs.Nodup → ∀ o ∈ ordL n d xs, o.Nodup
  | 0, xs, h, o, ho => by
    have : o = xs := by simpa [ordL] using ho
    rw [this]; exact h
  | d + 1, xs, h, o, ho => by
    unfold ordL at ho
    obtain ⟨i, hi, hm⟩ := List.mem_flatMap.1 ho
    by_cases c : (xs.any fun y => decide (y = (i : Int))) = true
    · rw [if_pos c] at hm; cases hm
    · rw [if_neg c] at hm
      refine ordL_nodup n d _ ?_ o hm
      rw [List.nodup_append]
      refine ⟨h, by simp, fun a ha b hb => ?_⟩
      rw [List.mem_singleton.1 hb]
      intro e
      exact c (List.any_eq_true.2 ⟨a, ha, by simp [e]⟩)
theorem starts_l0 (l : List Int) (hl : byteL l) (s : Int) (r : Bool) (hs : -1 ≤ s ∧ s ≤ 4611686018427387904) : ∀ (n k : Nat) (acc : List Int) (a b : Int), acc.length + n ≤ 5 → 0 ≤ a → a + 2 * (n : Int) ≤ 1000 → n < k → ∃ v a' b', Q34.l0 k acc (n : Int) l a b s r = some (v, a', b') ∧ v.length ≤ 5 ∧ a ≤ a' ∧ a' ≤ a + 2 * (n : Int)
  | 0, k, acc, a, b, ha, h0, h1, hk => by
    obtain ⟨k, rfl⟩ := succ_of (k := k) (by omega)
    simp only [Q34.l0]
    rw [if_neg (by omega)]
    exact ⟨_, _, _, rfl, by omega, by omega, by omega⟩
  | n + 1, k, acc, a, b, ha, h0, h1, hk => by
    obtain ⟨k, rfl⟩ := succ_of (k := k) (by omega)
    simp only [Q34.l0]
    obtain ⟨x, a1, b1, e, _, h2, h3⟩ := placeOn_ok l hl a b s r hs h0 (by omega)
    rw [if_pos (by omega), e, Option.bind_some, if_pos (by omega), show wrap64 (((n + 1 : Nat) : Int) - 1) = (n : Int) from by rw [wrap64_id (by omega) (by omega)]; omega]
    obtain ⟨v, a2, b2, e2, q1, q2, q3⟩ := starts_l0 l hl s r hs n k (acc ++ [x]) a1 b1 (by rw [List.length_append, List.length_singleton]; omega) (by omega) (by omega) (by omega)
    exact ⟨v, a2, b2, e2, q1, by omega, by omega⟩
theorem starts_ok (k : Nat) (l : List Int) (hl : byteL l) (s : Int) (r : Bool) (hs : -1 ≤ s ∧ s ≤ 4611686018427387904) (a b : Int) (h0 : 0 ≤ a) (h1 : a ≤ 100) (hk : 10 < k) : ∃ v a' b', Q34.f k l a b s r = some (v, a', b') ∧ v.length ≤ 5 ∧ a ≤ a' ∧ a' ≤ a + 11 := by
  unfold Q34.f
  obtain ⟨x, a1, b1, e, hx, h2, h3⟩ := among_ok l hl a b [2, 3, 1, 2, 4, 0, 5] h0 (by omega) (by decide) (by decide)
  rw [e, Option.bind_some]
  have hx2 : 0 ≤ x ∧ x ≤ 5 := by simp at hx; omega
  obtain ⟨n, rfl⟩ := Int.eq_ofNat_of_zero_le hx2.1
  obtain ⟨v, a2, b2, e2, q1, q2, q3⟩ := starts_l0 l hl s r hs n k [] a1 b1 (by simp; omega) (by omega) (by omega) (by omega)
  exact ⟨v, a2, b2, e2, q1, by omega, by omega⟩
theorem budgets_j1 (l : List Int) (hl : byteL l) (k : Nat) (v : List Int) (x : Bool) (a b : Int) (hv : v.length ≤ 5) (hx : x = true → 0 < v.length) (h0 : 0 ≤ a) (h1 : a ≤ 500) (hk : 0 < k) : ∃ u a' b', Q28.j1 k v x l a b = some (u, a', b') ∧ u.length ≤ 6 ∧ a ≤ a' ∧ a' ≤ a + 2 := by
  obtain ⟨k, rfl⟩ := succ_of (k := k) (by omega)
  simp only [Q28.j1]
  cases x with
  | true =>
    have := hx rfl
    obtain ⟨z, a1, b1, e, _, h2, h3⟩ := among_ok l hl a b [(-1), 99, 100] h0 (by omega) (by decide) (by decide)
    obtain ⟨y, a2, b2, e2, h4, h5⟩ := one_ok l hl a1 b1 40 (by omega) (by omega) (by omega)
    rw [if_pos rfl, e, Option.bind_some, if_pos (by omega), Option.bind_some, e2, Option.bind_some]
    cases y with
    | true =>
      rw [if_pos rfl, if_pos (by rw [List.length_set]; omega)]
      exact ⟨_, _, _, rfl, by rw [List.length_append, List.length_set, List.length_singleton]; omega, by show a ≤ a2; omega, by show a2 ≤ a + 2; omega⟩
    | false =>
      rw [if_neg (by simp)]
      exact ⟨_, _, _, rfl, by rw [List.length_set]; omega, by show a ≤ a2; omega, by show a2 ≤ a + 2; omega⟩
  | false =>
    obtain ⟨y, a2, b2, e2, h4, h5⟩ := one_ok l hl a b 40 (by omega) (by omega) (by omega)
    rw [if_neg (by simp), e2, Option.bind_some]
    cases y with
    | true =>
      rw [if_pos rfl, if_pos (by omega)]
      exact ⟨_, _, _, rfl, by rw [List.length_append, List.length_singleton]; omega, by show a ≤ a2; omega, by show a2 ≤ a + 2; omega⟩
    | false =>
      rw [if_neg (by simp)]
      exact ⟨_, _, _, rfl, by omega, by show a ≤ a2; omega, by show a2 ≤ a + 2; omega⟩
theorem budgets_l0 (l : List Int) (hl : byteL l) (s : Int) (r : Bool) (st : List Int) (hst : st.length ≤ 5) : ∀ (n i k : Nat) (acc : List Int) (a b : Int), i + n = st.length → acc.length = i → 0 ≤ a → a + (n : Int) ≤ 400 → n + 5 < k → ∃ v a' b', Q28.l0 k st acc (i : Int) l a b s r = some (v, a', b') ∧ v.length ≤ 6 ∧ a ≤ a' ∧ a' ≤ a + (n : Int) + 3
  | 0, i, k, acc, a, b, hi, ha, h0, h1, hk => by
    obtain ⟨k, rfl⟩ := succ_of (k := k) (by omega)
    simp only [Q28.l0]
    rw [if_neg (by omega)]
    by_cases c : (acc.length : Int) > 0
    · rw [if_pos c]
      obtain ⟨x, a1, b1, e, h2, h3⟩ := one_ok l hl a b 24 h0 (by omega) (by omega)
      rw [e, Option.bind_some]
      obtain ⟨v, a2, b2, e2, q1, q2, q3⟩ := budgets_j1 l hl k acc x a1 b1 (by omega) (fun _ => by omega) (by omega) (by omega) (by omega)
      exact ⟨v, a2, b2, e2, q1, by omega, by omega⟩
    · rw [if_neg c]
      obtain ⟨v, a2, b2, e2, q1, q2, q3⟩ := budgets_j1 l hl k acc false a b (by omega) (fun h => by cases h) (by omega) (by omega) (by omega)
      exact ⟨v, a2, b2, e2, q1, by omega, by omega⟩
  | n + 1, i, k, acc, a, b, hi, ha, h0, h1, hk => by
    obtain ⟨k, rfl⟩ := succ_of (k := k) (by omega)
    simp only [Q28.l0]
    rw [if_pos (by omega), spec_l1Least_eq, Option.bind_some, spec_l1Most_eq, Option.bind_some]
    have hm : 1 ≤ hi2 (lo2 s 24) 1 ∧ hi2 (lo2 s 24) 1 ≤ 24 := by unfold hi2 lo2; split <;> split <;> omega
    rw [wrap64_id (by omega) (by omega)]
    obtain ⟨x, a1, b1, e, _, h2, h3⟩ := pick_ok l hl a b (hi2 (lo2 s 24) 1 + 2) h0 (by omega) (by omega)
    rw [e, Option.bind_some, if_pos (by omega), wrap_succ (n := 10) (by omega) (by omega)]
    obtain ⟨v, a2, b2, e2, q1, q2, q3⟩ := budgets_l0 l hl s r st hst n (i + 1) k (acc ++ [x]) a1 b1 (by omega) (by rw [List.length_append, List.length_singleton]; omega) (by omega) (by omega) (by omega)
    exact ⟨v, a2, b2, e2, q1, by omega, by omega⟩
theorem bne_same (b : Bool) : (b != b) = false := by cases b <;> rfl
def tourM (s : Int) (r : Bool) (p : Int) (l : List Int) : Int × Bool := if (road s r && inR p 0 (s - 1) && allIn l 0 (s - 1)) = true then (wayM costT s r p l, true) else (0, false)
theorem impl_TourTime_eq (k : Nat) (s : Int) (r : Bool) (p : Int) (l : List Int) (hl : l.length ≤ 1000) (hk : 2000 < k) : Q72.f k s r p l = some (tourM s r p l) := by
  unfold Q72.f tourM
  rw [impl_IsRoad_eq, Option.bind_some]
  cases hr : road s r with
  | false => simp
  | true =>
    have hs := road_bd hr
    rw [if_pos rfl, impl_Road_has1 k s r p hr (by omega), Option.bind_some, Bool.true_and]
    cases hp : inR p 0 (s - 1) with
    | false => simp
    | true =>
      rw [if_pos rfl, impl_Road_hasN k s r l hr (by omega) (by omega), Option.bind_some, Bool.true_and]
      cases ha : allIn l 0 (s - 1) with
      | false => simp
      | true =>
        rw [if_pos rfl, if_pos rfl, impl_Road_tour_eq k s r p l ⟨hs.1, hs.2.1⟩ (inR_iff.1 hp) (by omega) (fun x hx => inR_iff.1 (List.all_eq_true.1 ha x hx)) (by omega)]
        rfl
theorem DrawFirstOrder_ok (k : Nat) (l : List Int) (hl : byteL l) (hk : 30 < k) : ∃ s r st bud h, Q43.f k l = some (s, r, st, bud, h) ∧ st.length ≤ 5 ∧ bud.length ≤ 6 := by
  unfold Q43.f
  obtain ⟨s, r, a, b, e, hs, h1, h2⟩ := shortRoad_ok l hl 0 0 (by omega) (by omega)
  rw [e, Option.bind_some]
  obtain ⟨v, a2, b2, e2, q1, q2, q3⟩ := starts_ok k l hl s r hs a b (by omega) (by omega) (by omega)
  simp only
  rw [e2, Option.bind_some]
  unfold Q28.f
  obtain ⟨u, a3, b3, e3, p1, p2, p3⟩ := budgets_l0 l hl s r v q1 v.length 0 k [] a2 b2 (by omega) rfl (by omega) (by omega) (by omega)
  simp only
  rw [show ((0 : Nat) : Int) = 0 from rfl] at e3
  rw [e3, Option.bind_some]
  obtain ⟨x, a4, b4, e4, _⟩ := one_ok l hl a3 b3 2 (by omega) (by omega) (by omega)
  simp only
  rw [e4, Option.bind_some]
  exact ⟨s, r, v, u, x, rfl, q1, p1⟩
theorem DrawRunPlaces_ok (l : List Int) (hl : byteL l) : ∃ s r x n, Q44.f l = some (s, r, x, n) := by
  unfold Q44.f
  obtain ⟨s, r, a, b, e, hs, h1, h2⟩ := roadd_ok l hl 0 0 (by omega) (by omega)
  rw [e, Option.bind_some]
  obtain ⟨x, a2, b2, e2, _, q2, q3⟩ := placeOn_ok l hl a b s r hs (by omega) (by omega)
  simp only
  rw [e2, Option.bind_some]
  obtain ⟨n, a3, b3, e3, _, p2, p3⟩ := placeOn_ok l hl a2 b2 s r hs (by omega) (by omega)
  simp only
  rw [e3, Option.bind_some]
  obtain ⟨z, a4, b4, e4, _⟩ := pick_ok l hl a3 b3 2 (by omega) (by omega) (by omega)
  simp only
  rw [e4, Option.bind_some]
  exact ⟨_, _, _, _, rfl⟩
theorem DrawRunTime_j0 (k : Nat) (l : List Int) (hl : byteL l) (p x n : Int) (t : Bool) (a b s : Int) (r : Bool) (h0 : 0 ≤ a) (h1 : a ≤ 1000) (hk : 0 < k) : ∃ m h, Q12.j0 k p x n t l a b s r = some (s, r, p, x, m, h) := by
  obtain ⟨k, rfl⟩ := succ_of (k := k) hk
  simp only [Q12.j0]
  obtain ⟨z, a4, b4, e4, _⟩ := one_ok l hl a b 2 (by omega) (by omega) (by omega)
  cases t with
  | true =>
    rw [if_pos rfl, spec_l1Least_eq, Option.bind_some, e4, Option.bind_some]
    exact ⟨_, _, rfl⟩
  | false =>
    rw [if_neg (by simp), e4, Option.bind_some]
    exact ⟨_, _, rfl⟩
theorem DrawRunTime_ok (k : Nat) (l : List Int) (hl : byteL l) (hk : 0 < k) : ∃ s r p x n h, Q12.f k l = some (s, r, p, x, n, h) := by
  unfold Q12.f
  obtain ⟨s, r, a, b, e, hs, h1, h2⟩ := roadd_ok l hl 0 0 (by omega) (by omega)
  rw [e, Option.bind_some]
  obtain ⟨p, a1, b1, e1, _, o2, o3⟩ := placeOn_ok l hl a b s r hs (by omega) (by omega)
  simp only
  rw [e1, Option.bind_some]
  obtain ⟨x, a2, b2, e2, _, q2, q3⟩ := placeOn_ok l hl a1 b1 s r hs (by omega) (by omega)
  simp only
  rw [e2, Option.bind_some]
  obtain ⟨n, a3, b3, e3, _, p2, p3⟩ := placeOn_ok l hl a2 b2 s r hs (by omega) (by omega)
  simp only
  rw [e3, Option.bind_some]
  obtain ⟨z, a4, b4, e4, _, r2, r3⟩ := pick_ok l hl a3 b3 2 (by omega) (by omega) (by omega)
  simp only
  rw [e4, Option.bind_some]
  simp only
  cases r with
  | true =>
    rw [if_pos rfl]
    obtain ⟨m, h, e5⟩ := DrawRunTime_j0 k l hl p x (wrap64 (n + z)) false a4 b4 s true (by omega) (by omega) hk
    exact ⟨_, _, _, _, _, _, e5⟩
  | false =>
    rw [if_neg (by simp)]
    obtain ⟨y, a5, b5, e5, s2, s3⟩ := one_ok l hl a4 b4 2 (by omega) (by omega) (by omega)
    rw [e5, Option.bind_some]
    obtain ⟨m, h, e6⟩ := DrawRunTime_j0 k l hl p x (wrap64 (n + z)) y a5 b5 s false (by omega) (by omega) hk
    exact ⟨_, _, _, _, _, _, e6⟩
theorem DrawTaken_j3 (k : Nat) (l : List Int) (hl : byteL l) (st bud o : List Int) (t : Bool) (a b s : Int) (r : Bool) (hs : -1 ≤ s ∧ s ≤ 4611686018427387904) (h0 : 0 ≤ a) (h1 : a ≤ 1000) (hk : 0 < k) : ∃ x h, Q1.j3 k st bud o 0 t l a b s r = some (s, r, st, bud, x, o, h) := by
  obtain ⟨k, rfl⟩ := succ_of (k := k) hk
  simp only [Q1.j3]
  cases t with
  | true =>
    obtain ⟨x, a2, b2, e2, _, q2, q3⟩ := placeOn_ok l hl a b s r hs (by omega) (by omega)
    obtain ⟨z, a4, b4, e4, _⟩ := one_ok l hl a2 b2 2 (by omega) (by omega) (by omega)
    rw [if_pos rfl, e2, Option.bind_some]
    simp only
    rw [e4, Option.bind_some]
    exact ⟨_, _, rfl⟩
  | false =>
    obtain ⟨z, a4, b4, e4, _⟩ := one_ok l hl a b 2 (by omega) (by omega) (by omega)
    rw [if_neg (by simp), e4, Option.bind_some]
    exact ⟨_, _, rfl⟩
theorem DrawTaken_j2 (k : Nat) (l : List Int) (hl : byteL l) (st bud o : List Int) (a b s : Int) (r : Bool) (hs : -1 ≤ s ∧ s ≤ 4611686018427387904) (h0 : 0 ≤ a) (h1 : a ≤ 999) (hk : 1 < k) : ∃ x h, Q1.j2 k st bud o l a b s r = some (s, r, st, bud, x, o, h) := by
  obtain ⟨k, rfl⟩ := succ_of (k := k) (by omega)
  simp only [Q1.j2]
  cases r with
  | true =>
    rw [if_pos rfl]
    exact DrawTaken_j3 k l hl st bud o true a b s true hs h0 (by omega) (by omega)
  | false =>
    obtain ⟨z, a4, b4, e4, r2, r3⟩ := one_ok l hl a b 12 (by omega) (by omega) (by omega)
    rw [if_neg (by simp), e4, Option.bind_some]
    exact DrawTaken_j3 k l hl st bud o z a4 b4 s false hs (by omega) (by omega) (by omega)
theorem DrawTaken_j1 (k : Nat) (l : List Int) (hl : byteL l) (st bud o : List Int) (t : Bool) (ht : t = true → 0 < o.length) (a b s : Int) (r : Bool) (hs : -1 ≤ s ∧ s ≤ 4611686018427387904) (h0 : 0 ≤ a) (h1 : a ≤ 990) (hk : 2 < k) : ∃ x o' h, Q1.j1 k st bud o t l a b s r = some (s, r, st, bud, x, o', h) ∧ o'.length = o.length := by
  obtain ⟨k, rfl⟩ := succ_of (k := k) (by omega)
  simp only [Q1.j1]
  cases t with
  | true =>
    have := ht rfl
    obtain ⟨z, a4, b4, e4, _, r2, r3⟩ := among_ok l hl a b [0, 1, (-1), 4] (by omega) (by omega) (by decide) (by decide)
    rw [if_pos rfl, e4, Option.bind_some, if_pos (by omega)]
    obtain ⟨x, h, e⟩ := DrawTaken_j2 k l hl st bud (o.set (0 : Int).toNat z) a4 b4 s r hs (by omega) (by omega) (by omega)
    exact ⟨x, _, h, e, by simp⟩
  | false =>
    rw [if_neg (by simp)]
    obtain ⟨x, h, e⟩ := DrawTaken_j2 k l hl st bud o a b s r hs (by omega) (by omega) (by omega)
    exact ⟨x, _, h, e, rfl⟩
theorem DrawTaken_l0 (l : List Int) (hl : byteL l) (st bud : List Int) (hst : st.length ≤ 5) (s : Int) (r : Bool) (hs : -1 ≤ s ∧ s ≤ 4611686018427387904) : ∀ (d i k : Nat) (o : List Int) (a b : Int), i + d = st.length → o.length = i → 0 ≤ a → a + (d : Int) ≤ 900 → d + 10 < k → ∃ x o' h, Q1.l0 k st bud o (i : Int) l a b s r = some (s, r, st, bud, x, o', h) ∧ o'.length = st.length
  | 0, i, k, o, a, b, hi, ho, h0, h1, hk => by
    obtain ⟨k, rfl⟩ := succ_of (k := k) (by omega)
    simp only [Q1.l0]
    rw [if_neg (by omega)]
    by_cases c : (o.length : Int) > 0
    · rw [if_pos c]
      obtain ⟨z, a4, b4, e4, r2, r3⟩ := one_ok l hl a b 20 (by omega) (by omega) (by omega)
      rw [e4, Option.bind_some]
      obtain ⟨x, o', h, e, p⟩ := DrawTaken_j1 k l hl st bud o z (fun _ => by omega) a4 b4 s r hs (by omega) (by omega) (by omega)
      exact ⟨x, o', h, e, by omega⟩
    · rw [if_neg c]
      obtain ⟨x, o', h, e, p⟩ := DrawTaken_j1 k l hl st bud o false (fun h => by cases h) a b s r hs (by omega) (by omega) (by omega)
      exact ⟨x, o', h, e, by omega⟩
  | d + 1, i, k, o, a, b, hi, ho, h0, h1, hk => by
    obtain ⟨k, rfl⟩ := succ_of (k := k) (by omega)
    simp only [Q1.l0]
    rw [if_pos (by omega), wrap64_id (x := (o.length : Int) + 1) (by omega) (by omega)]
    obtain ⟨z, a4, b4, e4, r1, r2, r3⟩ := pick_ok l hl a b ((o.length : Int) + 1) (by omega) (by omega) (by omega)
    rw [e4, Option.bind_some]
    have hz : 0 ≤ z ∧ z ≤ o.length := by omega
    simp only [Option.bind_some, List.nil_append, List.length_nil, List.length_singleton, List.length_append, List.length_take, List.length_drop]
    rw [if_pos (by omega), if_pos (by omega), if_pos (by omega), if_pos (by omega), if_pos (by omega), wrap_succ (n := 10) (by omega) (by omega)]
    obtain ⟨x, o', h, e, p⟩ := DrawTaken_l0 l hl st bud hst s r hs d (i + 1) k (o.take z.toNat ++ [(i : Int)] ++ o.drop z.toNat) a4 b4 (by omega) (by simp only [List.length_append, List.length_take, List.length_drop, List.length_singleton]; omega) (by omega) (by omega) (by omega)
    exact ⟨x, o', h, e, p⟩
theorem DrawTakenRuns_ok (k : Nat) (l : List Int) (hl : byteL l) (hk : 30 < k) : ∃ s r st bud x o h, Q1.f k l = some (s, r, st, bud, x, o, h) ∧ st.length ≤ 5 ∧ bud.length ≤ 6 ∧ o.length ≤ 5 := by
  unfold Q1.f
  obtain ⟨s, r, a, b, e, hs, h1, h2⟩ := shortRoad_ok l hl 0 0 (by omega) (by omega)
  rw [e, Option.bind_some]
  obtain ⟨v, a2, b2, e2, q1, q2, q3⟩ := starts_ok k l hl s r hs a b (by omega) (by omega) (by omega)
  simp only
  rw [e2, Option.bind_some]
  unfold Q28.f
  obtain ⟨u, a3, b3, e3, p1, p2, p3⟩ := budgets_l0 l hl s r v q1 v.length 0 k [] a2 b2 (by omega) rfl (by omega) (by omega) (by omega)
  simp only
  rw [show ((0 : Nat) : Int) = 0 from rfl] at e3
  rw [e3, Option.bind_some]
  simp only
  obtain ⟨x, o', h, e4, p⟩ := DrawTaken_l0 l hl v u q1 s r hs v.length 0 k [] a3 b3 (by omega) rfl (by omega) (by omega) (by omega)
  rw [show ((0 : Nat) : Int) = 0 from rfl] at e4
  exact ⟨s, r, v, u, x, o', h, e4, q1, p1, by omega⟩
def runPM (s : Int) (r : Bool) (x n : Int) : List Int × Bool := if (road s r && fits s r x n) = true then (runL s x n.toNat, true) else ([], false)
theorem fits_bd {s : Int} {r : Bool} {x n : Int} (h : fits s r x n = true) : (0 ≤ x ∧ x ≤ s - 1) ∧ 0 ≤ n ∧ n ≤ s := by
  unfold fits at h
  rw [Bool.and_eq_true, Bool.and_eq_true, inR_iff, inR_iff] at h
  exact h.1
theorem impl_RunPlaces_eq (k : Nat) (s : Int) (r : Bool) (x n : Int) (hk : 30 < k) : Q56.f k s r x n = some (runPM s r x n) := by
  unfold Q56.f runPM
  rw [impl_IsRoad_eq, Option.bind_some]
  cases hr : road s r with
  | false => simp
  | true =>
    have hb := road_bd hr
    rw [if_pos rfl, impl_Road_isRun_eq k _ _ _ _ hr (by omega), Option.bind_some, Bool.true_and]
    cases hf : fits s r x n with
    | false => simp
    | true =>
      have h := fits_bd hf
      rw [if_pos rfl, impl_Road_run_eq k _ _ _ _ ⟨hb.1, hb.2.1⟩ (by omega) (by omega) (by omega)]
      simp
theorem spec_RunPlaces_eq (k : Nat) (s : Int) (r : Bool) (x n : Int) (hk : 30 < k) : Q73.f k s r x n = some (runPM s r x n) := by
  unfold Q73.f runPM
  rw [spec_l6Fits_eq, Option.bind_some]
  cases hf : (road s r && fits s r x n) with
  | false => simp
  | true =>
    rw [Bool.and_eq_true] at hf
    have hb := road_bd hf.1
    have h := fits_bd hf.2
    rw [if_pos rfl, spec_l6Run_eq k _ _ _ _ ⟨hb.1, hb.2.1⟩ (by omega) (by omega) (by omega)]
    simp
theorem runPM_len (s : Int) (r : Bool) (x n : Int) : (runPM s r x n).1.length ≤ 24 := by
  unfold runPM
  cases hf : (road s r && fits s r x n) with
  | false => simp
  | true =>
    rw [Bool.and_eq_true] at hf
    have hb := road_bd hf.1
    have h := fits_bd hf.2
    rw [if_pos rfl, runL_len]
    omega
theorem time_back (s : Int) (r : Bool) (p x : Int) (n : Nat) : timeM s r p x n false ≤ timeM s r p x n true := by
  unfold timeM
  exact way_le (c := costT) (d := costB) (fun a b a' b' h1 h2 h3 h4 => Int.le_trans (costT_mono a b a' b' h1 h2 h3 h4) (costTB a' b' (by omega) (by omega))) (fun _ h => h)
theorem ordOk_nodup {n : Nat} {o : List Int} (h : ordOk n o = true) : o.Nodup := by
  unfold ordOk at h
  rw [Bool.and_eq_true, List.all_eq_true] at h
  have hl : o.length = n := by have := beq_iff_eq.1 h.2; omega
  have hnd : (rangeI n).Nodup := List.pairwise_map.2 ((List.nodup_range (n := n)).imp (fun {a b} hab e => hab (by omega)))
  have hsub : ∀ x ∈ rangeI n, x ∈ o := by
    intro x hx
    obtain ⟨j, hj, rfl⟩ := List.mem_map.1 hx
    obtain ⟨y, hy, e⟩ := List.any_eq_true.1 (h.1 j hj)
    rw [← of_decide_eq_true e]
    exact hy
  have hp : (rangeI n).Perm o := perm_of_sub _ _ hnd hsub (by simp [rangeI, hl])
  exact hp.nodup_iff.1 hnd
theorem ordL_ok {n : Nat} {o : List Int} (h : o ∈ ordL n n []) : ordOk n o = true := by
  have hm := ordL_mem n n [] (by simp) (fun k hk => by simp at hk) o h
  have hnd := ordL_nodup n n [] List.nodup_nil o h
  have hp : o.Perm (rangeI n) := perm_of_sub _ _ hnd (fun x hx => by
    have := hm.2 x hx
    obtain ⟨j, rfl⟩ := Int.eq_ofNat_of_zero_le this.1
    exact List.mem_map.2 ⟨j, List.mem_range.2 (by omega), rfl⟩) (by simp [rangeI, hm.1])
  unfold ordOk
  rw [Bool.and_eq_true, List.all_eq_true]
  refine ⟨fun j hj => List.any_eq_true.2 ⟨(j : Int), hp.mem_iff.2 (List.mem_map.2 ⟨j, hj, rfl⟩), decide_eq_true rfl⟩, beq_iff_eq.2 (by omega)⟩
theorem rd_set_ne (l : List Int) (i j : Int) (v : Int) (hi : 0 ≤ i) (hj : 0 ≤ j) (h : i ≠ j) : rd (l.set i.toNat v) j = rd l j := by
  unfold rd
  rw [List.getD_eq_getElem?_getD, List.getD_eq_getElem?_getD, List.getElem?_set_ne (by omega)]
theorem rd_set_eq (l : List Int) (i : Int) (v : Int) (hi : 0 ≤ i) (h : i < l.length) : rd (l.set i.toNat v) i = v := by
  unfold rd
  rw [List.getD_eq_getElem?_getD, List.getElem?_set_self (by omega)]
  rfl
theorem take_keep (s : Int) (r back : Bool) (st bud : List Int) (x j : Int) (hj : 0 ≤ j) : ∀ (ks out : List Int) (done : Int), (∀ k ∈ ks, 0 ≤ k ∧ k ≠ j) → rd (takeM s r back st bud x ks out done).1 j = rd out j
  | [], out, done, h => rfl
  | k :: ks, out, done, h => by
    have hk := h k List.mem_cons_self
    show rd (takeM s r back st bud x ks (out.set k.toNat (nextM s r back st bud x done k : Int)) (done + (nextM s r back st bud x done k : Int))).1 j = rd out j
    rw [take_keep s r back st bud x j hj ks _ _ (fun q hq => h q (List.mem_cons_of_mem _ hq)), rd_set_ne _ _ _ _ hk.1 hj hk.2]
theorem sum_set : ∀ (l : List Int) (i : Nat) (v : Int), i < l.length → (l.set i v).sum = l.sum - rd l (i : Int) + v
  | a :: l, 0, v, h => by
    rw [List.set_cons_zero, List.sum_cons, List.sum_cons]
    show v + l.sum = a + l.sum - a + v
    omega
  | a :: l, i + 1, v, h => by
    rw [List.set_cons_succ, List.sum_cons, List.sum_cons, sum_set l i v (by simpa using h)]
    have e : rd (a :: l) ((i + 1 : Nat) : Int) = rd l (i : Int) := by
      unfold rd
      rw [Int.toNat_natCast, Int.toNat_natCast, List.getD_cons_succ]
    rw [e]
    omega
theorem take_sum (s : Int) (r back : Bool) (st bud : List Int) (x : Int) : ∀ (ks out : List Int) (done : Int), ks.Nodup → 0 ≤ done → done ≤ s → (∀ k ∈ ks, 0 ≤ k ∧ k < (out.length : Int) ∧ rd out k = 0) → (∀ y ∈ out, 0 ≤ y ∧ y ≤ s) → (takeM s r back st bud x ks out done).1.sum = out.sum + ((takeM s r back st bud x ks out done).2 - done) ∧ ∀ y ∈ (takeM s r back st bud x ks out done).1, 0 ≤ y ∧ y ≤ s
  | [], out, done, hn, hd, hd2, h, hy => ⟨by show out.sum = out.sum + (done - done); omega, hy⟩
  | k :: ks, out, done, hn, hd, hd2, h, hy => by
    have hk := h k List.mem_cons_self
    have hle := nextM_le s r back st bud x done k hd2
    rw [List.nodup_cons] at hn
    obtain ⟨v, hv⟩ : ∃ v, v = nextM s r back st bud x done k := ⟨_, rfl⟩
    rw [← hv] at hle
    have ih := take_sum s r back st bud x ks (out.set k.toNat (v : Int)) (done + (v : Int)) hn.2 (by omega) (by omega) (fun q hq => by
      have hq2 := h q (List.mem_cons_of_mem _ hq)
      refine ⟨hq2.1, by rw [List.length_set]; exact hq2.2.1, ?_⟩
      rw [rd_set_ne _ _ _ _ hk.1 hq2.1 (fun e => hn.1 (e ▸ hq))]
      exact hq2.2.2) (fun y hy2 => by
      rcases List.mem_or_eq_of_mem_set hy2 with h1 | h1
      · exact hy y h1
      · omega)
    have e : takeM s r back st bud x (k :: ks) out done = takeM s r back st bud x ks (out.set k.toNat (v : Int)) (done + (v : Int)) := by rw [hv]; rfl
    rw [e]
    refine ⟨?_, ih.2⟩
    rw [ih.1, sum_set _ _ _ (by omega), show ((k.toNat : Nat) : Int) = k by omega, hk.2.2]
    omega
theorem found_all {s : Int} {r back : Bool} {st bud : List Int} {x : Int} {o : List Int} (hs : 2 ≤ s) (h : findM s r back st bud = some (x, o)) : inR x 0 (s - 1) = true ∧ (r || x == 0) = true ∧ ordOk st.length o = true ∧ (takeM s r back st bud x o (List.replicate st.length 0) 0).2 = s := by
  have hk := firstX_ok _ _ _ _ _ h
  refine ⟨?_, ?_, ordL_ok hk.1, ?_⟩
  · have h2 := hk.2.2
    have hl : leftX s r 0 ≤ s.toNat := by unfold leftX; split <;> (try split) <;> omega
    exact inR_iff.2 (by omega)
  · have h2 := hk.2.2
    cases r with
    | true => rfl
    | false =>
      have hl : leftX s false 0 = 1 := by unfold leftX; rfl
      rw [hl] at h2
      have : x = 0 := by omega
      rw [this]; rfl
  · have h2 := hk.2.1
    unfold okO at h2
    exact beq_iff_eq.1 h2
/-- Where the run begins, and what is left. -/
theorem begin_fits {s : Int} {r : Bool} {x done n : Int} (hr : road s r = true) (hx : inR x 0 (s - 1) = true) (hrx : (r || x == 0) = true) (hd : 0 ≤ done) (hn : 1 ≤ n) (hns : n ≤ s - done) : fits s r (Int.tmod (x + done) s) n = true := by
  have hb := road_bd hr
  rw [inR_iff] at hx
  have hp := pos_bd (s := s) (x := x) (done := done) hb.1 (by omega)
  unfold fits
  rw [Bool.and_eq_true, Bool.and_eq_true, inR_iff, inR_iff]
  refine ⟨⟨by omega, by omega⟩, ?_⟩
  cases r with
  | true => rfl
  | false =>
    have h0 : x = 0 := by simpa using hrx
    subst h0
    have : Int.tmod (0 + done) s = done := by rw [Int.zero_add, Int.tmod_eq_of_lt hd (by omega)]
    rw [this]
    simp
    omega
theorem runTM {s : Int} {r back : Bool} {p x n : Int} (k : Nat) (hr : road s r = true) (hp : 0 ≤ p ∧ p ≤ s - 1) (hf : fits s r x n = true) (hk : 10000 < k) : Q36.f k s r p x n back = some (timeM s r p x n.toNat back, true) := by
  rw [impl_RunTime_eq k s r p x n back hk, hr, hf, inR_iff.2 hp]
  rfl
theorem rd_pre (pre : List Int) (k : Int) (ks : List Int) : rd (pre ++ k :: ks) (pre.length : Int) = k := by
  rw [rd_nat _ _ (by simp)]
  simp
theorem runs_l0 (s : Int) (r back : Bool) (st bud : List Int) (hb : budOk s r st bud = true) (x : Int) (hx : inR x 0 (s - 1) = true) (hrx : (r || x == 0) = true) (o T : List Int) (hT : T.length = st.length) : ∀ (ks pre out : List Int) (done : Int) (K : Nat), o = pre ++ ks → T = (takeM s r back st bud x ks out done).1 → ks.Nodup → (∀ k ∈ ks, 0 ≤ k ∧ k < (st.length : Int)) → 0 ≤ done → done ≤ s → o.length ≤ 100 → ks.length * 3 + 20000 < K → Q0.l0 K st bud x o back T done (pre.length : Int) s r = some true
  | [], pre, out, done, K, ho, hT2, hn, hk, hd, hd2, ho2, hK => by
    obtain ⟨K, rfl⟩ := succ_of (k := K) (by omega)
    simp only [Q0.l0]
    rw [List.append_nil] at ho
    rw [if_neg (by rw [ho]; omega), decide_eq_true hd2]
  | k :: ks, pre, out, done, K, ho, hT2, hn, hk, hd, hd2, ho2, hK => by
    obtain ⟨K, rfl⟩ := succ_of (k := K) (by omega)
    obtain ⟨K, rfl⟩ := succ_of (k := K) (by rw [List.length_cons] at hK; omega)
    obtain ⟨K, rfl⟩ := succ_of (k := K) (by rw [List.length_cons] at hK; omega)
    have hbd := budOk_bd hb
    have hs := road_bd hbd.1
    have hk0 := hk k List.mem_cons_self
    rw [List.nodup_cons] at hn
    have hx2 := inR_iff.1 hx
    rw [List.length_cons] at hK
    have hol : o.length = pre.length + (ks.length + 1) := by rw [ho]; simp
    have hrd : rd o (pre.length : Int) = k := by rw [ho]; exact rd_pre pre k ks
    obtain ⟨v, hv⟩ : ∃ v, v = nextM s r back st bud x done k := ⟨_, rfl⟩
    have hle := nextM_le s r back st bud x done k hd2
    rw [← hv] at hle
    have hout : out.length = st.length := by rw [← hT, hT2, takeM_len]
    have hrT : rd T k = (v : Int) := by
      rw [hT2]
      show rd (takeM s r back st bud x ks (out.set k.toNat (nextM s r back st bud x done k : Int)) (done + (nextM s r back st bud x done k : Int))).1 k = _
      rw [take_keep s r back st bud x k hk0.1 ks _ _ (fun q hq => ⟨(hk q (List.mem_cons_of_mem _ hq)).1, fun e => hn.1 (e ▸ hq)⟩), rd_set_eq _ _ _ hk0.1 (by omega), hv]
    have hspec := downM_spec (fitB s r (rd st k) (Int.tmod (x + done) s) back (rd bud k)) (s - done).toNat
    have hv2 : v = downM (fitB s r (rd st k) (Int.tmod (x + done) s) back (rd bud k)) (s - done).toNat := hv
    rw [← hv2] at hspec
    have hp : 0 ≤ rd st k ∧ rd st k ≤ s - 1 := hbd.2.2.1 _ (rd_in hk0.1 hk0.2)
    have hih := runs_l0 s r back st bud hb x hx hrx o T hT ks (pre ++ [k]) (out.set k.toNat (v : Int)) (done + (v : Int)) K (by rw [ho]; simp) (by rw [hT2, hv]; rfl) hn.2 (fun q hq => hk q (List.mem_cons_of_mem _ hq)) (by omega) (by omega) ho2 (by omega)
    have hpl : (pre ++ [k]).length = pre.length + 1 := by simp
    rw [hpl] at hih
    have hj8 : Q0.j8 (K + 1) st bud x o back T done (pre.length : Int) k (Int.tmod (x + done) s) s r = some true := by
      simp only [Q0.j8]
      rw [if_pos hk0.1, if_pos (by omega), hrT, wrap64_id (x := s - done) (by omega) (by omega), wrap64_id (x := done + (v : Int)) (by omega) (by omega), show wrap64 ((pre.length : Int) + 1) = ((pre.length + 1 : Nat) : Int) from wrap_succ (n := 100) (by omega) (by omega)]
      by_cases c : (v : Int) < s - done
      · rw [if_pos c, if_pos hk0.2, show wrap64 ((v : Int) + 1) = ((v + 1 : Nat) : Int) from wrap_succ (n := 100) (by omega) (by omega), runTM K hbd.1 hp (begin_fits hbd.1 hx hrx hd (by omega) (by omega)) (by omega), Option.bind_some]
        simp only [if_true]
        have hnf := hspec.2.2 (v + 1) (by omega) (by omega)
        unfold fitB at hnf
        have hnf2 := of_decide_eq_false hnf
        rw [if_pos (by rw [hbd.2.2.2.1]; omega), if_neg (by rw [Int.toNat_natCast]; exact hnf2)]
        exact hih
      · rw [if_neg c]
        exact hih
    simp only [Q0.l0]
    rw [if_pos (by omega), if_pos (by omega), if_neg (by omega), hrd, if_pos hk0.1, if_pos (by omega), hrT, if_neg (by omega), wrap64_id (x := x + done) (by omega) (by omega), wrap64_id (x := s - done) (by omega) (by omega), decide_eq_false (by omega)]
    simp only [Q0.j7]
    rw [if_neg (by simp), if_pos hk0.1, if_pos (by omega), hrT]
    by_cases c : (v : Int) > 0
    · rw [if_pos c, if_pos hk0.2, runTM (K + 1) hbd.1 hp (begin_fits hbd.1 hx hrx hd (by omega) (by omega)) (by omega), Option.bind_some]
      simp only [if_true]
      have hf := hspec.2.1.resolve_left (by omega)
      unfold fitB at hf
      have hf2 := of_decide_eq_true hf
      rw [if_pos (by rw [hbd.2.2.2.1]; omega), if_neg (by rw [Int.toNat_natCast]; omega)]
      exact hj8
    · rw [if_neg c]
      exact hj8
theorem runs_j5 (s : Int) (r back : Bool) (st bud : List Int) (x : Int) (o : List Int) (hol : o.length ≤ 5) (K : Nat) (hK : 30000 < K) : Q0.j5 K st bud x o back (takenRunsM s r back st bud x o).1 (takenRunsM s r back st bud x o).2 s r = some true := by
  obtain ⟨K, rfl⟩ := succ_of (k := K) (by omega)
  simp only [Q0.j5]
  unfold takenRunsM
  cases c : (budOk s r st bud && inR x 0 (s - 1) && (r || x == 0) && ordOk st.length o) with
  | false => rfl
  | true =>
    rw [if_pos rfl, if_pos rfl]
    rw [Bool.and_eq_true, Bool.and_eq_true, Bool.and_eq_true] at c
    have hb := budOk_bd c.1.1.1
    have hs := road_bd hb.1
    have hob := ordOk_bd c.2
    exact runs_l0 s r back st bud c.1.1.1 x c.1.1.2 c.1.2 o _ (by rw [takeM_len, List.length_replicate]) o [] (List.replicate st.length 0) 0 K rfl rfl (ordOk_nodup c.2) hob.2 (by omega) (by omega) (by omega) (by omega)
theorem runs_j4 (s : Int) (r back : Bool) (st bud : List Int) (x : Int) (o : List Int) (hol : o.length ≤ 5) (q : Int) (q2 home : Bool) (ot tm : List Int) (hot : ot.length ≤ 5) (htm : tm.length ≤ 6) (K : Nat) (hK : 1048700 < K) : Q0.j4 K st bud x o back (takenRunsM s r back st bud x o).1 (takenRunsM s r back st bud x o).2 ot tm home (firstOrdM q q2 home ot tm).1 (firstOrdM q q2 home ot tm).2.1 (firstOrdM q q2 home ot tm).2.2 s r q q2 = some true := by
  obtain ⟨K, rfl⟩ := succ_of (k := K) (by omega)
  have hj := runs_j5 s r back st bud x o hol K (by omega)
  simp only [Q0.j4]
  unfold firstOrdM
  cases hbo : budOk q q2 ot tm with
  | false => simpa using hj
  | true =>
    rw [if_pos rfl]
    cases hf : findM q q2 home ot tm with
    | none => simpa using hj
    | some z =>
      obtain ⟨at_, fo⟩ := z
      have hb := budOk_bd hbo
      have hs := road_bd hb.1
      have hfa := found_all hs.1 hf
      have hob := ordOk_bd hfa.2.2.1
      simp only [if_true]
      rw [impl_TakenRuns_eq K q q2 home ot tm at_ fo (by omega) (by omega) (by omega) (by omega), Option.bind_some]
      have e : takenRunsM q q2 home ot tm at_ fo = ((takeM q q2 home ot tm at_ fo (List.replicate ot.length 0) 0).1, true) := by
        unfold takenRunsM
        rw [hbo, hfa.1, hfa.2.1, hfa.2.2.1]
        rfl
      rw [e]
      simp only [if_true]
      have hsum := take_sum q q2 home ot tm at_ fo (List.replicate ot.length 0) 0 (ordOk_nodup hfa.2.2.1) (by omega) (by omega) (fun k hk => by
        have h2 := hob.2 k hk
        exact ⟨h2.1, by rw [List.length_replicate]; exact h2.2, rd_rep _ _ _ h2.1 h2.2⟩) (fun y hy => by rw [List.eq_of_mem_replicate hy]; omega)
      rw [laws_rSum_eq K _ (by rw [takeM_len, List.length_replicate]; omega) (fun y hy => by have := hsum.2 y hy; omega) (by omega), Option.bind_some, hsum.1, hfa.2.2.2]
      have h0 : (List.replicate ot.length (0 : Int)).sum = 0 := by
        induction ot.length with
        | zero => rfl
        | succ n ih => rw [List.replicate_succ, List.sum_cons, ih]; rfl
      rw [h0, if_pos (by omega)]
      exact hj
theorem FnRuns : Q0.Pure := by
  intro l0 hm _ hwf
  have hl : byteL l0 := fun x hx => by
    have := hwf x hx
    simp [Lit.wf, IntKind.min, IntKind.max, IntKind.bits, IntKind.signed, IntKind.wrap] at this
    omega
  obtain ⟨K, hK⟩ : ∃ K : Nat, K = 1060000 := ⟨_, rfl⟩
  refine ⟨K + 1 + 1 + 1 + 1 + 1, ?_⟩
  unfold Q0.f Q70.f
  rw [Option.bind_some]
  by_cases c0 : (l0.length : Int) > 65536
  · rw [decide_eq_true c0, if_pos rfl]
  rw [decide_eq_false c0, if_neg (by simp)]
  obtain ⟨s, r, st, bud, x, o, back, e0, h1, h2, h3⟩ := DrawTakenRuns_ok (K + 1 + 1 + 1 + 1 + 1) l0 hl (by omega)
  obtain ⟨q, q2, ot, tm, home, e1, h4, h5⟩ := DrawFirstOrder_ok (K + 1 + 1 + 1 + 1) l0 hl (by omega)
  obtain ⟨u, u2, fr, nn, e2⟩ := DrawRunPlaces_ok l0 hl
  obtain ⟨w, w2, p, z, m, turn, e3⟩ := DrawRunTime_ok (K + 1 + 1) l0 hl (by omega)
  have hl1 := takenRunsM_len s r back st bud x o
  have hl2 := firstOrdM_len q q2 home ot tm
  have hl3 := runPM_len u u2 fr nn
  rw [e0, Option.bind_some]
  simp only
  rw [impl_TakenRuns_eq _ s r back st bud x o (by omega) (by omega) (by omega) (by omega), Option.bind_some, spec_TakenRuns_eq _ s r back st bud x o (by omega) (by omega) (by omega) (by omega), Option.bind_some, bne_same, if_neg (by simp), laws_rInts_self _ _ (by omega) (by omega), Option.bind_some]
  simp only [Q0.j0, Bool.not_true]
  rw [if_neg (by simp), e1, Option.bind_some]
  simp only
  rw [impl_FirstOrder_eq _ q q2 home ot tm (by omega) (by omega) (by omega), Option.bind_some, spec_FirstOrder_eq _ q q2 home ot tm (by omega) (by omega) (by omega), Option.bind_some, if_pos rfl, bne_same, if_neg (by simp), laws_rInts_self _ _ (by omega) (by omega), Option.bind_some]
  simp only [Q0.j1, Bool.not_true]
  rw [if_neg (by simp), e2, Option.bind_some]
  simp only
  rw [impl_RunPlaces_eq _ u u2 fr nn (by omega), Option.bind_some, spec_RunPlaces_eq _ u u2 fr nn (by omega), Option.bind_some, bne_same, if_neg (by simp), laws_rInts_self _ _ (by omega) (by omega), Option.bind_some]
  simp only [Q0.j2, Bool.not_true]
  rw [if_neg (by simp), e3, Option.bind_some]
  simp only
  rw [impl_RunTime_eq _ w w2 p z m turn (by omega), Option.bind_some, spec_RunTime_eq _ w w2 p z m turn (by omega), Option.bind_some, if_pos rfl, bne_same]
  have hj := runs_j4 s r back st bud x o h3 q q2 home ot tm h4 h5 (K + 1) (by omega)
  simp only [Q0.j3]
  rw [if_neg (by simp)]
  cases hc : (road w w2 && inR p 0 (w - 1) && fits w w2 z m) with
  | false => simpa using hj
  | true =>
    have hc2 := hc
    rw [Bool.and_eq_true, Bool.and_eq_true, inR_iff] at hc2
    have hw := road_bd hc2.1.1
    have hz := fits_bd hc2.2
    have erp : runPM w w2 z m = (runL w z m.toNat, true) := by unfold runPM; rw [hc2.1.1, hc2.2]; rfl
    have etm : tourM w w2 p (runL w z m.toNat) = (wayM costT w w2 p (runL w z m.toNat), true) := by
      unfold tourM
      rw [hc2.1.1, inR_iff.2 hc2.1.2, show allIn (runL w z m.toNat) 0 (w - 1) = true from List.all_eq_true.2 (fun y hy => inR_iff.2 (runL_in hw.1 hz.1.1 y hy))]
      rfl
    rw [if_pos rfl]
    simp only [if_true]
    rw [runTM _ hc2.1.1 hc2.1.2 hc2.2 (by omega), Option.bind_some, runTM _ hc2.1.1 hc2.1.2 hc2.2 (by omega), Option.bind_some, impl_RunPlaces_eq _ w w2 z m (by omega), Option.bind_some, erp]
    simp only
    rw [impl_TourTime_eq _ w w2 p _ (by rw [runL_len]; omega) (by omega), Option.bind_some, etm]
    simp only [if_true]
    have ht : timeM w w2 p z m.toNat false = wayM costT w w2 p (runL w z m.toNat) := by unfold timeM; rfl
    have hb := time_back w w2 p z m.toNat
    rw [if_pos ht, if_neg (by omega)]
    exact hj

end Go.Proofs.YtjhppcpjobofbabGreat.Pure
