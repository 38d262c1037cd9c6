/- Plain facts on numbers and lists: what the functions that the law FnExplorers reaches answer, and that the law's own function answers true. No program, no memory. -/
import Derived.Test.YtjhppcpjobofbaaGreatPFnExplorersx1
import Derived.Test.YtjhppcpjobofbaaGreatPFnExplorersx2
import Derived.Test.YtjhppcpjobofbaaGreatPFnExplorersx3
import Derived.Test.YtjhppcpjobofbaaGreatPFnExplorersx4
import Derived.Test.YtjhppcpjobofbaaGreatPFnExplorersx5
import Derived.Test.YtjhppcpjobofbaaGreatPFnExplorersx6
import Derived.Test.YtjhppcpjobofbaaGreatPFnExplorersx7
import Derived.Test.YtjhppcpjobofbaaGreatPFnExplorersx8
import Derived.Test.YtjhppcpjobofbaaGreatPFnExplorersx9
import Derived.Test.YtjhppcpjobofbaaGreatPFnExplorersx10
import Derived.Test.YtjhppcpjobofbaaGreatPFnExplorersx11
import Derived.Test.YtjhppcpjobofbaaGreatPFnExplorersx12
import Derived.Test.YtjhppcpjobofbaaGreatPFnExplorersx13
import Derived.Test.YtjhppcpjobofbaaGreatPFnExplorersx14
import Derived.Test.YtjhppcpjobofbaaGreatPFnExplorersx15
import Derived.Test.YtjhppcpjobofbaaGreatPFnExplorersx16
import Derived.Test.YtjhppcpjobofbaaGreatPFnExplorersx17
import Derived.Test.YtjhppcpjobofbaaGreatPFnExplorersx18
import Derived.Laws.Bits64b
namespace Go.Proofs.YtjhppcpjobofbaaGreat.Pure
open Go.RowKit Go.Proofs.YtjhppcpjobofbaaGreat.PFnExplorers Go.Proofs.YtjhppcpjobofbaaGreatW.PrintWords Go.Proofs.YtjhppcpjobofbaaGreatW.PrintLast Go.Proofs.YtjhppcpjobofbaaGreatW.PrintMore
set_option linter.unusedVariables false
set_option linter.unusedSimpArgs false
theorem wrap64_id {x : Int} (h1 : -9223372036854775808 ≤ x) (h2 : x ≤ 9223372036854775807) : wrap64 x = x := by unfold wrap64; omega
def inR (x a b : Int) : Bool := decide (a ≤ x) && decide (x ≤ b)
theorem inR_iff {x a b : Int} : inR x a b = true ↔ a ≤ x ∧ x ≤ b := by unfold inR; simp
theorem inR_not {x a b : Int} : inR x a b = false ↔ ¬ (a ≤ x ∧ x ≤ b) := by rw [← inR_iff]; simp
def road (s : Int) (r : Bool) : Bool := inR s 2 24 && (!r || decide (3 ≤ s))
theorem road_bd {s : Int} {r : Bool} (h : road s r = true) : 2 ≤ s ∧ s ≤ 24 ∧ (r = true → 3 ≤ s) := by
  unfold road at h
  rw [Bool.and_eq_true, inR_iff] at h
  refine ⟨h.1.1, h.1.2, fun hr => ?_⟩
  have := h.2
  simp [hr] at this
  exact this
theorem spec_l1In_eq (a b c : Int) : Q33.f a b c = some (inR a b c) := by
  unfold Q33.f inR
  by_cases h : a ≥ b
  · have h' : b ≤ a := h
    simp [h, h']
  · have h' : ¬ b ≤ a := h
    simp [h, h']
theorem impl_within_eq (a b c : Int) : Q23.f a b c = some (inR a b c) := by
  unfold Q23.f inR
  by_cases h : a ≥ b
  · have h' : b ≤ a := h
    simp [h, h']
  · have h' : ¬ b ≤ a := h
    simp [h, h']
theorem spec_l2Road_eq (s : Int) (r : Bool) : Q39.f s r = some (road s r) := by
  unfold Q39.f road
  rw [spec_l1In_eq, Option.bind_some]
  cases inR s 2 24 <;> cases r <;> simp
  omega
theorem impl_IsRoad_eq (s : Int) (r : Bool) : Q27.f s r = some (road s r) := by
  unfold Q27.f road
  rw [impl_within_eq, Option.bind_some]
  cases inR s 2 24 <;> cases r <;> simp
theorem wrap_succ {i n : Nat} (h : i < n) (hn : n ≤ 9223372036854775807) : wrap64 ((i : Int) + 1) = ((i + 1 : Nat) : Int) := by unfold wrap64; omega
theorem drop_rd (l : List Int) (i : Nat) (h : i < l.length) : l.drop i = rd l (i : Int) :: l.drop (i + 1) := by
  rw [List.drop_eq_getElem_cons h]
  unfold rd
  simp [List.getD_eq_getElem?_getD, h]
theorem rd_get (l : List Int) (i : Nat) (h : i < l.length) : rd l (i : Int) = l[i] := by
  unfold rd
  simp [List.getD_eq_getElem?_getD, h]
theorem succ_of {k : Nat} (h : 0 < k) : ∃ m, k = m + 1 := ⟨k - 1, by omega⟩
theorem drop_end {α : Type} (l : List α) (i : Nat) (h : l.length ≤ i) : l.drop i = [] := List.drop_of_length_le h
def allIn (l : List Int) (a b : Int) : Bool := l.all (fun x => inR x a b)
theorem impl_allWithin_l0 (lo hi : Int) (l : List Int) (hl : l.length ≤ 9223372036854775807) : ∀ (d i k : Nat), i + d = l.length → d < k →
    Q31.l0 k lo hi l (l.length : Int) (i : Int) = some (allIn (l.drop i) lo hi)
  | 0, i, k, h, hk => by
    obtain ⟨k, rfl⟩ := succ_of (k := k) (by omega)
    simp only [Q31.l0]
    rw [if_neg (by omega), drop_end l i (by omega)]
    rfl
  | d + 1, i, k, h, hk => by
    obtain ⟨k, rfl⟩ := succ_of (k := k) (by omega)
    simp only [Q31.l0]
    rw [if_pos (by omega), if_pos (by omega), if_pos (by omega), impl_within_eq, Option.bind_some, wrap_succ (n := l.length) (by omega) hl, impl_allWithin_l0 lo hi l hl d (i + 1) k (by omega) (by omega), drop_rd l i (by omega)]
    unfold allIn
    rw [List.all_cons]
    cases inR (rd l (i : Int)) lo hi <;> simp
theorem impl_allWithin_eq (k : Nat) (l : List Int) (a b : Int) (hl : l.length ≤ 9223372036854775807) (hk : l.length < k) : Q31.f k l a b = some (allIn l a b) := by
  unfold Q31.f
  have := impl_allWithin_l0 a b l hl l.length 0 k (by omega) hk
  simpa using this
theorem impl_Road_has_eq (k : Nat) (s : Int) (r : Bool) (l : List Int) (hl : l.length ≤ 9223372036854775807) (hk : l.length < k) : Q42.f k s r l = some (allIn l 0 (wrap64 (s - 1))) := by
  unfold Q42.f
  rw [impl_allWithin_eq k l _ _ hl hk, Option.bind_some]
theorem impl_Road_has1 (k : Nat) (s : Int) (r : Bool) (x : Int) (hs : road s r = true) (hk : 1 < k) : Q42.f k s r [x] = some (inR x 0 (s - 1)) := by
  rw [impl_Road_has_eq k s r [x] (by simp) (by simpa using hk)]
  have := road_bd hs
  rw [wrap64_id (by omega) (by omega)]
  simp [allIn]
theorem impl_Road_hasN (k : Nat) (s : Int) (r : Bool) (l : List Int) (hs : road s r = true) (hl : l.length ≤ 9223372036854775807) (hk : l.length < k) : Q42.f k s r l = some (allIn l 0 (s - 1)) := by
  rw [impl_Road_has_eq k s r l hl hk]
  have := road_bd hs
  rw [wrap64_id (by omega) (by omega)]
theorem spec_l2Place_eq (s : Int) (r : Bool) (x : Int) : Q43.f s r x = some (road s r && inR x 0 (s - 1)) := by
  unfold Q43.f
  rw [spec_l2Road_eq, Option.bind_some]
  cases h : road s r with
  | false => simp
  | true =>
    have := road_bd h
    rw [wrap64_id (by omega) (by omega)]
    simp [spec_l1In_eq]
theorem spec_l6Starts_l0 (s : Int) (r : Bool) (l : List Int) (hl : l.length ≤ 9223372036854775807) : ∀ (d i k : Nat), i + d = min 5 l.length → 2 * d + 1 < k →
    Q9.l0 k l (i : Int) s r = some (road s r && inR (l.length : Int) 1 4 && allIn (l.drop i) 0 (s - 1))
  | 0, i, k, h, hk => by
    obtain ⟨k, rfl⟩ := succ_of (k := k) (by omega)
    obtain ⟨k, rfl⟩ := succ_of (k := k) (by omega)
    have hf : (if (i : Int) < (l.length : Int) then Q9.j1 (k + 1) l (i : Int) (decide ((i : Int) ≤ 4)) s r else Q9.j1 (k + 1) l (i : Int) false s r) = Q9.j1 (k + 1) l (i : Int) false s r := by
      by_cases c : (i : Int) < (l.length : Int)
      · rw [if_pos c, decide_eq_false (by omega)]
      · rw [if_neg c]
    simp only [Q9.l0]
    rw [hf]
    simp only [Q9.j1]
    rw [if_neg (by simp), spec_l2Road_eq, Option.bind_some]
    cases hr : road s r with
    | false => simp
    | true =>
      rw [if_pos rfl, spec_l1In_eq, Option.bind_some, Bool.true_and]
      by_cases c : l.length ≤ 5
      · rw [drop_end l i (by omega)]
        simp [allIn]
      · have : inR (l.length : Int) 1 4 = false := inR_not.2 (by omega)
        simp [this]
  | d + 1, i, k, h, hk => by
    obtain ⟨k, rfl⟩ := succ_of (k := k) (by omega)
    obtain ⟨k, rfl⟩ := succ_of (k := k) (by omega)
    simp only [Q9.l0]
    rw [if_pos (by omega), decide_eq_true (by omega)]
    simp only [Q9.j1]
    rw [if_pos trivial, if_pos (by omega), if_pos (by omega), spec_l2Place_eq, Option.bind_some, drop_rd l i (by omega), wrap_succ (n := l.length) (by omega) hl, spec_l6Starts_l0 s r l hl d (i + 1) k (by omega) (by omega)]
    unfold allIn
    rw [List.all_cons]
    cases road s r <;> cases inR (rd l (i : Int)) 0 (s - 1) <;> simp
theorem spec_l6Starts_eq (k : Nat) (s : Int) (r : Bool) (l : List Int) (hl : l.length ≤ 9223372036854775807) (hk : 12 < k) :
    Q9.f k s r l = some (road s r && inR (l.length : Int) 1 4 && allIn l 0 (s - 1)) := by
  unfold Q9.f
  have := spec_l6Starts_l0 s r l hl (min 5 l.length) 0 k (by omega) (by omega)
  simpa using this
theorem impl_Road_areExplorers_eq (k : Nat) (s : Int) (r : Bool) (l : List Int) (hs : road s r = true) (hl : l.length ≤ 9223372036854775807) (hk : l.length < k) :
    Q24.f k s r l = some (inR (l.length : Int) 1 4 && allIn l 0 (s - 1)) := by
  unfold Q24.f
  rw [impl_within_eq, Option.bind_some, impl_Road_hasN k s r l hs hl hk]
  cases inR (l.length : Int) 1 4 <;> simp
def runL (s x : Int) (n : Nat) : List Int := (List.range n).map (fun (i : Nat) => Int.tmod (x + i) s)
theorem runL_snoc (s x : Int) (n : Nat) : runL s x (n + 1) = runL s x n ++ [Int.tmod (x + n) s] := by unfold runL; rw [List.range_succ]; simp
theorem runL_len (s x : Int) (n : Nat) : (runL s x n).length = n := by simp [runL]
def fits (s : Int) (r : Bool) (x n : Int) : Bool := inR x 0 (s - 1) && inR n 0 s && (r || decide (x + n ≤ s))
theorem spec_l6Run_l0 (s : Int) (r : Bool) (x : Int) (n : Nat) (hs : 2 ≤ s ∧ s ≤ 24) (hx : 0 ≤ x ∧ x ≤ 1000) (hn : n ≤ 1000) : ∀ (d i k : Nat), i + d = n → d < k →
    Q28.l0 k x (n : Int) (runL s x i) (i : Int) s r = some (runL s x n)
  | 0, i, k, h, hk => by
    obtain ⟨k, rfl⟩ := succ_of (k := k) (by omega)
    simp only [Q28.l0]
    rw [if_neg (by omega), show i = n by omega]
  | d + 1, i, k, h, hk => by
    obtain ⟨k, rfl⟩ := succ_of (k := k) (by omega)
    simp only [Q28.l0]
    rw [if_pos (by omega), if_neg (by omega), if_pos (by rw [runL_len]; omega), wrap64_id (x := x + i) (by omega) (by omega), wrap_succ (n := n) (by omega) (by omega), ← runL_snoc]
    exact spec_l6Run_l0 s r x n hs hx hn d (i + 1) k (by omega) (by omega)
theorem spec_l6Run_eq (k : Nat) (s : Int) (r : Bool) (x n : Int) (hs : 2 ≤ s ∧ s ≤ 24) (hx : 0 ≤ x ∧ x ≤ 1000) (hn : 0 ≤ n ∧ n ≤ 1000) (hk : n.toNat < k) : Q28.f k s r x n = some (runL s x n.toNat) := by
  unfold Q28.f
  have := spec_l6Run_l0 s r x n.toNat hs hx (by omega) n.toNat 0 k (by omega) hk
  rw [Int.toNat_of_nonneg hn.1] at this
  simpa [runL] using this
theorem impl_Road_run_l0 (s : Int) (r : Bool) (x : Int) (n : Nat) (hs : 2 ≤ s ∧ s ≤ 24) (hx : 0 ≤ x ∧ x ≤ 1000) (hn : n ≤ 1000) : ∀ (d i k : Nat), i + d = n → d < k →
    Q29.l0 k x (runL s x i) (n : Int) (i : Int) s r = some (runL s x n)
  | 0, i, k, h, hk => by
    obtain ⟨k, rfl⟩ := succ_of (k := k) (by omega)
    simp only [Q29.l0]
    rw [if_neg (by omega), show i = n by omega]
  | d + 1, i, k, h, hk => by
    obtain ⟨k, rfl⟩ := succ_of (k := k) (by omega)
    simp only [Q29.l0]
    rw [if_pos (by omega), if_neg (by omega), if_pos (by rw [runL_len]; omega), wrap64_id (x := x + i) (by omega) (by omega), wrap_succ (n := n) (by omega) (by omega), ← runL_snoc]
    exact impl_Road_run_l0 s r x n hs hx hn d (i + 1) k (by omega) (by omega)
theorem impl_Road_run_eq (k : Nat) (s : Int) (r : Bool) (x n : Int) (hs : 2 ≤ s ∧ s ≤ 24) (hx : 0 ≤ x ∧ x ≤ 1000) (hn : 0 ≤ n ∧ n ≤ 1000) (hk : n.toNat < k) : Q29.f k s r x n = some (runL s x n.toNat) := by
  unfold Q29.f
  have := impl_Road_run_l0 s r x n.toNat hs hx (by omega) n.toNat 0 k (by omega) hk
  rw [Int.toNat_of_nonneg hn.1] at this
  simpa [runL] using this
theorem impl_Road_isRun_eq (k : Nat) (s : Int) (r : Bool) (x n : Int) (hr : road s r = true) (hk : 1 < k) : Q76.f k s r x n = some (fits s r x n) := by
  unfold Q76.f fits
  rw [impl_Road_has1 k s r x hr hk, Option.bind_some]
  have := road_bd hr
  cases hx : inR x 0 (s - 1) with
  | false => simp
  | true =>
    have hx := inR_iff.1 hx
    rw [impl_within_eq]
    cases hn : inR n 0 s with
    | false => simp
    | true =>
      have hn := inR_iff.1 hn
      rw [wrap64_id (x := x + n) (by omega) (by omega)]
      cases r <;> simp
def gapM (s : Int) (r : Bool) (a b : Int) : Int :=
  let d := if a - b < b - a then b - a else a - b
  if r = true then (if s - d < d then s - d else d) else d
theorem impl_Road_gap_eq (s : Int) (r : Bool) (a b : Int) (hs : 0 ≤ s ∧ s ≤ 1000) (ha : -1000000 ≤ a ∧ a ≤ 1000000) (hb : -1000000 ≤ b ∧ b ≤ 1000000) : Q80.f s r a b = some (gapM s r a b) := by
  unfold Q80.f gapM
  have e1 : wrap64 (a - b) = a - b := wrap64_id (by omega) (by omega)
  have e2 : wrap64 (b - a) = b - a := wrap64_id (by omega) (by omega)
  rw [e1, e2]
  have e : mx (a - b) (b - a) = if a - b < b - a then b - a else a - b := rfl
  rw [e]
  have e3 : wrap64 (s - (if a - b < b - a then b - a else a - b)) = s - (if a - b < b - a then b - a else a - b) := wrap64_id (by split <;> omega) (by split <;> omega)
  rw [e3]
  unfold mn
  cases r <;> simp
def lo2 (a b : Int) : Int := if a < b then a else b
theorem spec_l1Least_eq (a b : Int) : Q22.f a b = some (lo2 a b) := by unfold Q22.f lo2; split <;> rfl
def hi2 (a b : Int) : Int := if b < a then a else b
theorem spec_l1Most_eq (a b : Int) : Q14.f a b = some (hi2 a b) := by unfold Q14.f hi2; by_cases h : b < a <;> simp [h]
theorem spec_l2Gap_eq (s : Int) (r : Bool) (a b : Int) (hs : 0 ≤ s ∧ s ≤ 1000) (ha : -1000000 ≤ a ∧ a ≤ 1000000) (hb : -1000000 ≤ b ∧ b ≤ 1000000) : Q81.f s r a b = some (gapM s r a b) := by
  unfold Q81.f gapM
  rw [wrap64_id (x := a - b) (by omega) (by omega), wrap64_id (x := b - a) (by omega) (by omega), spec_l1Most_eq, Option.bind_some]
  have e : hi2 (a - b) (b - a) = if a - b < b - a then b - a else a - b := by unfold hi2; split <;> split <;> omega
  rw [e]
  have e3 : wrap64 (s - (if a - b < b - a then b - a else a - b)) = s - (if a - b < b - a then b - a else a - b) := wrap64_id (by split <;> omega) (by split <;> omega)
  rw [e3, spec_l1Least_eq]
  unfold lo2
  cases r <;> simp
  split <;> split <;> omega
/-- The least gap of p to a list of places, at most m. -/
def nearM (s : Int) (r : Bool) (p : Int) : List Int → Int → Int
  | [], m => m
  | q :: t, m => nearM s r p t (if gapM s r p q < m then gapM s r p q else m)
def farOth (s : Int) (r : Bool) (l : List Int) : Nat → Int → Int → Int → Int × Int
  | 0, _, f, o => (f, o)
  | d + 1, p, f, o => farOth s r l d (p + 1) (if f < nearM s r p l s then nearM s r p l s else f) (if nearM s r p l s > 0 then o + 1 else o)
def finM (n : Nat) (x : Int × Int) : Int := if x.1 < Int.tdiv (x.2 + n - 1) n then Int.tdiv (x.2 + n - 1) n else x.1
def boundM (s : Int) (r : Bool) (l : List Int) : Int := finM l.length (farOth s r l s.toNat 0 0 0)
theorem allIn_rd {l : List Int} {a b : Int} (h : allIn l a b = true) (i : Nat) (hi : i < l.length) : a ≤ rd l (i : Int) ∧ rd l (i : Int) ≤ b := by
  unfold allIn at h
  rw [List.all_eq_true] at h
  rw [rd_get l i hi]
  exact inR_iff.1 (h _ (List.getElem_mem hi))
theorem spec_l6Bound_l1 (s : Int) (r : Bool) (l : List Int) (hs : 2 ≤ s ∧ s ≤ 24) (hl : l.length ≤ 4) (ha : allIn l 0 (s - 1) = true) (f o p : Int) (hp : 0 ≤ p ∧ p ≤ 24) : ∀ (d i k : Nat) (m : Int), i + d = l.length → d < k → ∃ k', k' + d + 1 = k ∧
    Q12.l1 k l f o p m (i : Int) s r = (Q14.f f (nearM s r p (l.drop i) m)).bind fun t => if nearM s r p (l.drop i) m > 0 then Q12.l0 k' l t (wrap64 (o + 1)) (wrap64 (p + 1)) s r else Q12.l0 k' l t o (wrap64 (p + 1)) s r
  | 0, i, k, m, h, hk => by
    obtain ⟨k, rfl⟩ := succ_of (k := k) (by omega)
    refine ⟨k, rfl, ?_⟩
    simp only [Q12.l1]
    rw [if_neg (by omega), drop_end l i (by omega)]
    rfl
  | d + 1, i, k, m, h, hk => by
    obtain ⟨k, rfl⟩ := succ_of (k := k) (by omega)
    obtain ⟨k', hk', e⟩ := spec_l6Bound_l1 s r l hs hl ha f o p hp d (i + 1) k (if gapM s r p (rd l (i : Int)) < m then gapM s r p (rd l (i : Int)) else m) (by omega) (by omega)
    refine ⟨k', by omega, ?_⟩
    simp only [Q12.l1]
    have hb := allIn_rd ha i (by omega)
    have e1 : lo2 m (gapM s r p (rd l (i : Int))) = if gapM s r p (rd l (i : Int)) < m then gapM s r p (rd l (i : Int)) else m := by unfold lo2; split <;> split <;> omega
    rw [if_pos (by omega), if_pos (by omega), spec_l2Gap_eq s r _ _ (by omega) (by omega) (by omega), Option.bind_some, spec_l1Least_eq, Option.bind_some, e1, wrap_succ (n := l.length) (by omega) (by omega), e, drop_rd l i (by omega)]
    rfl
theorem spec_l6Bound_l0 (s : Int) (r : Bool) (l : List Int) (hs : 2 ≤ s ∧ s ≤ 24) (hl : l.length ≤ 4) (hl0 : 0 < l.length) (ha : allIn l 0 (s - 1) = true) : ∀ (d k : Nat) (f o p : Int), 0 ≤ p → p + d = s → 0 ≤ o → o ≤ p → 7 * d + 1 < k →
    Q12.l0 k l f o p s r = some (finM l.length (farOth s r l d p f o))
  | 0, k, f, o, p, h0, h, ho, ho1, hk => by
    obtain ⟨k, rfl⟩ := succ_of (k := k) (by omega)
    simp only [Q12.l0]
    have hd : -9223372036854775808 ≤ Int.tdiv (o + l.length - 1) l.length ∧ Int.tdiv (o + l.length - 1) l.length ≤ 9223372036854775807 := by
      have h1 : 0 ≤ Int.tdiv (o + l.length - 1) l.length := Int.tdiv_nonneg (by omega) (by omega)
      have h2 : Int.tdiv (o + l.length - 1) l.length ≤ o + l.length - 1 := by
        rw [Int.tdiv_eq_ediv_of_nonneg (by omega)]
        exact Int.ediv_le_self _ (by omega)
      omega
    rw [if_neg (by omega), if_neg (by omega), wrap64_id (x := o + l.length) (by omega) (by omega), wrap64_id (x := o + l.length - 1) (by omega) (by omega), wrap64_id hd.1 hd.2, spec_l1Most_eq]
    simp only [Option.bind_some, farOth]
    unfold hi2 finM
    simp only
    congr 1
    generalize Int.tdiv (o + l.length - 1) l.length = q
    split <;> split <;> omega
  | d + 1, k, f, o, p, h0, h, ho, ho1, hk => by
    obtain ⟨k, rfl⟩ := succ_of (k := k) (by omega)
    simp only [Q12.l0]
    rw [if_pos (by omega)]
    obtain ⟨k', hk', e⟩ := spec_l6Bound_l1 s r l hs hl ha f o p ⟨by omega, by omega⟩ l.length 0 k s (by omega) (by omega)
    have e' : Q12.l1 k l f o p s 0 s r = _ := e
    rw [e', spec_l1Most_eq, Option.bind_some, List.drop_zero, wrap64_id (x := o + 1) (by omega) (by omega), wrap64_id (x := p + 1) (by omega) (by omega)]
    have e1 : hi2 f (nearM s r p l s) = if f < nearM s r p l s then nearM s r p l s else f := by unfold hi2; split <;> split <;> omega
    rw [e1]
    by_cases c : nearM s r p l s > 0
    · rw [if_pos c, spec_l6Bound_l0 s r l hs hl hl0 ha d k' _ (o + 1) (p + 1) (by omega) (by omega) (by omega) (by omega) (by omega)]
      simp only [farOth]
      rw [if_pos c]
    · rw [if_neg c, spec_l6Bound_l0 s r l hs hl hl0 ha d k' _ o (p + 1) (by omega) (by omega) (by omega) (by omega) (by omega)]
      simp only [farOth]
      rw [if_neg c]
theorem spec_l6Bound_eq (k : Nat) (s : Int) (r : Bool) (l : List Int) (hs : 2 ≤ s ∧ s ≤ 24) (hl : l.length ≤ 4) (hl0 : 0 < l.length) (ha : allIn l 0 (s - 1) = true) (hk : 200 < k) : Q12.f k s r l = some (boundM s r l) := by
  unfold Q12.f boundM
  exact spec_l6Bound_l0 s r l hs hl hl0 ha s.toNat k 0 0 0 (by omega) (by omega) (by omega) (by omega) (by omega)
theorem impl_ExploreBound_l1 (s : Int) (r : Bool) (l : List Int) (hs : 2 ≤ s ∧ s ≤ 24) (hl : l.length ≤ 4) (ha : allIn l 0 (s - 1) = true) (f o p : Int) (hp : 0 ≤ p ∧ p ≤ 24) : ∀ (d i k : Nat) (m : Int), i + d = l.length → d < k → ∃ k', k' + d + 1 = k ∧
    Q11.l1 k l f o p m s p l (l.length : Int) (i : Int) s r = if nearM s r p (l.drop i) m > 0 then Q11.l0 k' l (mx f (nearM s r p (l.drop i) m)) (wrap64 (o + 1)) s (wrap64 (p + 1)) s r else Q11.l0 k' l (mx f (nearM s r p (l.drop i) m)) o s (wrap64 (p + 1)) s r
  | 0, i, k, m, h, hk => by
    obtain ⟨k, rfl⟩ := succ_of (k := k) (by omega)
    refine ⟨k, rfl, ?_⟩
    simp only [Q11.l1]
    rw [if_neg (by omega), drop_end l i (by omega)]
    rfl
  | d + 1, i, k, m, h, hk => by
    obtain ⟨k, rfl⟩ := succ_of (k := k) (by omega)
    obtain ⟨k', hk', e⟩ := impl_ExploreBound_l1 s r l hs hl ha f o p hp d (i + 1) k (if gapM s r p (rd l (i : Int)) < m then gapM s r p (rd l (i : Int)) else m) (by omega) (by omega)
    refine ⟨k', by omega, ?_⟩
    simp only [Q11.l1]
    have hb := allIn_rd ha i (by omega)
    have e1 : mn m (gapM s r p (rd l (i : Int))) = if gapM s r p (rd l (i : Int)) < m then gapM s r p (rd l (i : Int)) else m := rfl
    rw [if_pos (by omega), if_pos (by omega), if_pos (by omega), impl_Road_gap_eq s r _ _ (by omega) (by omega) (by omega), Option.bind_some, e1, wrap_succ (n := l.length) (by omega) (by omega), e, drop_rd l i (by omega)]
    rfl
theorem impl_ExploreBound_l0 (s : Int) (r : Bool) (l : List Int) (hs : 2 ≤ s ∧ s ≤ 24) (hl : l.length ≤ 4) (hl0 : 0 < l.length) (ha : allIn l 0 (s - 1) = true) : ∀ (d k : Nat) (f o p : Int), 0 ≤ p → p + d = s → 0 ≤ o → o ≤ p → 7 * d + 1 < k →
    Q11.l0 k l f o s p s r = some (finM l.length (farOth s r l d p f o), true)
  | 0, k, f, o, p, h0, h, ho, ho1, hk => by
    obtain ⟨k, rfl⟩ := succ_of (k := k) (by omega)
    simp only [Q11.l0]
    have hd : -9223372036854775808 ≤ Int.tdiv (o + l.length - 1) l.length ∧ Int.tdiv (o + l.length - 1) l.length ≤ 9223372036854775807 := by
      have h1 : 0 ≤ Int.tdiv (o + l.length - 1) l.length := Int.tdiv_nonneg (by omega) (by omega)
      have h2 : Int.tdiv (o + l.length - 1) l.length ≤ o + l.length - 1 := by
        rw [Int.tdiv_eq_ediv_of_nonneg (by omega)]
        exact Int.ediv_le_self _ (by omega)
      omega
    rw [if_neg (by omega), if_neg (by omega), wrap64_id (x := o + l.length) (by omega) (by omega), wrap64_id (x := o + l.length - 1) (by omega) (by omega), wrap64_id hd.1 hd.2]
    rfl
  | d + 1, k, f, o, p, h0, h, ho, ho1, hk => by
    obtain ⟨k, rfl⟩ := succ_of (k := k) (by omega)
    simp only [Q11.l0]
    rw [if_pos (by omega)]
    obtain ⟨k', hk', e⟩ := impl_ExploreBound_l1 s r l hs hl ha f o p ⟨by omega, by omega⟩ l.length 0 k s (by omega) (by omega)
    have e' : Q11.l1 k l f o p s s p l (l.length : Int) 0 s r = _ := e
    rw [e', List.drop_zero, wrap64_id (x := o + 1) (by omega) (by omega), wrap64_id (x := p + 1) (by omega) (by omega)]
    have e1 : mx f (nearM s r p l s) = if f < nearM s r p l s then nearM s r p l s else f := rfl
    rw [e1]
    by_cases c : nearM s r p l s > 0
    · rw [if_pos c, impl_ExploreBound_l0 s r l hs hl hl0 ha d k' _ (o + 1) (p + 1) (by omega) (by omega) (by omega) (by omega) (by omega)]
      simp only [farOth]
      rw [if_pos c]
    · rw [if_neg c, impl_ExploreBound_l0 s r l hs hl hl0 ha d k' _ o (p + 1) (by omega) (by omega) (by omega) (by omega) (by omega)]
      simp only [farOth]
      rw [if_neg c]
theorem spec_l1Has_l0 (x : Int) (l : List Int) (hl : l.length ≤ 9223372036854775807) : ∀ (d i k : Nat), i + d = l.length → d < k → Q46.l0 k l x (i : Int) = some ((l.drop i).any fun y => decide (y = x))
  | 0, i, k, h, hk => by
    obtain ⟨k, rfl⟩ := succ_of (k := k) (by omega)
    simp only [Q46.l0]
    rw [if_neg (by omega), drop_end l i (by omega)]
    rfl
  | d + 1, i, k, h, hk => by
    obtain ⟨k, rfl⟩ := succ_of (k := k) (by omega)
    simp only [Q46.l0]
    rw [if_pos (by omega), if_pos (by omega), drop_rd l i (by omega), List.any_cons]
    by_cases c : rd l (i : Int) = x
    · rw [if_pos c, decide_eq_true c]
      rfl
    · rw [if_neg c, decide_eq_false c, Bool.false_or, wrap_succ (n := l.length) (by omega) hl]
      exact spec_l1Has_l0 x l hl d (i + 1) k (by omega) (by omega)
theorem spec_l1Has_eq (k : Nat) (x : Int) (l : List Int) (hl : l.length ≤ 9223372036854775807) (hk : l.length < k) : Q46.f k l x = some (l.any fun y => decide (y = x)) := by
  unfold Q46.f
  exact spec_l1Has_l0 x l hl l.length 0 k (by omega) hk
theorem slices_Repeat_eq (k : Nat) (l : List Int) (c : Nat) (h0 : 0 < l.length) (h1 : l.length ≤ 65536) (h2 : 1 ≤ c) (h3 : c ≤ 65536) : Q55.f k l (c : Int) = some (repI l c) := by
  unfold Q55.f
  rw [if_pos ⟨h0, h1, by omega, by omega⟩, Int.toNat_natCast]
def byteL (l : List Int) : Prop := ∀ x ∈ l, 0 ≤ x ∧ x ≤ 255
theorem rd_in {l : List Int} {i : Int} (h0 : 0 ≤ i) (h1 : i < (l.length : Int)) : rd l i ∈ l := by
  unfold rd
  rw [List.getD_eq_getElem?_getD, List.getElem?_eq_getElem (show i.toNat < l.length by omega)]
  exact List.getElem_mem _
theorem u64_bd (x : Int) : 0 ≤ IntKind.u64.wrap x ∧ IntKind.u64.wrap x < 18446744073709551616 := by
  simp [IntKind.wrap, IntKind.bits, IntKind.signed]
  omega
theorem and255 (x : Int) (h0 : 0 ≤ x) (h1 : x < 18446744073709551616) : 0 ≤ Go.bits .and .u64 x 255 ∧ Go.bits .and .u64 x 255 ≤ 255 := by
  obtain ⟨n, rfl⟩ := Int.eq_ofNat_of_zero_le h0
  have h := bits_and_u64_nat n 255 (by omega) (by decide)
  rw [show ((255 : Nat) : Int) = 255 from rfl] at h
  rw [h]
  have h2 := Nat.and_le_right (n := n) (m := 255)
  omega
theorem next_ok (l : List Int) (hl : byteL l) (a b : Int) (h0 : 0 ≤ a) (h1 : a + 1 ≤ 4000000000000000000) : ∃ x b', Q49.f l a b = some (x, a + 1, b') ∧ 0 ≤ x ∧ x ≤ 255 := by
  unfold Q49.f
  have e : wrap64 (a + 1) = a + 1 := wrap64_id (by omega) (by omega)
  rw [e]
  by_cases c : a < (l.length : Int)
  · rw [if_pos c, if_pos h0, if_pos (by omega)]
    have hx := hl _ (rd_in h0 c)
    rw [wrap64_id (x := rd l a) (by omega) (by omega)]
    exact ⟨_, _, rfl, hx.1, hx.2⟩
  · rw [if_neg c, if_neg (by omega)]
    have hb := u64_bd (IntKind.u64.wrap (IntKind.u64.wrap (b * 6364136223846793005)) + 462197)
    generalize IntKind.u64.wrap (IntKind.u64.wrap (IntKind.u64.wrap (b * 6364136223846793005)) + 462197) = U at hb ⊢
    have h := and255 (U / 1099511627776) (by omega) (by omega)
    refine ⟨_, _, rfl, ?_⟩
    rw [wrap64_id (by omega) (by omega)]
    exact h
theorem pick_ok (l : List Int) (hl : byteL l) (a b n : Int) (h0 : 0 ≤ a) (h1 : a + 1 ≤ 4000000000000000000) (hn : n ≤ 200) : ∃ x a' b', Q30.f l a b n = some (x, a', b') ∧ (0 ≤ x ∧ x ≤ 200 ∧ (x < n ∨ x = 0)) ∧ a ≤ a' ∧ a' ≤ a + 1 := by
  unfold Q30.f
  by_cases c : n ≤ 1
  · rw [if_pos c]
    exact ⟨0, a, b, rfl, by omega, by omega, by omega⟩
  · obtain ⟨x, b', e, hx⟩ := next_ok l hl a b h0 h1
    rw [if_neg c, e, Option.bind_some, if_neg (by omega), if_neg (by omega)]
    have h3 := Int.tmod_nonneg n hx.1
    have h4 := Int.tmod_lt_of_pos x (show 0 < n by omega)
    have h5 : 0 ≤ Int.tmod x n ∧ Int.tmod x n ≤ 200 ∧ (Int.tmod x n < n ∨ Int.tmod x n = 0) := by omega
    exact ⟨_, _, _, rfl, h5, by show a ≤ a + 1; omega, by show a + 1 ≤ a + 1; omega⟩
theorem one_ok (l : List Int) (hl : byteL l) (a b n : Int) (h0 : 0 ≤ a) (h1 : a + 1 ≤ 4000000000000000000) (hn : n ≤ 200) : ∃ (x : Bool) (a' b' : Int), Q8.f l a b n = some (x, a', b') ∧ a ≤ a' ∧ a' ≤ a + 1 := by
  unfold Q8.f
  obtain ⟨x, a', b', e, _, h3⟩ := pick_ok l hl a b n h0 h1 hn
  rw [e]
  exact ⟨_, _, _, rfl, h3⟩
theorem among_ok (l : List Int) (hl : byteL l) (a b : Int) (xs : List Int) (h0 : 0 ≤ a) (h1 : a + 1 ≤ 4000000000000000000) (hx : 0 < xs.length) (hx2 : xs.length ≤ 200) : ∃ x a' b', Q16.f l a b xs = some (x, a', b') ∧ x ∈ xs ∧ a ≤ a' ∧ a' ≤ a + 1 := by
  unfold Q16.f
  obtain ⟨x, a', b', e, h2, h3⟩ := pick_ok l hl a b (xs.length : Int) h0 h1 (by omega)
  rw [e, Option.bind_some, if_pos h2.1, if_pos (by show x < _; omega)]
  exact ⟨_, _, _, rfl, rd_in h2.1 (by omega), h3⟩
theorem size_ok (l : List Int) (hl : byteL l) (a b : Int) (h0 : 0 ≤ a) (h1 : a + 2 ≤ 4000000000000000000) : ∃ x a' b', Q47.f l a b = some (x, a', b') ∧ (-1 ≤ x ∧ x ≤ 4611686018427387904) ∧ a ≤ a' ∧ a' ≤ a + 2 := by
  unfold Q47.f
  obtain ⟨x, a1, b1, e, h2⟩ := one_ok l hl a b 40 h0 (by omega) (by omega)
  rw [e, Option.bind_some]
  cases x with
  | true =>
    obtain ⟨y, a2, b2, e2, hy, h3⟩ := among_ok l hl a1 b1 [1, 2, 24, 25, 0, (-1), 4611686018427387904] (by omega) (by omega) (by simp) (by simp)
    rw [if_pos rfl, e2]
    exact ⟨_, _, _, rfl, by simp at hy; omega, by show a ≤ a2; omega, by show a2 ≤ _; omega⟩
  | false =>
    obtain ⟨y, a2, b2, e2, hy, h3⟩ := among_ok l hl a1 b1 [5, 6, 4, 8, 3, 10, 7, 13, 24, 2] (by omega) (by omega) (by simp) (by simp)
    rw [if_neg (by simp), e2]
    exact ⟨_, _, _, rfl, by simp at hy; omega, by show a ≤ a2; omega, by show a2 ≤ _; omega⟩
theorem ring_ok (l : List Int) (hl : byteL l) (a b : Int) (h0 : 0 ≤ a) (h1 : a + 3 ≤ 4000000000000000000) : ∃ (x : Int) (r : Bool) (a' b' : Int), Q60.f l a b = some (x, r, a', b') ∧ (-1 ≤ x ∧ x ≤ 4611686018427387904) ∧ a ≤ a' ∧ a' ≤ a + 3 := by
  unfold Q60.f
  obtain ⟨x, a1, b1, e, hx, h2⟩ := size_ok l hl a b h0 (by omega)
  rw [e, Option.bind_some]
  by_cases c : x = 2
  · obtain ⟨y, a2, b2, e2, h3⟩ := one_ok l hl a1 b1 4 (by omega) (by omega) (by omega)
    rw [if_pos c, e2, Option.bind_some]
    cases y with
    | true => exact ⟨_, _, _, _, if_pos rfl, hx, by show a ≤ a2; omega, by show a2 ≤ _; omega⟩
    | false => exact ⟨_, _, _, _, if_neg (by simp), by omega, by show a ≤ a2; omega, by show a2 ≤ _; omega⟩
  · rw [if_neg c]
    exact ⟨_, _, _, _, rfl, hx, by show a ≤ a1; omega, by show a1 ≤ _; omega⟩
theorem line_ok (l : List Int) (hl : byteL l) (a b : Int) (h0 : 0 ≤ a) (h1 : a + 2 ≤ 4000000000000000000) : ∃ (x : Int) (r : Bool) (a' b' : Int), Q63.f l a b = some (x, r, a', b') ∧ (-1 ≤ x ∧ x ≤ 4611686018427387904) ∧ a ≤ a' ∧ a' ≤ a + 2 := by
  unfold Q63.f
  obtain ⟨x, a1, b1, e, hx, h2⟩ := size_ok l hl a b h0 (by omega)
  rw [e]
  exact ⟨_, _, _, _, rfl, hx, h2⟩
theorem roadd_ok (l : List Int) (hl : byteL l) (a b : Int) (h0 : 0 ≤ a) (h1 : a + 4 ≤ 4000000000000000000) : ∃ (x : Int) (r : Bool) (a' b' : Int), Q56.f l a b = some (x, r, a', b') ∧ (-1 ≤ x ∧ x ≤ 4611686018427387904) ∧ a ≤ a' ∧ a' ≤ a + 4 := by
  unfold Q56.f
  obtain ⟨y, a1, b1, e, h2⟩ := one_ok l hl a b 2 h0 (by omega) (by omega)
  rw [e, Option.bind_some]
  cases y with
  | true =>
    obtain ⟨x, r, a2, b2, e2, hx, h3⟩ := line_ok l hl a1 b1 (by omega) (by omega)
    rw [if_pos rfl, e2]
    exact ⟨_, _, _, _, rfl, hx, by show a ≤ a2; omega, by show a2 ≤ _; omega⟩
  | false =>
    obtain ⟨x, r, a2, b2, e2, hx, h3⟩ := ring_ok l hl a1 b1 (by omega) (by omega)
    rw [if_neg (by simp), e2]
    exact ⟨_, _, _, _, rfl, hx, by show a ≤ a2; omega, by show a2 ≤ _; omega⟩
theorem shortRoad_ok (l : List Int) (hl : byteL l) (a b : Int) (h0 : 0 ≤ a) (h1 : a + 6 ≤ 4000000000000000000) : ∃ (x : Int) (r : Bool) (a' b' : Int), Q51.f l a b = some (x, r, a', b') ∧ (-1 ≤ x ∧ x ≤ 4611686018427387904) ∧ a ≤ a' ∧ a' ≤ a + 6 := by
  unfold Q51.f
  obtain ⟨x, r, a1, b1, e, hx, h2⟩ := roadd_ok l hl a b h0 (by omega)
  rw [e, Option.bind_some]
  by_cases c : x > 13
  · obtain ⟨y, a2, b2, e2, h3⟩ := one_ok l hl a1 b1 8 (by omega) (by omega) (by omega)
    rw [if_pos c, e2, Option.bind_some]
    cases y with
    | true => exact ⟨_, _, _, _, if_pos rfl, hx, by show a ≤ a2; omega, by show a2 ≤ _; omega⟩
    | false =>
      obtain ⟨z, a3, b3, e3, hz, h4⟩ := pick_ok l hl a2 b2 10 (by omega) (by omega) (by omega)
      rw [if_neg (by simp), e3]
      exact ⟨_, _, _, _, rfl, by show -1 ≤ wrap64 (3 + z) ∧ wrap64 (3 + z) ≤ _; rw [wrap64_id (by omega) (by omega)]; omega, by show a ≤ a3; omega, by show a3 ≤ _; omega⟩
  · rw [if_neg c]
    exact ⟨_, _, _, _, rfl, hx, by show a ≤ a1; omega, by show a1 ≤ _; omega⟩
theorem placeOn_ok (l : List Int) (hl : byteL l) (a b s : Int) (r : Bool) (hs : -1 ≤ s ∧ s ≤ 4611686018427387904) (h0 : 0 ≤ a) (h1 : a + 2 ≤ 4000000000000000000) : ∃ x a' b', Q82.f l a b s r = some (x, a', b') ∧ (-2 ≤ x ∧ x ≤ 4611686018427387904) ∧ a ≤ a' ∧ a' ≤ a + 2 := by
  unfold Q82.f
  obtain ⟨y, a1, b1, e, h2⟩ := one_ok l hl a b 30 h0 (by omega) (by omega)
  rw [e, Option.bind_some]
  cases y with
  | true =>
    obtain ⟨x, a2, b2, e2, hx, h3⟩ := among_ok l hl a1 b1 [(-1), 0, s, wrap64 (s - 1), 4611686018427387904] (by omega) (by omega) (by simp) (by simp)
    rw [if_pos rfl, e2]
    rw [wrap64_id (x := s - 1) (by omega) (by omega)] at hx
    exact ⟨_, _, _, rfl, by simp at hx; omega, by show a ≤ a2; omega, by show a2 ≤ _; omega⟩
  | false =>
    rw [if_neg (by simp)]
    have e3 : ∃ m, Q22.f s 24 = some m ∧ m ≤ 24 := by
      unfold Q22.f
      by_cases c : s < 24
      · exact ⟨s, if_pos c, by omega⟩
      · exact ⟨24, if_neg c, by omega⟩
    obtain ⟨m, e3, hm⟩ := e3
    have e4 : ∃ n, Q14.f m 1 = some n ∧ n ≤ 24 := by
      unfold Q14.f
      by_cases c : m > 1
      · exact ⟨m, if_pos c, by omega⟩
      · exact ⟨1, if_neg c, by omega⟩
    obtain ⟨n, e4, hn⟩ := e4
    obtain ⟨x, a2, b2, e2, hx, h3⟩ := pick_ok l hl a1 b1 n (by omega) (by omega) (by omega)
    rw [e3, Option.bind_some, e4, Option.bind_some, e2]
    exact ⟨_, _, _, rfl, by show -2 ≤ x ∧ x ≤ _; omega, by show a ≤ a2; omega, by show a2 ≤ _; omega⟩
theorem le_foldMin {β : Type} (f : β → Int) (x : Int) : ∀ (l : List β) (b : Int), x ≤ l.foldl (fun b i => min b (f i)) b ↔ x ≤ b ∧ ∀ i ∈ l, x ≤ f i
  | [], b => by simp
  | a :: l, b => by
    rw [List.foldl_cons, le_foldMin f x l, List.forall_mem_cons, Int.le_min, and_assoc]
theorem foldMax_le {β : Type} (f : β → Int) (x : Int) : ∀ (l : List β) (b : Int), l.foldl (fun b i => max b (f i)) b ≤ x ↔ b ≤ x ∧ ∀ i ∈ l, f i ≤ x
  | [], b => by simp
  | a :: l, b => by
    rw [List.foldl_cons, foldMax_le f x l, List.forall_mem_cons, Int.max_le, and_assoc]
theorem foldMax_perm {β : Type} (f : β → Int) {l l' : List β} (h : ∀ i, i ∈ l ↔ i ∈ l') (b : Int) : l.foldl (fun b i => max b (f i)) b = l'.foldl (fun b i => max b (f i)) b := by
  apply Int.le_antisymm
  · rw [foldMax_le]
    have := (foldMax_le f _ l' b).1 (Int.le_refl _)
    exact ⟨this.1, fun i hi => this.2 i ((h i).1 hi)⟩
  · rw [foldMax_le]
    have := (foldMax_le f _ l b).1 (Int.le_refl _)
    exact ⟨this.1, fun i hi => this.2 i ((h i).2 hi)⟩
/-- How far one goes to the left where one goes so far to the right. -/
def leftAt (s : Int) (fs : List Int) (right : Int) : Int := fs.foldl (fun m f => max m (if right < f then s - f else 0)) 0
theorem leftAt_nn (s : Int) (fs : List Int) (right : Int) : 0 ≤ leftAt s fs right := ((foldMax_le _ _ fs 0).1 (Int.le_refl _)).1
theorem leftAt_ge {s : Int} {fs : List Int} {right f : Int} (hf : f ∈ fs) (h : right < f) : s - f ≤ leftAt s fs right := by
  have := ((foldMax_le (fun f => if right < f then s - f else 0) _ fs 0).1 (Int.le_refl _)).2 f hf
  rw [if_pos h] at this
  exact this
theorem leftAt_le {s : Int} {fs : List Int} {right x : Int} (h0 : 0 ≤ x) (h : ∀ f ∈ fs, right < f → s - f ≤ x) : leftAt s fs right ≤ x := by
  unfold leftAt
  rw [foldMax_le]
  refine ⟨h0, fun f hf => ?_⟩
  by_cases c : right < f
  · rw [if_pos c]; exact h f hf c
  · rw [if_neg c]; exact h0
/-- The least over all ways to the right. -/
def bestTo (s : Int) (c : Int → Int → Int) (fs : List Int) : Int := (List.range s.toNat).foldl (fun (b : Int) (i : Nat) => min b (c (leftAt s fs (i : Int)) (i : Int))) s
def upK (us : List Int) (k : Nat) : Int := if 0 < k then rd us ((k : Int) - 1) else 0
def downK (s : Int) (us : List Int) (k : Nat) : Int := if k < us.length then s - rd us (k : Int) else 0
/-- The least over all splits of the places in order. -/
def bestSp (s : Int) (c : Int → Int → Int) (us : List Int) (b0 : Int) : Int := (List.range (us.length + 1)).foldl (fun (b : Int) (k : Nat) => min b (c (downK s us k) (upK us k))) b0
theorem rd_nat (l : List Int) (i : Nat) (h : i < l.length) : rd l (i : Int) = l[i] := by
  unfold rd
  simp [List.getD_eq_getElem?_getD, h]
/-- Where a number parts a list in order. -/
theorem part_at (x : Int) : ∀ (us : List Int), us.Pairwise (· ≤ ·) → ∃ k, k ≤ us.length ∧ (∀ j (h : j < us.length), j < k → us[j] ≤ x) ∧ (∀ j (h : j < us.length), k ≤ j → x < us[j])
  | [], _ => ⟨0, by simp, fun j h => by simp at h, fun j h => by simp at h⟩
  | u :: us, hp => by
    rw [List.pairwise_cons] at hp
    by_cases c : u ≤ x
    · obtain ⟨k, hk, h1, h2⟩ := part_at x us hp.2
      refine ⟨k + 1, by simpa using hk, fun j h hj => ?_, fun j h hj => ?_⟩
      · cases j with
        | zero => exact c
        | succ j => exact h1 j (by simpa using h) (by omega)
      · cases j with
        | zero => omega
        | succ j => exact h2 j (by simpa using h) (by omega)
    · refine ⟨0, Nat.zero_le _, fun j h hj => by omega, fun j h _ => ?_⟩
      cases j with
      | zero => simpa using (by omega : x < u)
      | succ j =>
        have hj : j < us.length := by simpa using h
        have := hp.1 us[j] (List.getElem_mem hj)
        simp only [List.getElem_cons_succ]
        omega
theorem best_split (s : Int) (c : Int → Int → Int) (fs us : List Int) (b0 : Int) (hs : 2 ≤ s) (hf : ∀ f ∈ fs, 0 ≤ f ∧ f < s) (hu : ∀ u, u ∈ us ↔ u ∈ fs ∧ u ≠ 0) (hp : us.Pairwise (· ≤ ·))
    (hc : ∀ a b a' b', 0 ≤ a → 0 ≤ b → a ≤ a' → b ≤ b' → c a b ≤ c a' b') (hb : s ≤ b0) (hz : b0 = s ∨ ∀ d, 0 ≤ d → d ≤ s → c d 0 ≤ s) : bestSp s c us b0 = bestTo s c fs := by
  have hup : ∀ k, k ≤ us.length → 0 ≤ upK us k ∧ upK us k < s := by
    intro k hk
    unfold upK
    by_cases h : 0 < k
    · rw [if_pos h, show ((k : Int) - 1) = ((k - 1 : Nat) : Int) by omega, rd_nat us (k - 1) (by omega)]
      exact hf _ ((hu _).1 (List.getElem_mem _)).1
    · rw [if_neg h]; omega
  have hdn : ∀ k, 0 ≤ downK s us k ∧ downK s us k ≤ s := by
    intro k
    unfold downK
    by_cases h : k < us.length
    · rw [if_pos h, rd_nat us k h]
      have := hf _ ((hu _).1 (List.getElem_mem h)).1
      omega
    · rw [if_neg h]; omega
  have hmono : ∀ i j (hi : i < us.length) (hj : j < us.length), i ≤ j → us[i] ≤ us[j] := by
    intro i j hi hj hij
    rcases Nat.lt_or_ge i j with h | h
    · exact List.pairwise_iff_getElem.1 hp i j hi hj h
    · have : i = j := by omega
      subst this
      exact Int.le_refl _
  apply Int.le_antisymm
  · -- the splits' least is no more
    unfold bestTo
    have H := (le_foldMin (fun k => c (downK s us k) (upK us k)) (bestSp s c us b0) (List.range (us.length + 1)) b0).1 (Int.le_refl _)
    rw [le_foldMin]
    constructor
    · rcases hz with rfl | hz
      · exact H.1
      · have h0 := H.2 0 (List.mem_range.2 (by omega))
        have := hz (downK s us 0) (hdn 0).1 (hdn 0).2
        have hu0 : upK us 0 = 0 := rfl
        rw [hu0] at h0
        omega
    · intro i hi
      obtain ⟨k, hk, h1, h2⟩ := part_at (i : Int) us hp
      have h3 := H.2 k (List.mem_range.2 (by omega))
      refine Int.le_trans h3 (hc _ _ _ _ (hdn k).1 (hup k hk).1 ?_ ?_)
      · unfold downK
        by_cases h : k < us.length
        · rw [if_pos h, rd_nat us k h]
          exact leftAt_ge ((hu _).1 (List.getElem_mem h)).1 (h2 k h (Nat.le_refl _))
        · rw [if_neg h]; exact leftAt_nn _ _ _
      · unfold upK
        by_cases h : 0 < k
        · rw [if_pos h, show ((k : Int) - 1) = ((k - 1 : Nat) : Int) by omega, rd_nat us (k - 1) (by omega)]
          exact h1 (k - 1) (by omega) (by omega)
        · rw [if_neg h]; omega
  · unfold bestSp
    have H := (le_foldMin (fun i : Nat => c (leftAt s fs (i : Int)) (i : Int)) (bestTo s c fs) (List.range s.toNat) s).1 (Int.le_refl _)
    rw [le_foldMin]
    refine ⟨Int.le_trans H.1 hb, fun k hk => ?_⟩
    have hk := List.mem_range.1 hk
    obtain ⟨u, hu0⟩ := Int.eq_ofNat_of_zero_le (hup k (by omega)).1
    have hlt := (hup k (by omega)).2
    have h3 := H.2 u (List.mem_range.2 (by omega))
    rw [← hu0] at h3
    refine Int.le_trans h3 (hc _ _ _ _ (leftAt_nn _ _ _) (hup k (by omega)).1 (leftAt_le (hdn k).1 (fun f hf1 hf2 => ?_)) (Int.le_refl _))
    have hfu : f ∈ us := (hu f).2 ⟨hf1, by have := (hup k (by omega)).1; omega⟩
    obtain ⟨j, hj, rfl⟩ := List.getElem_of_mem hfu
    have hkj : k ≤ j := by
      rcases Nat.lt_or_ge j k with h | h
      · exfalso
        have := hmono j (k - 1) hj (by omega) (by omega)
        unfold upK at hf2
        rw [if_pos (by omega), show ((k : Int) - 1) = ((k - 1 : Nat) : Int) by omega, rd_nat us (k - 1) (by omega)] at hf2
        omega
      · exact h
    unfold downK
    rw [if_pos (by omega), rd_nat us k (by omega)]
    have := hmono k j (by omega) hj hkj
    omega
theorem hi2_max (a b : Int) : hi2 a b = max a b := by unfold hi2; split <;> omega
theorem lo2_min (a b : Int) : lo2 a b = min a b := by unfold lo2; split <;> omega
theorem mx_max (a b : Int) : mx a b = max a b := by unfold mx; split <;> omega
theorem mn_min (a b : Int) : mn a b = min a b := by unfold mn; split <;> omega
theorem rd_all {P : Int → Prop} {l : List Int} (hx : ∀ x ∈ l, P x) (i : Nat) (h : i < l.length) : P (rd l (i : Int)) := by
  rw [rd_nat l i h]
  exact hx _ (List.getElem_mem h)
def upRing (s p q : Int) : Int := Int.tmod (q - p + s) s
theorem upRing_bd {s p q : Int} (hs : 2 ≤ s) (hp : 0 ≤ p ∧ p ≤ s - 1) (hq : 0 ≤ q ∧ q ≤ s - 1) : 0 ≤ upRing s p q ∧ upRing s p q < s := by
  unfold upRing
  rw [Int.tmod_eq_emod_of_nonneg (by omega)]
  exact ⟨Int.emod_nonneg _ (by omega), Int.emod_lt_of_pos _ (by omega)⟩
def costT (a b : Int) : Int := a + b + min a b
def costB (a b : Int) : Int := 2 * (a + b)
theorem costT_mono : ∀ a b a' b' : Int, 0 ≤ a → 0 ≤ b → a ≤ a' → b ≤ b' → costT a b ≤ costT a' b' := by
  intro a b a' b' _ _ _ _
  unfold costT
  omega
theorem costB_mono : ∀ a b a' b' : Int, 0 ≤ a → 0 ≤ b → a ≤ a' → b ≤ b' → costB a b ≤ costB a' b' := by
  intro a b a' b' _ _ _ _
  unfold costB
  omega
/-- Where the line's places lead to: left and right. -/
def leftL (p : Int) (l : List Int) (a : Int) : Int := l.foldl (fun m q => max m (p - q)) a
def rightL (p : Int) (l : List Int) (a : Int) : Int := l.foldl (fun m q => max m (q - p)) a
/-- The least time of a way through places: on a ring over all ways to the right. -/
def wayM (c : Int → Int → Int) (s : Int) (r : Bool) (p : Int) (l : List Int) : Int := if r = true then bestTo s c (l.map (upRing s p)) else c (leftL p l 0) (rightL p l 0)
theorem foldMax_bd {f : Int → Int} {l : List Int} {a B : Int} (ha : 0 ≤ a ∧ a ≤ B) (hf : ∀ x ∈ l, f x ≤ B) : 0 ≤ l.foldl (fun m q => max m (f q)) a ∧ l.foldl (fun m q => max m (f q)) a ≤ B := by
  refine ⟨Int.le_trans ha.1 ((foldMax_le f _ l a).1 (Int.le_refl _)).1, (foldMax_le f B l a).2 ⟨ha.2, hf⟩⟩
def lfF (s p right : Int) (m q : Int) : Int := max m (if right < upRing s p q then s - upRing s p q else 0)
theorem leftAt_map (s p right : Int) (l : List Int) : leftAt s (l.map (upRing s p)) right = l.foldl (lfF s p right) 0 := by
  unfold leftAt
  rw [List.foldl_map]
  rfl
def bestR (s : Int) (c : Int → Int → Int) (p : Int) (l : List Int) (i d : Nat) (b : Int) : Int := (List.range' i d).foldl (fun (b : Int) (i : Nat) => min b (c (l.foldl (lfF s p (i : Int)) 0) (i : Int))) b
theorem bestR_succ (s : Int) (c : Int → Int → Int) (p : Int) (l : List Int) (i d : Nat) (b : Int) : bestR s c p l i (d + 1) b = bestR s c p l (i + 1) d (min b (c (l.foldl (lfF s p (i : Int)) 0) (i : Int))) := by
  unfold bestR
  rw [List.range'_succ, List.foldl_cons]
theorem bestR_all (s : Int) (c : Int → Int → Int) (p : Int) (l : List Int) : bestR s c p l 0 s.toNat s = bestTo s c (l.map (upRing s p)) := by
  unfold bestR bestTo
  rw [List.range_eq_range']
  congr 1
  funext b i
  rw [leftAt_map]
def bestK (s : Int) (c : Int → Int → Int) (us : List Int) (i d : Nat) (b : Int) : Int := (List.range' i d).foldl (fun (b : Int) (k : Nat) => min b (c (downK s us k) (upK us k))) b
theorem bestK_succ (s : Int) (c : Int → Int → Int) (us : List Int) (i d : Nat) (b : Int) : bestK s c us i (d + 1) b = bestK s c us (i + 1) d (min b (c (downK s us i) (upK us i))) := by
  unfold bestK
  rw [List.range'_succ, List.foldl_cons]
theorem bestK_all (s : Int) (c : Int → Int → Int) (us : List Int) (b : Int) : bestK s c us 0 (us.length + 1) b = bestSp s c us b := by
  unfold bestK bestSp
  rw [List.range_eq_range']
theorem spec_l2Far_eq (s : Int) (r : Bool) (p q : Int) (hs : 2 ≤ s ∧ s ≤ 24) (hp : 0 ≤ p ∧ p ≤ s - 1) (hq : 0 ≤ q ∧ q ≤ s - 1) : Q52.f s r p q = some (upRing s p q) := by
  unfold Q52.f upRing
  rw [if_neg (by omega), wrap64_id (x := q - p) (by omega) (by omega), wrap64_id (x := q - p + s) (by omega) (by omega)]
theorem spec_l2Tour_eq (a b : Int) (ha : 0 ≤ a ∧ a ≤ 1000) (hb : 0 ≤ b ∧ b ≤ 1000) : Q67.f a b = some (costT a b) := by
  unfold Q67.f costT
  rw [spec_l1Least_eq, Option.bind_some, lo2_min, wrap64_id (x := a + b) (by omega) (by omega), wrap64_id (by omega) (by omega)]
theorem spec_l6Back_l0 (p : Int) (l : List Int) (hp : 0 ≤ p ∧ p ≤ 23) (hl : l.length ≤ 1048576) (hx : ∀ x ∈ l, 0 ≤ x ∧ x ≤ 23) : ∀ (d i k : Nat) (a b : Int), i + d = l.length → 0 ≤ a ∧ a ≤ 23 → 0 ≤ b ∧ b ≤ 23 → d < k →
    Q5.l0 k p l a b (i : Int) = some (costB (leftL p (l.drop i) a) (rightL p (l.drop i) b))
  | 0, i, k, a, b, h, ha, hb, hk => by
    obtain ⟨k, rfl⟩ := succ_of (k := k) (by omega)
    simp only [Q5.l0]
    rw [if_neg (by omega), drop_end l i (by omega), wrap64_id (x := a + b) (by omega) (by omega), wrap64_id (by omega) (by omega)]
    rfl
  | d + 1, i, k, a, b, h, ha, hb, hk => by
    obtain ⟨k, rfl⟩ := succ_of (k := k) (by omega)
    have hq := rd_all hx i (by omega)
    simp only [Q5.l0]
    rw [if_pos (by omega), if_pos (by omega), wrap64_id (x := p - _) (by omega) (by omega), wrap64_id (x := _ - p) (by omega) (by omega), spec_l1Most_eq, Option.bind_some, spec_l1Most_eq, Option.bind_some, hi2_max, hi2_max, wrap_succ (n := l.length) (by omega) (by omega), spec_l6Back_l0 p l hp hl hx d (i + 1) k _ _ (by omega) (by omega) (by omega) (by omega), drop_rd l i (by omega)]
    rfl
theorem spec_l6Back_l2 (s : Int) (r : Bool) (p : Int) (l : List Int) (hs : 2 ≤ s ∧ s ≤ 24) (hp : 0 ≤ p ∧ p ≤ s - 1) (hl : l.length ≤ 1048576) (hx : ∀ x ∈ l, 0 ≤ x ∧ x ≤ s - 1) (best right : Int) (hr : 0 ≤ right ∧ right < s) : ∀ (d i k : Nat) (a : Int), i + d = l.length → 0 ≤ a ∧ a ≤ s →
    Q5.l2 (k + d + 1) p l best right a (i : Int) s r = Q5.l1 k p l (min best (costB ((l.drop i).foldl (lfF s p right) a) right)) (wrap64 (right + 1)) s r
  | 0, i, k, a, h, ha => by
    simp only [Q5.l2]
    rw [if_neg (by omega), drop_end l i (by omega), wrap64_id (x := a + right) (by omega) (by omega), wrap64_id (x := 2 * _) (by omega) (by omega), spec_l1Least_eq, Option.bind_some, lo2_min]
    rfl
  | d + 1, i, k, a, h, ha => by
    have hq := rd_all hx i (by omega)
    have hf := upRing_bd hs.1 hp hq
    have ih := spec_l6Back_l2 s r p l hs hp hl hx best right hr d (i + 1) k
    obtain ⟨m, hm⟩ : ∃ m, m = k + d + 1 := ⟨_, rfl⟩
    simp only [← hm] at ih
    rw [show k + (d + 1) + 1 = m + 1 by omega]
    simp only [Q5.l2]
    rw [if_pos (by omega), if_pos (by omega), spec_l2Far_eq s r p _ hs hp hq, Option.bind_some, wrap_succ (n := l.length) (by omega) (by omega), drop_rd l i (by omega), List.foldl_cons]
    by_cases c : upRing s p (rd l (i : Int)) > right
    · rw [if_pos c, wrap64_id (x := s - _) (by omega) (by omega), spec_l1Most_eq, Option.bind_some, hi2_max]
      have e := ih (max a (s - upRing s p (rd l (i : Int)))) (by omega) (by omega)
      rw [e]
      unfold lfF
      rw [if_pos (show right < upRing s p (rd l (i : Int)) from c)]
    · rw [if_neg c]
      have e := ih a (by omega) ha
      rw [e]
      have : lfF s p right a (rd l (i : Int)) = a := by
        unfold lfF
        rw [if_neg (show ¬ right < upRing s p (rd l (i : Int)) from c)]
        omega
      rw [this]
theorem spec_l6Back_l1 (s : Int) (r : Bool) (p : Int) (l : List Int) (hs : 2 ≤ s ∧ s ≤ 24) (hp : 0 ≤ p ∧ p ≤ s - 1) (hl : l.length ≤ 1048576) (hx : ∀ x ∈ l, 0 ≤ x ∧ x ≤ s - 1) : ∀ (d i k : Nat) (best : Int), i + d = s.toNat → d * (l.length + 2) < k →
    Q5.l1 k p l best (i : Int) s r = some (bestR s costB p l i d best)
  | 0, i, k, best, h, hk => by
    obtain ⟨k, rfl⟩ := succ_of (k := k) (by omega)
    simp only [Q5.l1]
    rw [if_neg (by omega)]
    rfl
  | d + 1, i, k, best, h, hk => by
    have hm : (d + 1) * (l.length + 2) = d * (l.length + 2) + l.length + 2 := by rw [Nat.succ_mul]; omega
    rw [hm] at hk
    obtain ⟨k, rfl⟩ : ∃ k', k = k' + l.length + 1 + 1 := ⟨k - l.length - 2, by omega⟩
    simp only [Q5.l1]
    rw [if_pos (by omega)]
    have e := spec_l6Back_l2 s r p l hs hp hl hx best (i : Int) (by omega) l.length 0 k 0 (by omega) (by omega)
    rw [show ((0 : Nat) : Int) = 0 from rfl, List.drop_zero] at e
    rw [e, wrap_succ (n := s.toNat) (by omega) (by omega), spec_l6Back_l1 s r p l hs hp hl hx d (i + 1) k _ (by omega) (by omega), bestR_succ]
theorem spec_l6Back_eq (k : Nat) (s : Int) (r : Bool) (p : Int) (l : List Int) (hs : 2 ≤ s ∧ s ≤ 24) (hp : 0 ≤ p ∧ p ≤ s - 1) (hl : l.length ≤ 100) (hx : ∀ x ∈ l, 0 ≤ x ∧ x ≤ s - 1) (hk : 10000 < k) : Q5.f k s r p l = some (wayM costB s r p l) := by
  unfold Q5.f wayM
  cases r with
  | true =>
    have h1 : s.toNat * (l.length + 2) ≤ 24 * 102 := Nat.mul_le_mul (by omega) (by omega)
    have e := spec_l6Back_l1 s true p l hs hp (by omega) hx s.toNat 0 k s (by omega) (by omega)
    rw [show ((0 : Nat) : Int) = 0 from rfl] at e
    simp only [if_true]
    rw [e, bestR_all]
  | false =>
    have e := spec_l6Back_l0 p l (by omega) (by omega) (fun x h => by have := hx x h; omega) l.length 0 k 0 0 (by omega) (by omega) (by omega) (by omega)
    rw [show ((0 : Nat) : Int) = 0 from rfl, List.drop_zero] at e
    rw [if_neg (by simp), if_neg (by simp), e]
theorem spec_TourTime_l1 (p : Int) (l : List Int) (hp : 0 ≤ p ∧ p ≤ 23) (hl : l.length ≤ 1048576) (hx : ∀ x ∈ l, 0 ≤ x ∧ x ≤ 23) : ∀ (d i k : Nat) (a b : Int), i + d = l.length → 0 ≤ a ∧ a ≤ 23 → 0 ≤ b ∧ b ≤ 23 → d < k →
    Q1.l1 k p l a b (i : Int) = some (costT (leftL p (l.drop i) a) (rightL p (l.drop i) b), true)
  | 0, i, k, a, b, h, ha, hb, hk => by
    obtain ⟨k, rfl⟩ := succ_of (k := k) (by omega)
    simp only [Q1.l1]
    rw [if_neg (by omega), drop_end l i (by omega), spec_l2Tour_eq a b (by omega) (by omega), Option.bind_some]
    rfl
  | d + 1, i, k, a, b, h, ha, hb, hk => by
    obtain ⟨k, rfl⟩ := succ_of (k := k) (by omega)
    have hq := rd_all hx i (by omega)
    simp only [Q1.l1]
    rw [if_pos (by omega), if_pos (by omega), wrap64_id (x := p - _) (by omega) (by omega), wrap64_id (x := _ - p) (by omega) (by omega), spec_l1Most_eq, Option.bind_some, spec_l1Most_eq, Option.bind_some, hi2_max, hi2_max, wrap_succ (n := l.length) (by omega) (by omega), spec_TourTime_l1 p l hp hl hx d (i + 1) k _ _ (by omega) (by omega) (by omega) (by omega), drop_rd l i (by omega)]
    rfl
theorem spec_TourTime_l3 (s : Int) (r : Bool) (p : Int) (l : List Int) (hs : 2 ≤ s ∧ s ≤ 24) (hp : 0 ≤ p ∧ p ≤ s - 1) (hl : l.length ≤ 1048576) (hx : ∀ x ∈ l, 0 ≤ x ∧ x ≤ s - 1) (best right : Int) (hr : 0 ≤ right ∧ right < s) : ∀ (d i k : Nat) (a : Int), i + d = l.length → 0 ≤ a ∧ a ≤ s →
    Q1.l3 (k + d + 1) p l best right a (i : Int) s r = Q1.l2 k p l (min best (costT ((l.drop i).foldl (lfF s p right) a) right)) (wrap64 (right + 1)) s r
  | 0, i, k, a, h, ha => by
    simp only [Q1.l3]
    rw [if_neg (by omega), drop_end l i (by omega), spec_l2Tour_eq a right (by omega) (by omega), Option.bind_some, spec_l1Least_eq, Option.bind_some, lo2_min]
    rfl
  | d + 1, i, k, a, h, ha => by
    have hq := rd_all hx i (by omega)
    have hf := upRing_bd hs.1 hp hq
    have ih := spec_TourTime_l3 s r p l hs hp hl hx best right hr d (i + 1) k
    obtain ⟨m, hm⟩ : ∃ m, m = k + d + 1 := ⟨_, rfl⟩
    simp only [← hm] at ih
    rw [show k + (d + 1) + 1 = m + 1 by omega]
    simp only [Q1.l3]
    rw [if_pos (by omega), if_pos (by omega), spec_l2Far_eq s r p _ hs hp hq, Option.bind_some, wrap_succ (n := l.length) (by omega) (by omega), drop_rd l i (by omega), List.foldl_cons]
    by_cases c : upRing s p (rd l (i : Int)) > right
    · rw [if_pos c, wrap64_id (x := s - _) (by omega) (by omega), spec_l1Most_eq, Option.bind_some, hi2_max]
      have e := ih (max a (s - upRing s p (rd l (i : Int)))) (by omega) (by omega)
      rw [e]
      unfold lfF
      rw [if_pos (show right < upRing s p (rd l (i : Int)) from c)]
    · rw [if_neg c]
      have e := ih a (by omega) ha
      rw [e]
      have : lfF s p right a (rd l (i : Int)) = a := by
        unfold lfF
        rw [if_neg (show ¬ right < upRing s p (rd l (i : Int)) from c)]
        omega
      rw [this]
theorem spec_TourTime_l2 (s : Int) (r : Bool) (p : Int) (l : List Int) (hs : 2 ≤ s ∧ s ≤ 24) (hp : 0 ≤ p ∧ p ≤ s - 1) (hl : l.length ≤ 1048576) (hx : ∀ x ∈ l, 0 ≤ x ∧ x ≤ s - 1) : ∀ (d i k : Nat) (best : Int), i + d = s.toNat → d * (l.length + 2) < k →
    Q1.l2 k p l best (i : Int) s r = some (bestR s costT p l i d best, true)
  | 0, i, k, best, h, hk => by
    obtain ⟨k, rfl⟩ := succ_of (k := k) (by omega)
    simp only [Q1.l2]
    rw [if_neg (by omega)]
    rfl
  | d + 1, i, k, best, h, hk => by
    have hm : (d + 1) * (l.length + 2) = d * (l.length + 2) + l.length + 2 := by rw [Nat.succ_mul]; omega
    rw [hm] at hk
    obtain ⟨k, rfl⟩ : ∃ k', k = k' + l.length + 1 + 1 := ⟨k - l.length - 2, by omega⟩
    simp only [Q1.l2]
    rw [if_pos (by omega)]
    have e := spec_TourTime_l3 s r p l hs hp hl hx best (i : Int) (by omega) l.length 0 k 0 (by omega) (by omega)
    rw [show ((0 : Nat) : Int) = 0 from rfl, List.drop_zero] at e
    rw [e, wrap_succ (n := s.toNat) (by omega) (by omega), spec_TourTime_l2 s r p l hs hp hl hx d (i + 1) k _ (by omega) (by omega), bestR_succ]
theorem spec_TourTime_l0 (s : Int) (r : Bool) (p : Int) (l : List Int) (hr : road s r = true) (hp : 0 ≤ p ∧ p ≤ s - 1) (hl : l.length ≤ 1048576) : ∀ (d i k : Nat), i + d = l.length → d + 30 * (l.length + 2) < k → (∀ j, j < i → inR (rd l (j : Int)) 0 (s - 1) = true) →
    Q1.l0 k p l (i : Int) s r = some (if allIn l 0 (s - 1) = true then (wayM costT s r p l, true) else (0, false))
  | 0, i, k, h, hk, hin => by
    obtain ⟨k, rfl⟩ := succ_of (k := k) (by omega)
    have hs := road_bd hr
    have hx : ∀ x ∈ l, 0 ≤ x ∧ x ≤ s - 1 := by
      intro x hx
      obtain ⟨j, hj, rfl⟩ := List.getElem_of_mem hx
      have := inR_iff.1 (hin j (by omega))
      rw [rd_nat l j hj] at this
      exact this
    have ha : allIn l 0 (s - 1) = true := List.all_eq_true.2 (fun x h => inR_iff.2 (hx x h))
    simp only [Q1.l0]
    rw [if_neg (by omega), if_pos ha]
    unfold wayM
    cases r with
    | true =>
      have h1 : s.toNat * (l.length + 2) ≤ 24 * (l.length + 2) := Nat.mul_le_mul (by omega) (by omega)
      have e := spec_TourTime_l2 s true p l ⟨hs.1, hs.2.1⟩ hp hl hx s.toNat 0 k s (by omega) (by omega)
      rw [show ((0 : Nat) : Int) = 0 from rfl] at e
      simp only [if_true]
      rw [e, bestR_all]
    | false =>
      have e := spec_TourTime_l1 p l (by omega) hl (fun x h => by have := hx x h; omega) l.length 0 k 0 0 (by omega) (by omega) (by omega) (by omega)
      rw [show ((0 : Nat) : Int) = 0 from rfl, List.drop_zero] at e
      rw [if_neg (by simp), if_neg (by simp), e]
  | d + 1, i, k, h, hk, hin => by
    obtain ⟨k, rfl⟩ := succ_of (k := k) (by omega)
    have hs := road_bd hr
    simp only [Q1.l0]
    rw [if_pos (by omega), if_pos (by omega), spec_l2Place_eq, Option.bind_some, hr, Bool.true_and]
    by_cases c : inR (rd l (i : Int)) 0 (s - 1) = true
    · rw [if_pos c, wrap_succ (n := l.length) (by omega) (by omega)]
      exact spec_TourTime_l0 s r p l hr hp hl d (i + 1) k (by omega) (by omega) (fun j hj => by
        rcases Nat.lt_or_ge j i with h1 | h1
        · exact hin j h1
        · have : j = i := by omega
          subst this
          exact c)
    · rw [if_neg c, if_neg]
      intro ha
      have := List.all_eq_true.1 ha _ (List.getElem_mem (show i < l.length by omega))
      rw [rd_nat l i (by omega)] at c
      exact c this
theorem spec_TourTime_eq (k : Nat) (s : Int) (r : Bool) (p : Int) (l : List Int) (hl : l.length ≤ 1048576) (hk : 31 * (l.length + 2) < k) : Q1.f k s r p l = some (if (road s r && inR p 0 (s - 1) && allIn l 0 (s - 1)) = true then (wayM costT s r p l, true) else (0, false)) := by
  unfold Q1.f
  rw [spec_l2Place_eq, Option.bind_some]
  cases hr : road s r with
  | false => simp
  | true =>
    cases hp : inR p 0 (s - 1) with
    | false => simp
    | true =>
      have e := spec_TourTime_l0 s r p l hr (inR_iff.1 hp) hl l.length 0 k (by omega) (by omega) (fun j hj => by omega)
      rw [show ((0 : Nat) : Int) = 0 from rfl] at e
      simp only [Bool.and_self, if_true, Bool.true_and]
      rw [e]
def upM (s : Int) (r : Bool) (p q : Int) : Int := if r = true then upRing s p q else q - p
theorem upM_bd {s p q : Int} {r : Bool} (hs : 2 ≤ s) (hp : 0 ≤ p ∧ p ≤ s - 1) (hq : 0 ≤ q ∧ q ≤ s - 1) : -s ≤ upM s r p q ∧ upM s r p q < s := by
  unfold upM
  have := upRing_bd hs hp hq
  cases r <;> simp <;> omega
def upF (us : List Int) (a : Int) : Int := us.foldl (fun m u => max m u) a
def dnF (us : List Int) (a : Int) : Int := us.foldl (fun m u => max m (-u)) a
theorem downK_bd {s : Int} {us : List Int} (hs : 2 ≤ s) (hu : ∀ u ∈ us, 0 ≤ u ∧ u ≤ s - 1) (k : Nat) : 0 ≤ downK s us k ∧ downK s us k ≤ s := by
  unfold downK
  by_cases h : k < us.length
  · have := rd_all hu k h
    rw [if_pos h]
    omega
  · rw [if_neg h]; omega
theorem upK_bd {s : Int} {us : List Int} (hs : 2 ≤ s) (hu : ∀ u ∈ us, 0 ≤ u ∧ u ≤ s - 1) (k : Nat) (hk : k ≤ us.length) : 0 ≤ upK us k ∧ upK us k ≤ s := by
  unfold upK
  by_cases h : 0 < k
  · have := rd_all hu (k - 1) (by omega)
    rw [if_pos h, show ((k : Int) - 1) = ((k - 1 : Nat) : Int) by omega]
    omega
  · rw [if_neg h]; omega
theorem sortI_len (l : List Int) : (sortI l).length = l.length := List.length_mergeSort _
theorem sortI_mem (l : List Int) (x : Int) : x ∈ sortI l ↔ x ∈ l := (List.mergeSort_perm l _).mem_iff
theorem sortI_sorted (l : List Int) : (sortI l).Pairwise (· ≤ ·) := by
  have h := List.pairwise_mergeSort (le := fun x y : Int => decide (x ≤ y)) (fun a b c hab hbc => by simp at hab hbc ⊢; omega) (fun a b => by simp; omega) l
  exact h.imp (fun h => by simpa using h)
/-- What the places in order come to. -/
theorem ways_sorted (c : Int → Int → Int) (s : Int) (p : Int) (l : List Int) (b0 : Int) (hs : 2 ≤ s) (hp : 0 ≤ p ∧ p ≤ s - 1) (hx : ∀ x ∈ l, 0 ≤ x ∧ x ≤ s - 1)
    (hc : ∀ a b a' b', 0 ≤ a → 0 ≤ b → a ≤ a' → b ≤ b' → c a b ≤ c a' b') (hb : s ≤ b0) (hz : b0 = s ∨ ∀ d, 0 ≤ d → d ≤ s → c d 0 ≤ s) :
    bestSp s c ((sortI (l.map (upM s true p))).filter fun x => !(x == 0)) b0 = wayM c s true p l := by
  have hm : l.map (upM s true p) = l.map (upRing s p) := rfl
  unfold wayM
  rw [if_pos rfl, hm]
  refine best_split s c (l.map (upRing s p)) _ b0 hs (fun f hf => ?_) (fun u => ?_) ?_ hc hb hz
  · obtain ⟨q, hq, rfl⟩ := List.mem_map.1 hf
    exact upRing_bd hs hp (hx q hq)
  · rw [List.mem_filter, sortI_mem]
    simp
  · exact (sortI_sorted _).filter _
theorem ways_line (c : Int → Int → Int) (s p : Int) (l : List Int) : c (dnF (sortI (l.map (upM s false p))) 0) (upF (sortI (l.map (upM s false p))) 0) = wayM c s false p l := by
  unfold wayM
  rw [if_neg (by simp)]
  have h1 : dnF (sortI (l.map (upM s false p))) 0 = leftL p l 0 := by
    unfold dnF leftL
    rw [foldMax_perm (fun u => -u) (fun i => sortI_mem (l.map (upM s false p)) i), List.foldl_map]
    congr 1
    funext m q
    show max m (-(q - p)) = max m (p - q)
    rw [Int.neg_sub]
  have h2 : upF (sortI (l.map (upM s false p))) 0 = rightL p l 0 := by
    unfold upF rightL
    rw [foldMax_perm (fun u => u) (fun i => sortI_mem (l.map (upM s false p)) i), List.foldl_map]
    rfl
  rw [h1, h2]
theorem impl_Road_roundTrip_1_eq (s : Int) (r : Bool) (p q : Int) (hs : 2 ≤ s ∧ s ≤ 24) (hp : 0 ≤ p ∧ p ≤ s - 1) (hq : 0 ≤ q ∧ q ≤ s - 1) : Q83.f q s r p = some (upM s r p q) := by
  unfold Q83.f upM upRing
  rw [if_neg (show ¬ s = 0 by omega), wrap64_id (x := q - p) (by omega) (by omega), wrap64_id (x := q - p + s) (by omega) (by omega)]
  cases r <;> simp
theorem impl_mapped_roundTrip_l0 (s : Int) (r : Bool) (p : Int) (l : List Int) (hs : 2 ≤ s ∧ s ≤ 24) (hp : 0 ≤ p ∧ p ≤ s - 1) (hl : l.length ≤ 1048576) (hx : ∀ x ∈ l, 0 ≤ x ∧ x ≤ s - 1) : ∀ (d i k : Nat) (acc : List Int), i + d = l.length → acc.length ≤ i → d < k →
    Q36.l0 k acc l (l.length : Int) (i : Int) s r p = some (acc ++ (l.drop i).map (upM s r p))
  | 0, i, k, acc, h, ha, hk => by
    obtain ⟨k, rfl⟩ := succ_of (k := k) (by omega)
    simp only [Q36.l0]
    rw [if_neg (by omega), drop_end l i (by omega)]
    simp
  | d + 1, i, k, acc, h, ha, hk => by
    obtain ⟨k, rfl⟩ := succ_of (k := k) (by omega)
    have hq := rd_all hx i (by omega)
    simp only [Q36.l0]
    rw [if_pos (by omega), if_pos (by omega), if_pos (by omega), impl_Road_roundTrip_1_eq s r p _ hs hp hq, Option.bind_some, if_pos (by omega), wrap_succ (n := l.length) (by omega) (by omega), impl_mapped_roundTrip_l0 s r p l hs hp hl hx d (i + 1) k _ (by omega) (by simp; omega) (by omega), drop_rd l i (by omega)]
    simp
theorem impl_mapped_roundTrip_eq (k : Nat) (s : Int) (r : Bool) (p : Int) (l : List Int) (hs : 2 ≤ s ∧ s ≤ 24) (hp : 0 ≤ p ∧ p ≤ s - 1) (hl : l.length ≤ 1048576) (hx : ∀ x ∈ l, 0 ≤ x ∧ x ≤ s - 1) (hk : l.length < k) : Q36.f k l s r p = some (l.map (upM s r p)) := by
  unfold Q36.f
  have := impl_mapped_roundTrip_l0 s r p l hs hp hl hx l.length 0 k [] (by omega) (by simp) hk
  simpa using this
theorem impl_Road_roundTrip_l0 (us : List Int) (hl : us.length ≤ 1048576) (hu : ∀ u ∈ us, -24 ≤ u ∧ u ≤ 24) : ∀ (d i k : Nat) (a b : Int), i + d = us.length → 0 ≤ a ∧ a ≤ 24 → 0 ≤ b ∧ b ≤ 24 → d < k →
    Q3.l0 k a b us (us.length : Int) (i : Int) = some (costB (dnF (us.drop i) b) (upF (us.drop i) a))
  | 0, i, k, a, b, h, ha, hb, hk => by
    obtain ⟨k, rfl⟩ := succ_of (k := k) (by omega)
    simp only [Q3.l0]
    rw [if_neg (by omega), drop_end us i (by omega), wrap64_id (x := a + b) (by omega) (by omega), wrap64_id (by omega) (by omega), show 2 * (a + b) = costB b a by unfold costB; omega]
    rfl
  | d + 1, i, k, a, b, h, ha, hb, hk => by
    obtain ⟨k, rfl⟩ := succ_of (k := k) (by omega)
    have hq := rd_all hu i (by omega)
    simp only [Q3.l0]
    rw [if_pos (by omega), if_pos (by omega), if_pos (by omega), wrap64_id (x := -_) (by omega) (by omega), mx_max, mx_max, wrap_succ (n := us.length) (by omega) (by omega), impl_Road_roundTrip_l0 us hl hu d (i + 1) k _ _ (by omega) (by omega) (by omega) (by omega), drop_rd us i (by omega)]
    rfl
theorem impl_Road_roundTrip_l1 (s : Int) (r : Bool) (us : List Int) (hs : 2 ≤ s ∧ s ≤ 24) (hl : us.length ≤ 1048576) (hu : ∀ u ∈ us, 0 ≤ u ∧ u ≤ s - 1) : ∀ (d i k : Nat) (best : Int), i + d = us.length + 1 → d < k →
    Q3.l1 k us best ((us.length : Int) + 1) (i : Int) s r = some (bestK s costB us i d best)
  | 0, i, k, best, h, hk => by
    obtain ⟨k, rfl⟩ := succ_of (k := k) (by omega)
    simp only [Q3.l1]
    rw [if_neg (by omega)]
    rfl
  | d + 1, i, k, best, h, hk => by
    obtain ⟨k, rfl⟩ := succ_of (k := k) (by omega)
    have hdn := downK_bd hs.1 hu i
    have hup := upK_bd hs.1 hu i (by omega)
    have ih := impl_Road_roundTrip_l1 s r us hs hl hu d (i + 1) k (min best (costB (downK s us i) (upK us i))) (by omega) (by omega)
    simp only [Q3.l1]
    rw [if_pos (by omega), bestK_succ, wrap_succ (n := us.length + 1) (by omega) (by omega)]
    by_cases c : (i : Int) > 0
    · have e : upK us i = rd us ((i : Int) - 1) := by unfold upK; rw [if_pos (by omega)]
      rw [if_pos c, wrap64_id (x := (i : Int) - 1) (by omega) (by omega), if_pos (by omega), if_pos (by omega), ← e]
      by_cases c2 : (i : Int) < (us.length : Int)
      · have e2 : downK s us i = s - rd us (i : Int) := by unfold downK; rw [if_pos (by omega)]
        have hq := rd_all hu i (by omega)
        rw [if_pos c2, if_pos (by omega), wrap64_id (x := s - _) (by omega) (by omega), ← e2, wrap64_id (x := upK us i + downK s us i) (by omega) (by omega), wrap64_id (x := 2 * _) (by omega) (by omega), show 2 * (upK us i + downK s us i) = costB (downK s us i) (upK us i) by unfold costB; omega, mn_min]
        exact ih
      · have e2 : downK s us i = 0 := by unfold downK; rw [if_neg (by omega)]
        rw [e2] at ih ⊢
        rw [if_neg c2, wrap64_id (x := upK us i) (by omega) (by omega), wrap64_id (x := 2 * _) (by omega) (by omega), show 2 * upK us i = costB 0 (upK us i) by unfold costB; omega, mn_min]
        exact ih
    · have e : upK us i = 0 := by unfold upK; rw [if_neg (by omega)]
      rw [e] at ih ⊢
      rw [if_neg c]
      by_cases c2 : (i : Int) < (us.length : Int)
      · have e2 : downK s us i = s - rd us (i : Int) := by unfold downK; rw [if_pos (by omega)]
        have hq := rd_all hu i (by omega)
        rw [if_pos c2, if_pos (by omega), wrap64_id (x := s - _) (by omega) (by omega), ← e2, wrap64_id (x := downK s us i) (by omega) (by omega), wrap64_id (x := 2 * _) (by omega) (by omega), show 2 * downK s us i = costB (downK s us i) 0 by unfold costB; omega, mn_min]
        exact ih
      · have e2 : downK s us i = 0 := by unfold downK; rw [if_neg (by omega)]
        rw [e2] at ih ⊢
        rw [if_neg c2, show (0 : Int) = costB 0 0 from rfl, mn_min]
        exact ih
theorem impl_Road_roundTrip_eq (k : Nat) (s : Int) (r : Bool) (p : Int) (l : List Int) (hs : 2 ≤ s ∧ s ≤ 24) (hp : 0 ≤ p ∧ p ≤ s - 1) (hl : l.length ≤ 100000) (hx : ∀ x ∈ l, 0 ≤ x ∧ x ≤ s - 1) (hk : l.length + 10 < k) : Q3.f k s r p l = some (wayM costB s r p l) := by
  unfold Q3.f
  have hub : ∀ u ∈ sortI (l.map (upM s r p)), -s ≤ u ∧ u < s := fun u h => by
    obtain ⟨q, hq, rfl⟩ := List.mem_map.1 ((sortI_mem _ _).1 h)
    exact upM_bd hs.1 hp (hx q hq)
  have hlen : (sortI (l.map (upM s r p))).length = l.length := by rw [sortI_len, List.length_map]
  rw [impl_mapped_roundTrip_eq k s r p l hs hp (by omega) hx (by omega), Option.bind_some]
  unfold Q41.f
  rw [if_pos (by rw [List.length_map]; omega), Option.bind_some]
  obtain ⟨k, rfl⟩ := succ_of (k := k) (by omega)
  cases r with
  | true =>
    rw [if_pos rfl]
    unfold Q53.f
    rw [Option.bind_some]
    simp only [Q3.j0]
    rw [if_pos trivial]
    have hl2 : ((sortI (l.map (upM s true p))).filter fun x => !(x == 0)).length ≤ l.length := Nat.le_trans (List.length_filter_le _ _) (by omega)
    have hu2 : ∀ u ∈ ((sortI (l.map (upM s true p))).filter fun x => !(x == 0)), 0 ≤ u ∧ u ≤ s - 1 := fun u h => by
      obtain ⟨q, hq, rfl⟩ := List.mem_map.1 ((sortI_mem _ _).1 (List.mem_filter.1 h).1)
      have := upRing_bd hs.1 hp (hx q hq)
      show 0 ≤ upRing s p q ∧ upRing s p q ≤ s - 1
      omega
    have e := impl_Road_roundTrip_l1 s true _ hs (by omega) hu2 (((sortI (l.map (upM s true p))).filter fun x => !(x == 0)).length + 1) 0 k s (by omega) (by omega)
    rw [bestK_all, ways_sorted costB s p l s hs.1 hp hx costB_mono (Int.le_refl _) (.inl rfl)] at e
    rw [wrap64_id (by omega) (by omega)]
    exact e
  | false =>
    rw [if_neg (by simp)]
    simp only [Q3.j0]
    rw [if_neg (by simp)]
    have e := impl_Road_roundTrip_l0 (sortI (l.map (upM s false p))) (by omega) (fun u h => by have := hub u h; omega) (sortI (l.map (upM s false p))).length 0 k 0 0 (by omega) (by omega) (by omega) (by omega)
    rw [show ((0 : Nat) : Int) = 0 from rfl, List.drop_zero, ways_line costB s p l] at e
    exact e
theorem impl_Road_tour_1_eq (s : Int) (r : Bool) (p q : Int) (hs : 2 ≤ s ∧ s ≤ 24) (hp : 0 ≤ p ∧ p ≤ s - 1) (hq : 0 ≤ q ∧ q ≤ s - 1) : Q79.f q s r p = some (upM s r p q) := by
  unfold Q79.f upM upRing
  rw [if_neg (show ¬ s = 0 by omega), wrap64_id (x := q - p) (by omega) (by omega), wrap64_id (x := q - p + s) (by omega) (by omega)]
  cases r <;> simp
theorem impl_mapped_tour_l0 (s : Int) (r : Bool) (p : Int) (l : List Int) (hs : 2 ≤ s ∧ s ≤ 24) (hp : 0 ≤ p ∧ p ≤ s - 1) (hl : l.length ≤ 1048576) (hx : ∀ x ∈ l, 0 ≤ x ∧ x ≤ s - 1) : ∀ (d i k : Nat) (acc : List Int), i + d = l.length → acc.length ≤ i → d < k →
    Q34.l0 k acc l (l.length : Int) (i : Int) s r p = some (acc ++ (l.drop i).map (upM s r p))
  | 0, i, k, acc, h, ha, hk => by
    obtain ⟨k, rfl⟩ := succ_of (k := k) (by omega)
    simp only [Q34.l0]
    rw [if_neg (by omega), drop_end l i (by omega)]
    simp
  | d + 1, i, k, acc, h, ha, hk => by
    obtain ⟨k, rfl⟩ := succ_of (k := k) (by omega)
    have hq := rd_all hx i (by omega)
    simp only [Q34.l0]
    rw [if_pos (by omega), if_pos (by omega), if_pos (by omega), impl_Road_tour_1_eq s r p _ hs hp hq, Option.bind_some, if_pos (by omega), wrap_succ (n := l.length) (by omega) (by omega), impl_mapped_tour_l0 s r p l hs hp hl hx d (i + 1) k _ (by omega) (by simp; omega) (by omega), drop_rd l i (by omega)]
    simp
theorem impl_mapped_tour_eq (k : Nat) (s : Int) (r : Bool) (p : Int) (l : List Int) (hs : 2 ≤ s ∧ s ≤ 24) (hp : 0 ≤ p ∧ p ≤ s - 1) (hl : l.length ≤ 1048576) (hx : ∀ x ∈ l, 0 ≤ x ∧ x ≤ s - 1) (hk : l.length < k) : Q34.f k l s r p = some (l.map (upM s r p)) := by
  unfold Q34.f
  have := impl_mapped_tour_l0 s r p l hs hp hl hx l.length 0 k [] (by omega) (by simp) hk
  simpa using this
theorem impl_Road_tour_3_eq (a b : Int) (ha : 0 ≤ a ∧ a ≤ 1000) (hb : 0 ≤ b ∧ b ≤ 1000) : Q17.f a b = some (costT b a) := by
  unfold Q17.f costT
  rw [mn_min, wrap64_id (x := a + b) (by omega) (by omega), wrap64_id (by omega) (by omega)]
  congr 1
  omega
theorem impl_Road_tour_l0 (us : List Int) (hl : us.length ≤ 1048576) (hu : ∀ u ∈ us, -24 ≤ u ∧ u ≤ 24) : ∀ (d i k : Nat) (a b : Int), i + d = us.length → 0 ≤ a ∧ a ≤ 24 → 0 ≤ b ∧ b ≤ 24 → d < k →
    Q4.l0 k a b us (us.length : Int) (i : Int) = some (costT (dnF (us.drop i) b) (upF (us.drop i) a))
  | 0, i, k, a, b, h, ha, hb, hk => by
    obtain ⟨k, rfl⟩ := succ_of (k := k) (by omega)
    simp only [Q4.l0]
    rw [if_neg (by omega), drop_end us i (by omega), impl_Road_tour_3_eq a b (by omega) (by omega), Option.bind_some]
    rfl
  | d + 1, i, k, a, b, h, ha, hb, hk => by
    obtain ⟨k, rfl⟩ := succ_of (k := k) (by omega)
    have hq := rd_all hu i (by omega)
    simp only [Q4.l0]
    rw [if_pos (by omega), if_pos (by omega), if_pos (by omega), wrap64_id (x := -_) (by omega) (by omega), mx_max, mx_max, wrap_succ (n := us.length) (by omega) (by omega), impl_Road_tour_l0 us hl hu d (i + 1) k _ _ (by omega) (by omega) (by omega) (by omega), drop_rd us i (by omega)]
    rfl
theorem impl_Road_tour_l1 (s : Int) (r : Bool) (us : List Int) (hs : 2 ≤ s ∧ s ≤ 24) (hl : us.length ≤ 1048576) (hu : ∀ u ∈ us, 0 ≤ u ∧ u ≤ s - 1) : ∀ (d i k : Nat) (best : Int), i + d = us.length + 1 → d < k →
    Q4.l1 k us best ((us.length : Int) + 1) (i : Int) s r = some (bestK s costT us i d best)
  | 0, i, k, best, h, hk => by
    obtain ⟨k, rfl⟩ := succ_of (k := k) (by omega)
    simp only [Q4.l1]
    rw [if_neg (by omega)]
    rfl
  | d + 1, i, k, best, h, hk => by
    obtain ⟨k, rfl⟩ := succ_of (k := k) (by omega)
    have hdn := downK_bd hs.1 hu i
    have hup := upK_bd hs.1 hu i (by omega)
    have ih := impl_Road_tour_l1 s r us hs hl hu d (i + 1) k (min best (costT (downK s us i) (upK us i))) (by omega) (by omega)
    simp only [Q4.l1]
    rw [if_pos (by omega), bestK_succ, wrap_succ (n := us.length + 1) (by omega) (by omega)]
    by_cases c : (i : Int) > 0
    · have e : upK us i = rd us ((i : Int) - 1) := by unfold upK; rw [if_pos (by omega)]
      rw [if_pos c, wrap64_id (x := (i : Int) - 1) (by omega) (by omega), if_pos (by omega), if_pos (by omega), ← e]
      by_cases c2 : (i : Int) < (us.length : Int)
      · have e2 : downK s us i = s - rd us (i : Int) := by unfold downK; rw [if_pos (by omega)]
        have hq := rd_all hu i (by omega)
        rw [if_pos c2, if_pos (by omega), wrap64_id (x := s - _) (by omega) (by omega), ← e2, impl_Road_tour_3_eq _ _ (by omega) (by omega), Option.bind_some, mn_min]
        exact ih
      · have e2 : downK s us i = 0 := by unfold downK; rw [if_neg (by omega)]
        rw [e2] at ih ⊢
        rw [if_neg c2, impl_Road_tour_3_eq _ _ (by omega) (by omega), Option.bind_some, mn_min]
        exact ih
    · have e : upK us i = 0 := by unfold upK; rw [if_neg (by omega)]
      rw [e] at ih ⊢
      rw [if_neg c]
      by_cases c2 : (i : Int) < (us.length : Int)
      · have e2 : downK s us i = s - rd us (i : Int) := by unfold downK; rw [if_pos (by omega)]
        have hq := rd_all hu i (by omega)
        rw [if_pos c2, if_pos (by omega), wrap64_id (x := s - _) (by omega) (by omega), ← e2, impl_Road_tour_3_eq _ _ (by omega) (by omega), Option.bind_some, mn_min]
        exact ih
      · have e2 : downK s us i = 0 := by unfold downK; rw [if_neg (by omega)]
        rw [e2] at ih ⊢
        rw [if_neg c2, impl_Road_tour_3_eq _ _ (by omega) (by omega), Option.bind_some, mn_min]
        exact ih
theorem impl_Road_tour_eq (k : Nat) (s : Int) (r : Bool) (p : Int) (l : List Int) (hs : 2 ≤ s ∧ s ≤ 24) (hp : 0 ≤ p ∧ p ≤ s - 1) (hl : l.length ≤ 100000) (hx : ∀ x ∈ l, 0 ≤ x ∧ x ≤ s - 1) (hk : l.length + 10 < k) : Q4.f k s r p l = some (wayM costT s r p l) := by
  unfold Q4.f
  have hub : ∀ u ∈ sortI (l.map (upM s r p)), -s ≤ u ∧ u < s := fun u h => by
    obtain ⟨q, hq, rfl⟩ := List.mem_map.1 ((sortI_mem _ _).1 h)
    exact upM_bd hs.1 hp (hx q hq)
  have hlen : (sortI (l.map (upM s r p))).length = l.length := by rw [sortI_len, List.length_map]
  rw [impl_mapped_tour_eq k s r p l hs hp (by omega) hx (by omega), Option.bind_some]
  unfold Q41.f
  rw [if_pos (by rw [List.length_map]; omega), Option.bind_some]
  obtain ⟨k, rfl⟩ := succ_of (k := k) (by omega)
  cases r with
  | true =>
    rw [if_pos rfl]
    unfold Q50.f
    rw [Option.bind_some]
    simp only [Q4.j0]
    rw [if_pos trivial]
    have hl2 : ((sortI (l.map (upM s true p))).filter fun x => !(x == 0)).length ≤ l.length := Nat.le_trans (List.length_filter_le _ _) (by omega)
    have hu2 : ∀ u ∈ ((sortI (l.map (upM s true p))).filter fun x => !(x == 0)), 0 ≤ u ∧ u ≤ s - 1 := fun u h => by
      obtain ⟨q, hq, rfl⟩ := List.mem_map.1 ((sortI_mem _ _).1 (List.mem_filter.1 h).1)
      have := upRing_bd hs.1 hp (hx q hq)
      show 0 ≤ upRing s p q ∧ upRing s p q ≤ s - 1
      omega
    have e := impl_Road_tour_l1 s true _ hs (by omega) hu2 (((sortI (l.map (upM s true p))).filter fun x => !(x == 0)).length + 1) 0 k 60 (by omega) (by omega)
    rw [bestK_all, ways_sorted costT s p l 60 hs.1 hp hx costT_mono (by omega) (.inr (fun d h0 h1 => by unfold costT; omega))] at e
    rw [wrap64_id (by omega) (by omega)]
    exact e
  | false =>
    rw [if_neg (by simp)]
    simp only [Q4.j0]
    rw [if_neg (by simp)]
    have e := impl_Road_tour_l0 (sortI (l.map (upM s false p))) (by omega) (fun u h => by have := hub u h; omega) (sortI (l.map (upM s false p))).length 0 k 0 0 (by omega) (by omega) (by omega) (by omega)
    rw [show ((0 : Nat) : Int) = 0 from rfl, List.drop_zero, ways_line costT s p l] at e
    exact e
def timeM (s : Int) (r : Bool) (p x : Int) (n : Nat) (back : Bool) : Int := wayM (if back = true then costB else costT) s r p (runL s x n)
theorem runL_in {s x : Int} {n : Nat} (hs : 2 ≤ s) (hx : 0 ≤ x) : ∀ y ∈ runL s x n, 0 ≤ y ∧ y ≤ s - 1 := by
  intro y hy
  unfold runL at hy
  obtain ⟨i, _, rfl⟩ := List.mem_map.1 hy
  rw [Int.tmod_eq_emod_of_nonneg (by omega)]
  have h1 := Int.emod_nonneg (x + (i : Int)) (show s ≠ 0 by omega)
  have h2 := Int.emod_lt_of_pos (x + (i : Int)) (show 0 < s by omega)
  omega
theorem spec_l6Time_eq (k : Nat) (s : Int) (r : Bool) (p x n : Int) (back : Bool) (hr : road s r = true) (hp : 0 ≤ p ∧ p ≤ s - 1) (hx : 0 ≤ x ∧ x ≤ s - 1) (hn : 0 ≤ n ∧ n ≤ s) (hk : 10000 < k) : Q21.f k s r p x n back = some (timeM s r p x n.toNat back) := by
  unfold Q21.f timeM
  have hs := road_bd hr
  have hin := runL_in (n := n.toNat) hs.1 hx.1
  have hlen := runL_len s x n.toNat
  rw [spec_l6Run_eq k s r x n ⟨hs.1, hs.2.1⟩ (by omega) (by omega) (by omega)]
  cases back with
  | true =>
    simp only [if_true, Option.bind_some]
    rw [spec_l6Back_eq k s r p _ ⟨hs.1, hs.2.1⟩ hp (by omega) hin hk, Option.bind_some]
  | false =>
    have ha : allIn (runL s x n.toNat) 0 (s - 1) = true := List.all_eq_true.2 (fun y h => inR_iff.2 (hin y h))
    rw [if_neg (by simp), if_neg (by simp), Option.bind_some, spec_TourTime_eq k s r p _ (by omega) (by omega), if_pos (by rw [hr, inR_iff.2 hp, ha]; rfl), Option.bind_some]
theorem impl_Road_runTime_eq (k : Nat) (s : Int) (r : Bool) (p x n : Int) (back : Bool) (hr : road s r = true) (hp : 0 ≤ p ∧ p ≤ s - 1) (hx : 0 ≤ x ∧ x ≤ s - 1) (hn : 0 ≤ n ∧ n ≤ s) (hk : 10000 < k) : Q20.f k s r p x n back = some (timeM s r p x n.toNat back) := by
  unfold Q20.f timeM
  have hs := road_bd hr
  have hin := runL_in (n := n.toNat) hs.1 hx.1
  have hlen := runL_len s x n.toNat
  rw [impl_Road_run_eq k s r x n ⟨hs.1, hs.2.1⟩ (by omega) (by omega) (by omega)]
  cases back with
  | true =>
    simp only [if_true, Option.bind_some]
    rw [impl_Road_roundTrip_eq k s r p _ ⟨hs.1, hs.2.1⟩ hp (by omega) hin (by omega), Option.bind_some]
  | false =>
    rw [if_neg (by simp), if_neg (by simp), Option.bind_some, impl_Road_tour_eq k s r p _ ⟨hs.1, hs.2.1⟩ hp (by omega) hin (by omega), Option.bind_some]
theorem bestTo_mono {s : Int} {c : Int → Int → Int} (hs : 2 ≤ s) (hc : ∀ a b a' b', 0 ≤ a → 0 ≤ b → a ≤ a' → b ≤ b' → c a b ≤ c a' b') {fs gs : List Int} (h : ∀ f ∈ fs, f ∈ gs) (hg : ∀ f ∈ gs, f < s) : bestTo s c fs ≤ bestTo s c gs := by
  have H := (le_foldMin (fun i : Nat => c (leftAt s fs (i : Int)) (i : Int)) (bestTo s c fs) (List.range s.toNat) s).1 (Int.le_refl _)
  unfold bestTo at H ⊢
  rw [le_foldMin]
  refine ⟨H.1, fun i hi => Int.le_trans (H.2 i hi) (hc _ _ _ _ (leftAt_nn _ _ _) (by omega) (leftAt_le (leftAt_nn _ _ _) (fun f hf hlt => leftAt_ge (h f hf) hlt)) (Int.le_refl _))⟩
theorem wayM_mono {s : Int} {r : Bool} {c : Int → Int → Int} (hs : 2 ≤ s) (hc : ∀ a b a' b', 0 ≤ a → 0 ≤ b → a ≤ a' → b ≤ b' → c a b ≤ c a' b') {p : Int} (hp : 0 ≤ p ∧ p ≤ s - 1) {l l' : List Int} (h : ∀ x ∈ l, x ∈ l') (hx : ∀ x ∈ l', 0 ≤ x ∧ x ≤ s - 1) : wayM c s r p l ≤ wayM c s r p l' := by
  unfold wayM
  cases r with
  | true =>
    simp only [if_true]
    refine bestTo_mono hs hc (fun f hf => ?_) (fun f hf => ?_)
    · obtain ⟨q, hq, rfl⟩ := List.mem_map.1 hf
      exact List.mem_map.2 ⟨q, h q hq, rfl⟩
    · obtain ⟨q, hq, rfl⟩ := List.mem_map.1 hf
      exact (upRing_bd hs hp (hx q hq)).2
  | false =>
    rw [if_neg (by simp), if_neg (by simp)]
    have h1 := (foldMax_le (fun q => p - q) (leftL p l' 0) l' 0).1 (Int.le_refl _)
    have h2 := (foldMax_le (fun q => q - p) (rightL p l' 0) l' 0).1 (Int.le_refl _)
    have h3 := ((foldMax_le (fun q => p - q) (leftL p l 0) l 0).1 (Int.le_refl _)).1
    have h4 := ((foldMax_le (fun q => q - p) (rightL p l 0) l 0).1 (Int.le_refl _)).1
    exact hc _ _ _ _ h3 h4 ((foldMax_le _ _ l 0).2 ⟨h1.1, fun q hq => h1.2 q (h q hq)⟩) ((foldMax_le _ _ l 0).2 ⟨h2.1, fun q hq => h2.2 q (h q hq)⟩)
/-- The greatest number, from above. -/
def downM (P : Nat → Bool) : Nat → Nat
  | 0 => 0
  | n + 1 => if P (n + 1) = true then n + 1 else downM P n
/-- .. and from below. -/
def upM' (P : Nat → Bool) : Nat → Nat → Nat
  | 0, n => n
  | d + 1, n => if P (n + 1) = true then upM' P d (n + 1) else n
theorem downM_spec (P : Nat → Bool) : ∀ n, downM P n ≤ n ∧ (downM P n = 0 ∨ P (downM P n) = true) ∧ ∀ j, downM P n < j → j ≤ n → P j = false
  | 0 => ⟨Nat.le_refl _, .inl rfl, fun j h1 h2 => by simp [downM] at h1; omega⟩
  | n + 1 => by
    have ih := downM_spec P n
    unfold downM
    by_cases c : P (n + 1) = true
    · rw [if_pos c]
      exact ⟨Nat.le_refl _, .inr c, fun j h1 h2 => by omega⟩
    · rw [if_neg c]
      refine ⟨by omega, ih.2.1, fun j h1 h2 => ?_⟩
      rcases Nat.lt_or_ge n j with h | h
      · have : j = n + 1 := by omega
        subst this
        exact Bool.eq_false_iff.2 c
      · exact ih.2.2 j h1 h
theorem upM'_spec (P : Nat → Bool) : ∀ d n, (n = 0 ∨ P n = true) → n ≤ upM' P d n ∧ upM' P d n ≤ n + d ∧ (upM' P d n = 0 ∨ P (upM' P d n) = true) ∧ (upM' P d n = n + d ∨ P (upM' P d n + 1) = false)
  | 0, n, h => ⟨Nat.le_refl _, Nat.le_refl _, h, .inl rfl⟩
  | d + 1, n, h => by
    unfold upM'
    by_cases c : P (n + 1) = true
    · rw [if_pos c]
      have ih := upM'_spec P d (n + 1) (.inr c)
      exact ⟨by omega, by omega, ih.2.2.1, ih.2.2.2.imp (fun h => by omega) id⟩
    · rw [if_neg c]
      exact ⟨Nat.le_refl _, by omega, h, .inr (Bool.eq_false_iff.2 c)⟩
theorem up_down (P : Nat → Bool) (h : ∀ n, P (n + 1) = true → P n = true ∨ n = 0) (n : Nat) : upM' P n 0 = downM P n := by
  have anti : ∀ m j, j ≤ m → 0 < j → P m = true → P j = true := by
    intro m
    induction m with
    | zero => intro j h1 h2 _; omega
    | succ m ih =>
      intro j h1 h2 hp
      rcases Nat.lt_or_ge m j with h3 | h3
      · have : j = m + 1 := by omega
        subst this
        exact hp
      · rcases h m hp with h4 | h4
        · exact ih j h3 h2 h4
        · omega
  have h1 := downM_spec P n
  have h2 := upM'_spec P n 0 (.inl rfl)
  rcases Nat.lt_trichotomy (upM' P n 0) (downM P n) with h3 | h3 | h3
  · exfalso
    have hp : P (downM P n) = true := h1.2.1.resolve_left (by omega)
    have := anti _ (upM' P n 0 + 1) (by omega) (by omega) hp
    rcases h2.2.2.2 with h4 | h4
    · omega
    · rw [this] at h4; cases h4
  · exact h3
  · exfalso
    have hp : P (upM' P n 0) = true := h2.2.2.1.resolve_left (by omega)
    have := h1.2.2 _ h3 (by omega)
    rw [this] at hp
    cases hp
def fitB (s : Int) (r : Bool) (p x : Int) (back : Bool) (b : Int) (n : Nat) : Bool := decide (timeM s r p x n back ≤ b)
theorem runL_pre {s x : Int} {n m : Nat} (h : n ≤ m) : ∀ y ∈ runL s x n, y ∈ runL s x m := by
  intro y hy
  unfold runL at hy ⊢
  obtain ⟨i, hi, rfl⟩ := List.mem_map.1 hy
  exact List.mem_map.2 ⟨i, List.mem_range.2 (by have := List.mem_range.1 hi; omega), rfl⟩
theorem timeM_mono {s : Int} {r : Bool} {p x : Int} {back : Bool} {n m : Nat} (hs : 2 ≤ s) (hp : 0 ≤ p ∧ p ≤ s - 1) (hx : 0 ≤ x) (h : n ≤ m) : timeM s r p x n back ≤ timeM s r p x m back := by
  unfold timeM
  refine wayM_mono hs ?_ hp (runL_pre h) (runL_in hs hx)
  cases back
  · exact costT_mono
  · exact costB_mono
def nextM (s : Int) (r back : Bool) (starts budgets : List Int) (x done k : Int) : Nat := downM (fitB s r (rd starts k) (Int.tmod (x + done) s) back (rd budgets k)) (s - done).toNat
/-- What is taken in an order. -/
def takeM (s : Int) (r back : Bool) (starts budgets : List Int) (x : Int) : List Int → List Int → Int → List Int × Int
  | [], out, done => (out, done)
  | k :: ks, out, done => takeM s r back starts budgets x ks (out.set k.toNat (nextM s r back starts budgets x done k : Int)) (done + (nextM s r back starts budgets x done k : Int))
def lenX (s : Int) (r : Bool) (x : Nat) : Nat := if r = true then s.toNat else s.toNat - x
theorem fits_at (s : Int) (r : Bool) (x n : Nat) (hx : (x : Int) < s) : fits s r (x : Int) (n : Int) = decide (n ≤ lenX s r x) := by
  unfold fits lenX inR
  rw [Bool.eq_iff_iff]
  cases r <;> simp <;> omega
def rowM (s : Int) (r : Bool) (p : Int) (back : Bool) (x : Nat) : List Int := (List.range (lenX s r x + 1)).map fun n => timeM s r p (x : Int) n back
def tabM (s : Int) (r : Bool) (back : Bool) (p : Int) : List (List Int) := (List.range s.toNat).map fun x => rowM s r p back x
theorem newRuns_l2 (s : Int) (r back : Bool) (hr : road s r = true) (p : Int) (hp : 0 ≤ p ∧ p ≤ s - 1) (x : Nat) (hx : (x : Int) < s) (tb : List (List Int)) (htb : tb.length ≤ 1000) (a b c d0 e t0 : Int) (t1 : Bool) (st : List Int) (t2 : List (List (List Int))) : ∀ (d i k : Nat), i + d = lenX s r x + 1 → 10000 + d < k → ∃ k', k ≤ k' + d + 1 ∧
    Q7.l2 k back p tb (x : Int) ((List.range i).map fun n => timeM s r p (x : Int) n back) (i : Int) st a b c e s r t0 t1 t2 = Q7.l1 k' back p (tb ++ [rowM s r p back x]) st a b c (wrap64 (e + 1)) s r t0 t1 t2
  | 0, i, k, h, hk => by
    have hs := road_bd hr
    obtain ⟨k, rfl⟩ := succ_of (k := k) (by omega)
    refine ⟨k, by omega, ?_⟩
    have hL : lenX s r x ≤ s.toNat := by unfold lenX; split <;> omega
    obtain rfl : i = lenX s r x + 1 := by omega
    simp only [Q7.l2]
    by_cases c1 : ((lenX s r x + 1 : Nat) : Int) ≤ s
    · rw [if_pos c1, impl_Road_isRun_eq k s r _ _ hr (by omega), Option.bind_some, fits_at s r x _ hx, decide_eq_false (by omega), if_neg (by simp), if_pos (by omega)]
      rfl
    · rw [if_neg c1, if_pos (by omega)]
      rfl
  | d + 1, i, k, h, hk => by
    have hs := road_bd hr
    obtain ⟨k, rfl⟩ := succ_of (k := k) (by omega)
    have hL : lenX s r x ≤ s.toNat := by unfold lenX; split <;> omega
    obtain ⟨k', hk', e⟩ := newRuns_l2 s r back hr p hp x hx tb htb a b c d0 e t0 t1 st t2 d (i + 1) k (by omega) (by omega)
    refine ⟨k', by omega, ?_⟩
    simp only [Q7.l2]
    rw [if_pos (by omega), impl_Road_isRun_eq k s r _ _ hr (by omega), Option.bind_some, fits_at s r x _ hx, decide_eq_true (by omega), if_pos rfl, impl_Road_runTime_eq k s r p _ _ back hr hp (by omega) (by omega) (by omega), Option.bind_some, if_pos (by simp; omega), wrap_succ (n := s.toNat + 1) (by omega) (by omega), Int.toNat_natCast]
    rw [List.range_succ, List.map_append] at e
    exact e
theorem newRuns_l1 (s : Int) (r back : Bool) (hr : road s r = true) (p : Int) (hp : 0 ≤ p ∧ p ≤ s - 1) (a b t0 : Int) (t1 : Bool) (st : List Int) (t2 : List (List (List Int))) (ht2 : t2.length ≤ 1000) : ∀ (d x k : Nat), x + d = s.toNat → 10010 + 30 * d < k → ∃ k', k ≤ k' + 30 * d + 1 ∧
    Q7.l1 k back p ((List.range x).map fun x => rowM s r p back x) st a b s (x : Int) s r t0 t1 t2 = Q7.l0 k' back st a (wrap64 (b + 1)) s r t0 t1 (t2 ++ [tabM s r back p])
  | 0, x, k, h, hk => by
    obtain ⟨k, rfl⟩ := succ_of (k := k) (by omega)
    refine ⟨k, by omega, ?_⟩
    obtain rfl : x = s.toNat := by omega
    simp only [Q7.l1]
    rw [if_neg (by omega), if_pos (by omega)]
    rfl
  | d + 1, x, k, h, hk => by
    have hs := road_bd hr
    have hL : lenX s r x ≤ s.toNat := by unfold lenX; split <;> omega
    obtain ⟨k, rfl⟩ := succ_of (k := k) (by omega)
    obtain ⟨k1, hk1, e1⟩ := newRuns_l2 s r back hr p hp x (by omega) ((List.range x).map fun x => rowM s r p back x) (by simp; omega) a b s 0 (x : Int) t0 t1 st t2 (lenX s r x + 1) 0 k (by omega) (by omega)
    obtain ⟨k2, hk2, e2⟩ := newRuns_l1 s r back hr p hp a b t0 t1 st t2 ht2 d (x + 1) k1 (by omega) (by omega)
    refine ⟨k2, by omega, ?_⟩
    simp only [Q7.l1]
    rw [if_pos (by omega)]
    rw [show (([] : List Int)) = (List.range 0).map (fun n => timeM s r p (x : Int) n back) from rfl, show (0 : Int) = ((0 : Nat) : Int) from rfl, e1, wrap_succ (n := s.toNat) (by omega) (by omega)]
    rw [List.range_succ, List.map_append] at e2
    exact e2
theorem newRuns_l0 (s : Int) (r back : Bool) (hr : road s r = true) (st : List Int) (hl : st.length ≤ 4) (hx : ∀ p ∈ st, 0 ≤ p ∧ p ≤ s - 1) (t0 : Int) (t1 : Bool) : ∀ (d i k : Nat), i + d = st.length → 10020 + 1000 * d < k →
    Q7.l0 k back st (st.length : Int) (i : Int) s r t0 t1 ((st.take i).map (tabM s r back)) = some (t0, t1, st.map (tabM s r back))
  | 0, i, k, h, hk => by
    obtain ⟨k, rfl⟩ := succ_of (k := k) (by omega)
    simp only [Q7.l0]
    rw [if_neg (by omega), List.take_of_length_le (by omega)]
  | d + 1, i, k, h, hk => by
    have hs := road_bd hr
    obtain ⟨k, rfl⟩ := succ_of (k := k) (by omega)
    have hq := rd_all hx i (by omega)
    obtain ⟨k1, hk1, e1⟩ := newRuns_l1 s r back hr (rd st (i : Int)) hq (st.length : Int) (i : Int) t0 t1 st ((st.take i).map (tabM s r back)) (by simp; omega) s.toNat 0 k (by omega) (by omega)
    have e2 := newRuns_l0 s r back hr st hl hx t0 t1 d (i + 1) k1 (by omega) (by omega)
    simp only [Q7.l0]
    rw [if_pos (by omega), if_pos (by omega), if_pos (by omega)]
    rw [show (([] : List (List Int))) = (List.range 0).map (fun x => rowM s r (rd st (i : Int)) back x) from rfl, show (0 : Int) = ((0 : Nat) : Int) from rfl, e1, wrap_succ (n := st.length) (by omega) (by omega), ← e2, List.take_succ_eq_append_getElem (show i < st.length by omega), List.map_append, rd_nat st i (by omega)]
    rfl
theorem impl_newRuns_eq (k : Nat) (s : Int) (r back : Bool) (hr : road s r = true) (st : List Int) (hl : st.length ≤ 4) (hx : ∀ p ∈ st, 0 ≤ p ∧ p ≤ s - 1) (hk : 20000 < k) : Q7.f k s r st back = some (s, r, st.map (tabM s r back)) := by
  unfold Q7.f
  exact newRuns_l0 s r back hr st hl hx s r st.length 0 k (by omega) (by omega)
theorem rowM_rd (s : Int) (r : Bool) (p : Int) (back : Bool) (x n : Nat) (h : n ≤ lenX s r x) : rd (rowM s r p back x) (n : Int) = timeM s r p (x : Int) n back := by
  rw [rd_nat _ n (by unfold rowM; simp; omega)]
  unfold rowM
  simp
theorem rowM_len (s : Int) (r : Bool) (p : Int) (back : Bool) (x : Nat) : (rowM s r p back x).length = lenX s r x + 1 := by unfold rowM; simp
theorem tabM_rd (s : Int) (r back : Bool) (p x : Int) (h0 : 0 ≤ x) (h1 : x < s) : rd_L2 (tabM s r back p) x = rowM s r p back x.toNat := by
  unfold rd_L2 tabM
  rw [List.getD_eq_getElem?_getD, List.getElem?_map, List.getElem?_range (by omega)]
  rfl
theorem tabs_rd (s : Int) (r back : Bool) (st : List Int) (i : Int) (h0 : 0 ≤ i) (h1 : i < st.length) : rd_L3 (st.map (tabM s r back)) i = tabM s r back (rd st i) := by
  obtain ⟨j, rfl⟩ := Int.eq_ofNat_of_zero_le h0
  rw [rd_nat st j (by omega)]
  unfold rd_L3
  rw [List.getD_eq_getElem?_getD, List.getElem?_map, Int.toNat_natCast, List.getElem?_eq_getElem (by omega)]
  rfl
theorem pos_bd {s x done : Int} (hs : 2 ≤ s) (h : 0 ≤ x + done) : 0 ≤ Int.tmod (x + done) s ∧ Int.tmod (x + done) s < s := by
  rw [Int.tmod_eq_emod_of_nonneg h]
  exact ⟨Int.emod_nonneg _ (by omega), Int.emod_lt_of_pos _ (by omega)⟩
theorem pos_len {s x done : Int} {r : Bool} (hs : 2 ≤ s) (hx : 0 ≤ x ∧ x < s) (hd : 0 ≤ done ∧ done ≤ s) (hr : r = true ∨ x = 0) : (s - done).toNat ≤ lenX s r (Int.tmod (x + done) s).toNat := by
  unfold lenX
  cases r with
  | true => simp only [if_true]; omega
  | false =>
    rw [if_neg (by simp)]
    have hx0 : x = 0 := hr.resolve_left (by simp)
    subst hx0
    rcases Int.lt_or_le done s with h | h
    · rw [Int.zero_add, Int.tmod_eq_of_lt hd.1 h]
      omega
    · omega
theorem taken_l1 (s : Int) (r back : Bool) (hs : 2 ≤ s ∧ s ≤ 24) (p : Int) (x done i len idx : Int) (ps : Nat) (hd : 0 ≤ done ∧ done ≤ 1000) (bud out ord : List Int) (t2 : List (List (List Int))) (hi : 0 ≤ i ∧ i < bud.length) (ho : i < out.length) : ∀ (n k : Nat), n ≤ lenX s r ps → n + 1 < k → ∃ k', k ≤ k' + n + 1 ∧
    Q19.l1 k bud x out done i (rowM s r p back ps) (n : Int) ord len idx s r t2 = Q19.l0 k' bud x (out.set i.toNat (downM (fitB s r p (ps : Int) back (rd bud i)) n : Int)) (done + (downM (fitB s r p (ps : Int) back (rd bud i)) n : Int)) ord len (wrap64 (idx + 1)) s r t2
  | 0, k, h, hk => by
    obtain ⟨k, rfl⟩ := succ_of (k := k) (by omega)
    refine ⟨k, by omega, ?_⟩
    simp only [Q19.l1]
    rw [if_neg (by omega), if_pos hi.1, if_pos ho]
    simp only [downM]
    rw [wrap64_id (x := done + _) (by omega) (by omega)]
  | n + 1, k, h, hk => by
    obtain ⟨k, rfl⟩ := succ_of (k := k) (by omega)
    have hL : lenX s r ps ≤ s.toNat := by unfold lenX; split <;> omega
    obtain ⟨k', hk', e⟩ := taken_l1 s r back hs p x done i len idx ps hd bud out ord t2 hi ho n k (by omega) (by omega)
    simp only [Q19.l1]
    have hw : wrap64 (((n + 1 : Nat) : Int) - 1) = (n : Int) := by rw [wrap64_id (by omega) (by omega)]; omega
    rw [if_pos (by omega), if_pos (by omega), if_pos (by rw [rowM_len]; omega), if_pos hi.1, if_pos hi.2, rowM_rd s r p back ps (n + 1) h, hw]
    simp only [downM]
    by_cases c : timeM s r p (ps : Int) (n + 1) back ≤ rd bud i
    · have cf : fitB s r p (ps : Int) back (rd bud i) (n + 1) = true := by unfold fitB; exact decide_eq_true c
      refine ⟨k, by omega, ?_⟩
      rw [if_neg (by omega), if_pos ho, cf, if_pos rfl, wrap64_id (x := done + _) (by omega) (by omega)]
    · have cf : fitB s r p (ps : Int) back (rd bud i) (n + 1) = false := by unfold fitB; exact decide_eq_false c
      refine ⟨k', by omega, ?_⟩
      rw [if_pos (by omega), cf, if_neg (by simp)]
      exact e
theorem nextM_le (s : Int) (r back : Bool) (st bud : List Int) (x done k : Int) (hd : done ≤ s) : (nextM s r back st bud x done k : Int) ≤ s - done := by
  have := (downM_spec (fitB s r (rd st k) (Int.tmod (x + done) s) back (rd bud k)) (s - done).toNat).1
  unfold nextM
  omega
theorem taken_l0 (s : Int) (r back : Bool) (hs : 2 ≤ s ∧ s ≤ 24) (st bud ord : List Int) (x : Int) (hx : 0 ≤ x ∧ x < s) (hr : r = true ∨ x = 0) (hb : bud.length = st.length) (hst : st.length ≤ 4) (hol : ord.length ≤ 4) (hord : ∀ k ∈ ord, 0 ≤ k ∧ k < st.length) : ∀ (d i k : Nat) (out : List Int) (done : Int), i + d = ord.length → 0 ≤ done ∧ done ≤ s → out.length = st.length → 100 * d + 10 < k →
    Q19.l0 k bud x out done ord (ord.length : Int) (i : Int) s r (st.map (tabM s r back)) = some ((takeM s r back st bud x (ord.drop i) out done).1, (takeM s r back st bud x (ord.drop i) out done).2 == s)
  | 0, i, k, out, done, h, hd, ho, hk => by
    obtain ⟨k, rfl⟩ := succ_of (k := k) (by omega)
    simp only [Q19.l0]
    rw [if_neg (by omega), drop_end ord i (by omega)]
    rfl
  | d + 1, i, k, out, done, h, hd, ho, hk => by
    obtain ⟨k, rfl⟩ := succ_of (k := k) (by omega)
    have hq := rd_all hord i (by omega)
    have hp := pos_bd (s := s) (x := x) (done := done) hs.1 (by omega)
    have hpl := pos_len (r := r) hs.1 hx hd hr
    have hL : lenX s r (Int.tmod (x + done) s).toNat ≤ s.toNat := by unfold lenX; split <;> omega
    have hpn : (((Int.tmod (x + done) s).toNat : Nat) : Int) = Int.tmod (x + done) s := Int.toNat_of_nonneg hp.1
    obtain ⟨k1, hk1, e1⟩ := taken_l1 s r back hs (rd st (rd ord (i : Int))) x done (rd ord (i : Int)) (ord.length : Int) (i : Int) (Int.tmod (x + done) s).toNat (by omega) bud out ord (st.map (tabM s r back)) (by omega) (by omega) (s - done).toNat k hpl (by omega)
    have hnl := nextM_le s r back st bud x done (rd ord (i : Int)) hd.2
    rw [hpn, Int.toNat_of_nonneg (show 0 ≤ s - done by omega)] at e1
    have e2 := taken_l0 s r back hs st bud ord x hx hr hb hst hol hord d (i + 1) k1 (out.set (rd ord (i : Int)).toNat (nextM s r back st bud x done (rd ord (i : Int)) : Int)) (done + (nextM s r back st bud x done (rd ord (i : Int)) : Int)) (by omega) (by omega) (by rw [List.length_set]; exact ho) (by omega)
    simp only [Q19.l0]
    rw [if_pos (by omega), if_pos (by omega), if_pos (by omega), if_pos hq.1, if_pos (by rw [List.length_map]; exact hq.2), if_neg (by omega), wrap64_id (x := x + done) (by omega) (by omega), if_pos hp.1, tabs_rd s r back st _ hq.1 hq.2, if_pos (by unfold tabM; simp; omega), tabM_rd s r back _ _ hp.1 hp.2, wrap64_id (x := s - done) (by omega) (by omega), e1, wrap_succ (n := ord.length) (by omega) (by omega), drop_rd ord i (by omega)]
    exact e2
theorem impl_taken_eq (k : Nat) (s : Int) (r back : Bool) (hs : 2 ≤ s ∧ s ≤ 24) (st bud ord : List Int) (x : Int) (hx : 0 ≤ x ∧ x < s) (hr : r = true ∨ x = 0) (hb : bud.length = st.length) (hst : st.length ≤ 4) (hol : ord.length ≤ 4) (hord : ∀ k ∈ ord, 0 ≤ k ∧ k < st.length) (hk : 500 < k) :
    Q19.f k s r (st.map (tabM s r back)) bud x ord = some ((takeM s r back st bud x ord (List.replicate st.length 0) 0).1, (takeM s r back st bud x ord (List.replicate st.length 0) 0).2 == s) := by
  unfold Q19.f
  rw [if_pos (by omega), if_pos (by omega), hb, Int.toNat_natCast]
  exact taken_l0 s r back hs st bud ord x hx hr hb hst hol hord ord.length 0 k _ 0 (by omega) (by omega) (by simp) (by omega)
theorem fitB_anti (s : Int) (r : Bool) (p x : Int) (back : Bool) (b : Int) (hs : 2 ≤ s) (hp : 0 ≤ p ∧ p ≤ s - 1) (hx : 0 ≤ x) : ∀ n, fitB s r p x back b (n + 1) = true → fitB s r p x back b n = true ∨ n = 0 := by
  intro n h
  left
  unfold fitB at h ⊢
  have := timeM_mono (r := r) (back := back) hs hp hx (show n ≤ n + 1 by omega)
  have h := of_decide_eq_true h
  exact decide_eq_true (by omega)
theorem spec_taken_l1 (s : Int) (r back : Bool) (hr : road s r = true) (st bud ord out : List Int) (x done i idx : Int) (hx : 0 ≤ x ∧ x < s) (hd : 0 ≤ done ∧ done ≤ s) (hst : ∀ p ∈ st, 0 ≤ p ∧ p ≤ s - 1) (hi : 0 ≤ i ∧ i < st.length) (hb : bud.length = st.length) (ho : i < out.length) : ∀ (d n k : Nat), n + d = (s - done).toNat → 10001 + d < k → ∃ k', k ≤ k' + d + 1 ∧
    Q10.l1 k st bud x ord back out done idx i (n : Int) s r = Q10.l0 k' st bud x ord back (out.set i.toNat (upM' (fitB s r (rd st i) (Int.tmod (x + done) s) back (rd bud i)) d n : Int)) (done + (upM' (fitB s r (rd st i) (Int.tmod (x + done) s) back (rd bud i)) d n : Int)) (wrap64 (idx + 1)) s r
  | 0, n, k, h, hk => by
    have hs := road_bd hr
    obtain ⟨k, rfl⟩ := succ_of (k := k) (by omega)
    refine ⟨k, by omega, ?_⟩
    simp only [Q10.l1, upM']
    rw [wrap64_id (x := done + n) (by omega) (by omega), if_neg (by omega), if_pos hi.1, if_pos ho]
  | d + 1, n, k, h, hk => by
    have hs := road_bd hr
    obtain ⟨k, rfl⟩ := succ_of (k := k) (by omega)
    have hp := pos_bd (s := s) (x := x) (done := done) hs.1 (by omega)
    obtain ⟨j, hj⟩ := Int.eq_ofNat_of_zero_le hi.1
    have hq : 0 ≤ rd st i ∧ rd st i ≤ s - 1 := by rw [hj]; exact rd_all hst j (by omega)
    obtain ⟨k', hk', e⟩ := spec_taken_l1 s r back hr st bud ord out x done i idx hx hd hst hi hb ho d (n + 1) k (by omega) (by omega)
    simp only [Q10.l1, upM']
    rw [wrap64_id (x := done + n) (by omega) (by omega), if_pos (by omega), if_pos hi.1, if_pos hi.2, if_neg (by omega), wrap64_id (x := x + done) (by omega) (by omega), wrap_succ (n := (s - done).toNat) (by omega) (by omega), spec_l6Time_eq k s r _ _ _ back hr hq (by omega) (by omega) (by omega), Option.bind_some, if_pos (by omega), Int.toNat_natCast]
    by_cases c : timeM s r (rd st i) (Int.tmod (x + done) s) (n + 1) back ≤ rd bud i
    · have cf : fitB s r (rd st i) (Int.tmod (x + done) s) back (rd bud i) (n + 1) = true := by unfold fitB; exact decide_eq_true c
      refine ⟨k', by omega, ?_⟩
      rw [if_pos c, cf, if_pos rfl]
      exact e
    · have cf : fitB s r (rd st i) (Int.tmod (x + done) s) back (rd bud i) (n + 1) = false := by unfold fitB; exact decide_eq_false c
      refine ⟨k, by omega, ?_⟩
      rw [if_neg c, if_pos ho, cf, if_neg (by simp)]
theorem spec_taken_l0 (s : Int) (r back : Bool) (hr : road s r = true) (st bud ord : List Int) (x : Int) (hx : 0 ≤ x ∧ x < s) (hst : ∀ p ∈ st, 0 ≤ p ∧ p ≤ s - 1) (hb : bud.length = st.length) (hol : ord.length ≤ 4) (hord : ∀ k ∈ ord, 0 ≤ k ∧ k < st.length) : ∀ (d i k : Nat) (out : List Int) (done : Int), i + d = ord.length → 0 ≤ done ∧ done ≤ s → out.length = st.length → 10010 + 100 * d < k →
    Q10.l0 k st bud x ord back out done (i : Int) s r = some (takeM s r back st bud x (ord.drop i) out done)
  | 0, i, k, out, done, h, hd, ho, hk => by
    obtain ⟨k, rfl⟩ := succ_of (k := k) (by omega)
    simp only [Q10.l0]
    rw [if_neg (by omega), drop_end ord i (by omega)]
    rfl
  | d + 1, i, k, out, done, h, hd, ho, hk => by
    have hs := road_bd hr
    obtain ⟨k, rfl⟩ := succ_of (k := k) (by omega)
    have hq := rd_all hord i (by omega)
    obtain ⟨j, hj⟩ := Int.eq_ofNat_of_zero_le hq.1
    have hp := pos_bd (s := s) (x := x) (done := done) hs.1 (by omega)
    have hp2 : 0 ≤ rd st (rd ord (i : Int)) ∧ rd st (rd ord (i : Int)) ≤ s - 1 := by rw [hj]; exact rd_all hst j (by omega)
    obtain ⟨k1, hk1, e1⟩ := spec_taken_l1 s r back hr st bud ord out x done (rd ord (i : Int)) (i : Int) hx hd hst hq hb (by omega) (s - done).toNat 0 k (by omega) (by omega)
    have hnl := nextM_le s r back st bud x done (rd ord (i : Int)) hd.2
    have e2 := spec_taken_l0 s r back hr st bud ord x hx hst hb hol hord d (i + 1) k1 (out.set (rd ord (i : Int)).toNat (nextM s r back st bud x done (rd ord (i : Int)) : Int)) (done + (nextM s r back st bud x done (rd ord (i : Int)) : Int)) (by omega) (by omega) (by rw [List.length_set]; exact ho) (by omega)
    rw [up_down _ (fitB_anti s r _ _ back _ hs.1 hp2 hp.1)] at e1
    simp only [Q10.l0]
    rw [if_pos (by omega), if_pos (by omega)]
    rw [show ((0 : Nat) : Int) = 0 from rfl] at e1
    rw [e1, wrap_succ (n := ord.length) (by omega) (by omega), drop_rd ord i (by omega)]
    exact e2
theorem spec_taken_eq (k : Nat) (s : Int) (r back : Bool) (hr : road s r = true) (st bud ord : List Int) (x : Int) (hx : 0 ≤ x ∧ x < s) (hst : ∀ p ∈ st, 0 ≤ p ∧ p ≤ s - 1) (hsl : st.length ≤ 4) (hb : bud.length = st.length) (hol : ord.length ≤ 4) (hord : ∀ k ∈ ord, 0 ≤ k ∧ k < st.length) (hk : 11000 < k) :
    Q10.f k s r st bud x ord back = some (takeM s r back st bud x ord (List.replicate st.length 0) 0) := by
  have hs := road_bd hr
  unfold Q10.f
  rw [if_pos (by omega), if_pos (by omega), Int.toNat_natCast]
  exact spec_taken_l0 s r back hr st bud ord x hx hst hb hol hord ord.length 0 k _ 0 (by omega) (by omega) (by simp) (by omega)
theorem spec_own_eq (l : List Int) (hl : l.length ≤ 1000) : Q70.f l = some l := by
  unfold Q70.f
  rw [Option.bind_some, if_pos (by simp; omega)]
  rfl
theorem spec_orders (n : Nat) (hn : n ≤ 4) : ∀ (d : Nat) (xs : List Int) (k : Nat), xs.length + d = n → 10 * (d + 1) + 20 < k → Q18.f k (n : Int) xs = some (ordL n d xs)
  | 0, xs, k, h, hk => by
    obtain ⟨k, rfl⟩ := succ_of (k := k) (by omega)
    simp only [Q18.f]
    rw [if_pos (by omega)]
    rfl
  | d + 1, xs, k, h, hk => by
    obtain ⟨k, rfl⟩ := succ_of (k := k) (by omega)
    have hl : ∀ (e i k : Nat), i + e = n → 10 * (d + 1) + 20 + e < k → Q18.l0 k (n : Int) xs (ordP n d xs i) (i : Int) = some (ordP n d xs n) := by
      intro e
      induction e with
      | zero =>
        intro i k h1 h2
        obtain ⟨k, rfl⟩ := succ_of (k := k) (by omega)
        obtain rfl : i = n := by omega
        simp only [Q18.l0]
        rw [if_neg (by omega)]
      | succ e ih =>
        intro i k h1 h2
        obtain ⟨k, rfl⟩ := succ_of (k := k) (by omega)
        have hp := ordP_len n hn d xs i
        have hq := ordL_len n hn d (xs ++ [(i : Int)])
        have h4 : (4 : Nat) ^ d ≤ 4 ^ 4 := Nat.pow_le_pow_right (by omega) (by omega)
        have h5 : i * 4 ^ d ≤ 4 * 4 ^ 4 := Nat.mul_le_mul (by omega) h4
        have ih' := ih (i + 1) k (by omega) (by omega)
        rw [ordP_succ] at ih'
        simp only [Q18.l0]
        rw [if_pos (by omega), spec_l1Has_eq k _ xs (by omega) (by omega), Option.bind_some]
        by_cases c : (xs.any fun y => decide (y = (i : Int))) = true
        · rw [if_pos c, wrap_succ (n := n) (by omega) (by omega)]
          rw [if_pos c, List.append_nil] at ih'
          exact ih'
        · rw [if_neg c, spec_own_eq xs (by omega), Option.bind_some, if_pos (by omega), spec_orders n hn d (xs ++ [(i : Int)]) k (by simp; omega) (by omega), Option.bind_some, if_pos (by omega), wrap_succ (n := n) (by omega) (by omega)]
          rw [if_neg c] at ih'
          exact ih'
    simp only [Q18.f]
    rw [if_neg (by omega)]
    exact hl n 0 k (by omega) (by omega)
theorem impl_orders (k n : Nat) (hn : n ≤ 4) : Q66.f k (n : Int) = some (ordL n n []) := by
  unfold Q66.f
  rw [if_pos (by omega), Int.toNat_natCast]
theorem ordL_mem (n : Nat) : ∀ (d : Nat) (xs : List Int), xs.length + d = n → (∀ k ∈ xs, 0 ≤ k ∧ k < (n : Int)) → ∀ o ∈ ordL n d xs, o.length = n ∧ ∀ k ∈ o, 0 ≤ k ∧ k < (n : Int)
  | 0, xs, h, hx, o, ho => by
    simp only [ordL, List.mem_singleton] at ho
    subst ho
    exact ⟨by omega, hx⟩
  | d + 1, xs, h, hx, o, ho => by
    simp only [ordL, List.mem_flatMap, List.mem_range] at ho
    obtain ⟨i, hi, ho⟩ := ho
    split at ho
    · simp at ho
    · refine ordL_mem n d (xs ++ [(i : Int)]) (by simp; omega) (fun k hk => ?_) o ho
      rcases List.mem_append.1 hk with h1 | h1
      · exact hx k h1
      · rw [List.mem_singleton.1 h1]
        omega
def okO (s : Int) (r back : Bool) (st bud : List Int) (x : Int) (o : List Int) : Bool := (takeM s r back st bud x o (List.replicate st.length 0) 0).2 == s
def firstX (P : Int → List Int → Bool) (os : List (List Int)) : Nat → Nat → Option (Int × List Int)
  | 0, _ => none
  | d + 1, x => match os.find? (P (x : Int)) with
    | some o => some ((x : Int), o)
    | none => firstX P os d (x + 1)
def leftX (s : Int) (r : Bool) (x : Nat) : Nat := if r = true then s.toNat - x else if x = 0 then 1 else 0
theorem rdL_nat (os : List (List Int)) (i : Nat) (h : i < os.length) : rd_L2 os (i : Int) = os[i] := by
  unfold rd_L2
  rw [List.getD_eq_getElem?_getD, Int.toNat_natCast, List.getElem?_eq_getElem h]
  rfl
theorem spec_first_l1 (s : Int) (r back : Bool) (hr : road s r = true) (st bud : List Int) (hst : ∀ p ∈ st, 0 ≤ p ∧ p ≤ s - 1) (hsl : st.length ≤ 4) (hb : bud.length = st.length) (os : List (List Int)) (hos : ∀ o ∈ os, o.length ≤ 4 ∧ ∀ k ∈ o, 0 ≤ k ∧ k < st.length) (hol : os.length ≤ 1000) (x : Int) (hx : 0 ≤ x ∧ x < s) : ∀ (d i k : Nat), i + d = os.length → 12000 + d < k →
    (∃ o, (os.drop i).find? (okO s r back st bud x) = some o ∧ Q2.l1 k st bud back os x (i : Int) s r = some (x, o)) ∨ ((os.drop i).find? (okO s r back st bud x) = none ∧ ∃ k', k ≤ k' + d + 1 ∧ Q2.l1 k st bud back os x (i : Int) s r = Q2.l0 k' st bud back os (wrap64 (x + 1)) s r)
  | 0, i, k, h, hk => by
    obtain ⟨k, rfl⟩ := succ_of (k := k) (by omega)
    refine .inr ⟨by rw [drop_end os i (by omega)]; rfl, k, by omega, ?_⟩
    simp only [Q2.l1]
    rw [if_neg (by omega)]
  | d + 1, i, k, h, hk => by
    obtain ⟨k, rfl⟩ := succ_of (k := k) (by omega)
    have hi : i < os.length := by omega
    have ho := hos _ (List.getElem_mem hi)
    simp only [Q2.l1]
    rw [if_pos (by omega), if_pos (by omega), rdL_nat os i hi, spec_taken_eq k s r back hr st bud _ x hx hst hsl hb ho.1 ho.2 (by omega), Option.bind_some, List.drop_eq_getElem_cons hi, List.find?_cons]
    by_cases c : (takeM s r back st bud x os[i] (List.replicate st.length 0) 0).2 = s
    · have cb : okO s r back st bud x os[i] = true := by unfold okO; exact beq_iff_eq.2 c
      rw [if_pos c, cb]
      exact .inl ⟨os[i], rfl, rfl⟩
    · have cb : okO s r back st bud x os[i] = false := by unfold okO; exact beq_eq_false_iff_ne.2 c
      rw [if_neg c, cb, wrap_succ (n := os.length) (by omega) (by omega)]
      rcases spec_first_l1 s r back hr st bud hst hsl hb os hos hol x hx d (i + 1) k (by omega) (by omega) with h1 | ⟨h1, k', hk', e⟩
      · exact .inl h1
      · exact .inr ⟨h1, k', by omega, e⟩
theorem spec_first_l0 (s : Int) (r back : Bool) (hr : road s r = true) (st bud : List Int) (hst : ∀ p ∈ st, 0 ≤ p ∧ p ≤ s - 1) (hsl : st.length ≤ 4) (hb : bud.length = st.length) (os : List (List Int)) (hos : ∀ o ∈ os, o.length ≤ 4 ∧ ∀ k ∈ o, 0 ≤ k ∧ k < st.length) (hol : os.length ≤ 1000) : ∀ (d x k : Nat), x + d = s.toNat → 13000 + 1010 * d < k →
    Q2.l0 k st bud back os (x : Int) s r = some (match firstX (okO s r back st bud) os (leftX s r x) x with | some z => z | none => (-1, []))
  | 0, x, k, h, hk => by
    have hs := road_bd hr
    obtain ⟨k, rfl⟩ : ∃ k', k = k' + 1 + 1 := ⟨k - 2, by omega⟩
    have hl : leftX s r x = 0 := by unfold leftX; split <;> (try split) <;> omega
    simp only [Q2.l0, Q2.j1]
    rw [if_neg (by omega), if_neg (by simp), hl]
    rfl
  | d + 1, x, k, h, hk => by
    have hs := road_bd hr
    obtain ⟨k, rfl⟩ : ∃ k', k = k' + 1 + 1 := ⟨k - 2, by omega⟩
    have step : ∀ m, leftX s r x = m + 1 → m = leftX s r (x + 1) → Q2.l1 k st bud back os (x : Int) 0 s r = some (match firstX (okO s r back st bud) os (leftX s r x) x with | some z => z | none => (-1, [])) := by
      intro m hm hm2
      rw [hm]
      simp only [firstX]
      have h0 := spec_first_l1 s r back hr st bud hst hsl hb os hos hol (x : Int) (by omega) os.length 0 k (by omega) (by omega)
      rw [List.drop_zero, show ((0 : Nat) : Int) = 0 from rfl] at h0
      rcases h0 with ⟨o, h1, e⟩ | ⟨h1, k', hk', e⟩
      · rw [h1, e]
      · rw [h1, e, wrap_succ (n := s.toNat) (by omega) (by omega), spec_first_l0 s r back hr st bud hst hsl hb os hos hol d (x + 1) k' (by omega) (by omega), ← hm2]
    simp only [Q2.l0, Q2.j1]
    rw [if_pos (by omega)]
    cases r with
    | true =>
      have hl : leftX s true x = (s.toNat - (x + 1)) + 1 := by unfold leftX; simp; omega
      have := step _ hl (by unfold leftX; simp)
      by_cases c : (x : Int) = 0
      · rw [if_pos c, if_pos trivial]; exact this
      · rw [if_neg c, if_pos rfl]; exact this
    | false =>
      by_cases c : (x : Int) = 0
      · have hx0 : x = 0 := by omega
        have hl : leftX s false x = 0 + 1 := by unfold leftX; simp [hx0]
        rw [if_pos c, if_pos trivial]
        exact step _ hl (by unfold leftX; simp)
      · have hx0 : ¬ x = 0 := by omega
        have hl : leftX s false x = 0 := by unfold leftX; simp [hx0]
        rw [if_neg c, if_neg (by simp), hl]
        rfl
theorem impl_first_l1 (s : Int) (r back : Bool) (hs : 2 ≤ s ∧ s ≤ 24) (st bud : List Int) (hsl : st.length ≤ 4) (hb : bud.length = st.length) (os : List (List Int)) (hos : ∀ o ∈ os, o.length ≤ 4 ∧ ∀ k ∈ o, 0 ≤ k ∧ k < st.length) (hol : os.length ≤ 1000) (x a b : Int) (hx : 0 ≤ x ∧ x < s) (hrx : r = true ∨ x = 0) : ∀ (d i k : Nat), i + d = os.length → 1000 + d < k →
    (∃ o, (os.drop i).find? (okO s r back st bud x) = some o ∧ Q13.l1 k bud os x a b os (os.length : Int) (i : Int) s r (st.map (tabM s r back)) = some (x, o, true)) ∨ ((os.drop i).find? (okO s r back st bud x) = none ∧ ∃ k', k ≤ k' + d + 1 ∧ Q13.l1 k bud os x a b os (os.length : Int) (i : Int) s r (st.map (tabM s r back)) = Q13.l0 k' bud os a (wrap64 (b + 1)) s r (st.map (tabM s r back)))
  | 0, i, k, h, hk => by
    obtain ⟨k, rfl⟩ := succ_of (k := k) (by omega)
    refine .inr ⟨by rw [drop_end os i (by omega)]; rfl, k, by omega, ?_⟩
    simp only [Q13.l1]
    rw [if_neg (by omega)]
  | d + 1, i, k, h, hk => by
    obtain ⟨k, rfl⟩ := succ_of (k := k) (by omega)
    have hi : i < os.length := by omega
    have ho := hos _ (List.getElem_mem hi)
    simp only [Q13.l1]
    rw [if_pos (by omega), if_pos (by omega), if_pos (by omega), rdL_nat os i hi, impl_taken_eq k s r back hs st bud _ x hx hrx hb hsl ho.1 ho.2 (by omega), Option.bind_some, List.drop_eq_getElem_cons hi, List.find?_cons]
    show (∃ o, (match okO s r back st bud x os[i] with | true => some os[i] | false => _) = some o ∧ (if okO s r back st bud x os[i] = true then _ else _) = _) ∨ ((match okO s r back st bud x os[i] with | true => some os[i] | false => _) = none ∧ ∃ k', k + 1 ≤ k' + (d + 1) + 1 ∧ (if okO s r back st bud x os[i] = true then _ else _) = _)
    cases cb : okO s r back st bud x os[i] with
    | true => exact .inl ⟨os[i], rfl, rfl⟩
    | false =>
      rw [wrap_succ (n := os.length) (by omega) (by omega)]
      rcases impl_first_l1 s r back hs st bud hsl hb os hos hol x a b hx hrx d (i + 1) k (by omega) (by omega) with h1 | ⟨h1, k', hk', e⟩
      · exact .inl (by simpa using h1)
      · exact .inr ⟨h1, k', by omega, by simpa using e⟩
theorem impl_first_l0 (s : Int) (r back : Bool) (hs : 2 ≤ s ∧ s ≤ 24) (st bud : List Int) (hsl : st.length ≤ 4) (hb : bud.length = st.length) (os : List (List Int)) (hos : ∀ o ∈ os, o.length ≤ 4 ∧ ∀ k ∈ o, 0 ≤ k ∧ k < st.length) (hol : os.length ≤ 1000) : ∀ (d x k : Nat), x + d = s.toNat → 2000 + 1010 * d < k →
    Q13.l0 k bud os s (x : Int) s r (st.map (tabM s r back)) = some (match firstX (okO s r back st bud) os (leftX s r x) x with | some z => (z.1, z.2, true) | none => (0, [], false))
  | 0, x, k, h, hk => by
    obtain ⟨k, rfl⟩ : ∃ k', k = k' + 1 + 1 := ⟨k - 2, by omega⟩
    have hl : leftX s r x = 0 := by unfold leftX; split <;> (try split) <;> omega
    simp only [Q13.l0]
    rw [if_neg (by omega), hl]
    rfl
  | d + 1, x, k, h, hk => by
    obtain ⟨k, rfl⟩ : ∃ k', k = k' + 1 + 1 := ⟨k - 2, by omega⟩
    have step : ∀ m, leftX s r x = m + 1 → m = leftX s r (x + 1) → (r = true ∨ (x : Int) = 0) → Q13.l1 k bud os (x : Int) s (x : Int) os (os.length : Int) 0 s r (st.map (tabM s r back)) = some (match firstX (okO s r back st bud) os (leftX s r x) x with | some z => (z.1, z.2, true) | none => (0, [], false)) := by
      intro m hm hm2 hrx
      rw [hm]
      simp only [firstX]
      have h0 := impl_first_l1 s r back hs st bud hsl hb os hos hol (x : Int) s (x : Int) (by omega) hrx os.length 0 k (by omega) (by omega)
      rw [List.drop_zero, show ((0 : Nat) : Int) = 0 from rfl] at h0
      rcases h0 with ⟨o, h1, e⟩ | ⟨h1, k', hk', e⟩
      · rw [h1, e]
      · rw [h1, e, wrap_succ (n := s.toNat) (by omega) (by omega), impl_first_l0 s r back hs st bud hsl hb os hos hol d (x + 1) k' (by omega) (by omega), ← hm2]
    simp only [Q13.l0, Q13.j1]
    rw [if_pos (by omega)]
    cases r with
    | true =>
      have hl : leftX s true x = (s.toNat - (x + 1)) + 1 := by unfold leftX; simp; omega
      have := step _ hl (by unfold leftX; simp) (.inl rfl)
      by_cases c : (x : Int) > 0
      · rw [if_pos c, if_neg (by simp)]; exact this
      · rw [if_neg c, if_neg (by simp)]; exact this
    | false =>
      by_cases c : (x : Int) > 0
      · have hx0 : ¬ x = 0 := by omega
        have hl : leftX s false x = 0 := by unfold leftX; simp [hx0]
        rw [if_pos c, if_pos (by simp), hl]
        rfl
      · have hx0 : x = 0 := by omega
        have hl : leftX s false x = 0 + 1 := by unfold leftX; simp [hx0]
        rw [if_neg c, if_neg (by simp)]
        exact step _ hl (by unfold leftX; simp) (.inr (by omega))
def findM (s : Int) (r back : Bool) (st bud : List Int) : Option (Int × List Int) := firstX (okO s r back st bud) (ordL st.length st.length []) (leftX s r 0) 0
theorem orders_ok (st : List Int) (hsl : st.length ≤ 4) : (∀ o ∈ ordL st.length st.length [], o.length ≤ 4 ∧ ∀ k ∈ o, 0 ≤ k ∧ k < (st.length : Int)) ∧ (ordL st.length st.length []).length ≤ 1000 := by
  refine ⟨fun o ho => ?_, ?_⟩
  · have := ordL_mem st.length st.length [] (by simp) (fun k hk => by simp at hk) o ho
    exact ⟨by omega, this.2⟩
  · have h1 := ordL_len st.length hsl st.length []
    have h2 : (4 : Nat) ^ st.length ≤ 4 ^ 4 := Nat.pow_le_pow_right (by omega) hsl
    omega
theorem spec_first_eq (k : Nat) (s : Int) (r back : Bool) (hr : road s r = true) (st bud : List Int) (hst : ∀ p ∈ st, 0 ≤ p ∧ p ≤ s - 1) (hsl : st.length ≤ 4) (hb : bud.length = st.length) (hk : 50000 < k) : Q2.f k s r st bud back = some (match findM s r back st bud with | some z => z | none => (-1, [])) := by
  have hs := road_bd hr
  have ho := orders_ok st hsl
  unfold Q2.f findM
  rw [spec_orders st.length hsl st.length [] k (by simp) (by omega), Option.bind_some]
  exact spec_first_l0 s r back hr st bud hst hsl hb _ ho.1 ho.2 s.toNat 0 k (by omega) (by omega)
theorem impl_first_eq (k : Nat) (s : Int) (r back : Bool) (hs : 2 ≤ s ∧ s ≤ 24) (st bud : List Int) (hsl : st.length ≤ 4) (hb : bud.length = st.length) (hk : 50000 < k) : Q13.f k s r (st.map (tabM s r back)) bud = some (match findM s r back st bud with | some z => (z.1, z.2, true) | none => (0, [], false)) := by
  have ho := orders_ok st hsl
  unfold Q13.f findM
  rw [hb, impl_orders k st.length hsl, Option.bind_some]
  exact impl_first_l0 s r back hs st bud hsl hb _ ho.1 ho.2 s.toNat 0 k (by omega) (by omega)
theorem firstX_nn (P : Int → List Int → Bool) (os : List (List Int)) : ∀ (d x : Nat) z, firstX P os d x = some z → 0 ≤ z.1 ∧ z.2 ∈ os
  | 0, x, z, h => by simp [firstX] at h
  | d + 1, x, z, h => by
    simp only [firstX] at h
    cases hf : os.find? (P (x : Int)) with
    | some o =>
      rw [hf] at h
      obtain rfl := Option.some.inj h
      exact ⟨by show 0 ≤ (x : Int); omega, List.mem_of_find?_eq_some hf⟩
    | none =>
      rw [hf] at h
      exact firstX_nn P os d (x + 1) z h
def budOk (s : Int) (r : Bool) (st bud : List Int) : Bool := allIn bud 0 99 && (road s r && inR (st.length : Int) 1 4 && allIn st 0 (s - 1)) && ((bud.length : Int) == (st.length : Int))
theorem spec_budgets_l0 (s : Int) (r : Bool) (st bud : List Int) (hl : st.length ≤ 1048576) (hl2 : bud.length ≤ 1048576) : ∀ (d i k : Nat), i + d = bud.length → 20 + d < k → Q38.l0 k st bud (i : Int) s r = some (allIn (bud.drop i) 0 99 && (road s r && inR (st.length : Int) 1 4 && allIn st 0 (s - 1)) && ((bud.length : Int) == (st.length : Int)))
  | 0, i, k, h, hk => by
    obtain ⟨k, rfl⟩ := succ_of (k := k) (by omega)
    simp only [Q38.l0]
    rw [if_neg (by omega), drop_end bud i (by omega), spec_l6Starts_eq k s r st (by omega) (by omega), Option.bind_some]
    show _ = some (true && _ && _)
    cases (road s r && inR (st.length : Int) 1 4 && allIn st 0 (s - 1)) <;> simp
  | d + 1, i, k, h, hk => by
    obtain ⟨k, rfl⟩ := succ_of (k := k) (by omega)
    simp only [Q38.l0]
    rw [if_pos (by omega), if_pos (by omega), spec_l1In_eq, Option.bind_some, wrap_succ (n := bud.length) (by omega) (by omega), spec_budgets_l0 s r st bud hl hl2 d (i + 1) k (by omega) (by omega), drop_rd bud i (by omega)]
    unfold allIn
    rw [List.all_cons]
    cases inR (rd bud (i : Int)) 0 99 <;> simp
theorem spec_budgets_eq (k : Nat) (s : Int) (r : Bool) (st bud : List Int) (hl : st.length ≤ 1048576) (hl2 : bud.length ≤ 1048576) (hk : 1048600 < k) : Q38.f k s r st bud = some (budOk s r st bud) := by
  unfold Q38.f budOk
  have := spec_budgets_l0 s r st bud hl hl2 bud.length 0 k (by omega) (by omega)
  simpa using this
theorem budOk_bd {s : Int} {r : Bool} {st bud : List Int} (h : budOk s r st bud = true) : road s r = true ∧ (1 ≤ st.length ∧ st.length ≤ 4) ∧ (∀ p ∈ st, 0 ≤ p ∧ p ≤ s - 1) ∧ bud.length = st.length ∧ ∀ b ∈ bud, 0 ≤ b ∧ b ≤ 99 := by
  unfold budOk at h
  simp only [Bool.and_eq_true] at h
  have h1 := inR_iff.1 h.1.2.1.2
  have h2 := beq_iff_eq.1 h.2
  exact ⟨h.1.2.1.1, by omega, fun p hp => inR_iff.1 (List.all_eq_true.1 h.1.2.2 p hp), by omega, fun b hb => inR_iff.1 (List.all_eq_true.1 h.1.1 b hb)⟩
theorem impl_budgets_eq (k : Nat) (s : Int) (r : Bool) (st bud : List Int) (hl : st.length ≤ 1048576) (hl2 : bud.length ≤ 1048576) (hk : 1048600 < k) : Q65.f k s r st bud = some (budOk s r st bud) := by
  unfold Q65.f budOk
  rw [impl_IsRoad_eq, Option.bind_some]
  cases hr : road s r with
  | false => simp
  | true =>
    rw [if_pos rfl, impl_Road_areExplorers_eq k s r st hr (by omega) (by omega), Option.bind_some]
    cases hc : (inR (st.length : Int) 1 4 && allIn st 0 (s - 1)) with
    | false =>
      have : (true && inR (st.length : Int) 1 4 && allIn st 0 (s - 1)) = false := by rw [Bool.true_and]; exact hc
      rw [this]
      simp
    | true =>
      have : (true && inR (st.length : Int) 1 4 && allIn st 0 (s - 1)) = true := by rw [Bool.true_and]; exact hc
      rw [this, if_pos rfl, impl_allWithin_eq k bud 0 99 (by omega) (by omega), Option.bind_some]
      by_cases c : (bud.length : Int) = (st.length : Int)
      · rw [if_pos c, beq_iff_eq.2 c]
        simp
      · rw [if_neg c, beq_eq_false_iff_ne.2 c]
        simp
theorem spec_CanReach_eq (k : Nat) (s : Int) (r : Bool) (st bud : List Int) (hl : st.length ≤ 1048576) (hl2 : bud.length ≤ 1048576) (hk : 1048600 < k) : Q71.f k s r st bud = some (if budOk s r st bud = true then ((findM s r false st bud).isSome, true) else (false, false)) := by
  unfold Q71.f
  rw [spec_budgets_eq k s r st bud hl hl2 hk, Option.bind_some]
  cases hb : budOk s r st bud with
  | false => simp
  | true =>
    have h := budOk_bd hb
    rw [if_pos rfl, if_pos rfl, spec_first_eq k s r false h.1 st bud h.2.2.1 h.2.1.2 h.2.2.2.1 (by omega), Option.bind_some]
    cases hf : findM s r false st bud with
    | none => rfl
    | some z =>
      have := (firstX_nn _ _ _ _ z hf).1
      show some (decide (z.1 ≥ 0), true) = _
      rw [decide_eq_true this]
      rfl
theorem impl_CanReach_eq (k : Nat) (s : Int) (r : Bool) (st bud : List Int) (hl : st.length ≤ 1048576) (hl2 : bud.length ≤ 1048576) (hk : 1048600 < k) : Q48.f k s r st bud = some (if budOk s r st bud = true then ((findM s r false st bud).isSome, true) else (false, false)) := by
  unfold Q48.f
  rw [impl_budgets_eq k s r st bud hl hl2 hk, Option.bind_some]
  cases hb : budOk s r st bud with
  | false => simp
  | true =>
    have h := budOk_bd hb
    have hs := road_bd h.1
    rw [if_pos rfl, if_pos rfl, impl_newRuns_eq k s r false h.1 st h.2.1.2 h.2.2.1 (by omega), Option.bind_some, impl_first_eq k s r false ⟨hs.1, hs.2.1⟩ st bud h.2.1.2 h.2.2.2.1 (by omega), Option.bind_some]
    cases hf : findM s r false st bud with
    | none => rfl
    | some z => rfl
theorem nodup_sub {α : Type} [BEq α] [LawfulBEq α] : ∀ (l1 l2 : List α), l1.Nodup → (∀ x ∈ l1, x ∈ l2) → l1.length ≤ l2.length
  | [], l2, _, _ => Nat.zero_le _
  | x :: l1, l2, hn, hs => by
    rw [List.nodup_cons] at hn
    have hx := hs x List.mem_cons_self
    have ih := nodup_sub l1 (l2.erase x) hn.2 (fun y hy => (List.mem_erase_of_ne (fun e => hn.1 (by rw [e] at hy; exact hy))).2 (hs y (List.mem_cons_of_mem _ hy)))
    rw [List.length_erase_of_mem hx] at ih
    have : 0 < l2.length := List.length_pos_of_mem hx
    rw [List.length_cons]
    omega
theorem pigeon {α : Type} (g : α → Nat) (l : List α) (m : Nat) (hn : l.Pairwise fun a b => g a ≠ g b) (h : ∀ x ∈ l, g x < m) : l.length ≤ m := by
  have := nodup_sub (l.map g) (List.range m) (List.pairwise_map.2 hn) (fun y hy => by
    obtain ⟨x, hx, rfl⟩ := List.mem_map.1 hy
    exact List.mem_range.2 (h x hx))
  simpa using this
theorem upRing_inj {s p a b : Int} (hs : 2 ≤ s) (hp : 0 ≤ p ∧ p ≤ s - 1) (ha : 0 ≤ a ∧ a ≤ s - 1) (hb : 0 ≤ b ∧ b ≤ s - 1) (h : upRing s p a = upRing s p b) : a = b := by
  have e : ∀ q, 0 ≤ q ∧ q ≤ s - 1 → upRing s p q = if p ≤ q then q - p else q - p + s := by
    intro q hq
    unfold upRing
    rw [Int.tmod_eq_emod_of_nonneg (by omega)]
    by_cases c : p ≤ q
    · rw [if_pos c, Int.add_emod_right, Int.emod_eq_of_lt (by omega) (by omega)]
    · rw [if_neg c, Int.emod_eq_of_lt (by omega) (by omega)]
  rw [e a ha, e b hb] at h
  split at h <;> split at h <;> omega
theorem upRing_zero {s p a : Int} (hs : 2 ≤ s) (hp : 0 ≤ p ∧ p ≤ s - 1) (ha : 0 ≤ a ∧ a ≤ s - 1) (hne : a ≠ p) : 1 ≤ upRing s p a := by
  have h0 : upRing s p p = 0 := by
    unfold upRing
    rw [Int.sub_self, Int.zero_add, Int.tmod_self]
  have h1 := upRing_bd hs hp ha
  rcases Int.lt_or_le 0 (upRing s p a) with h | h
  · omega
  · exact absurd (upRing_inj hs hp ha hp (by omega)) hne
def cntNe (p : Int) (l : List Int) : Nat := (l.filter fun q => !(q == p)).length
theorem cntNe_le {s : Int} {r : Bool} {c : Int → Int → Int} (hs : 2 ≤ s) (hc : ∀ a b, 0 ≤ a → 0 ≤ b → a + b ≤ c a b) {p : Int} (hp : 0 ≤ p ∧ p ≤ s - 1) {l : List Int} (hn : l.Nodup) (hx : ∀ x ∈ l, 0 ≤ x ∧ x ≤ s - 1) : (cntNe p l : Int) ≤ wayM c s r p l := by
  have hmem : ∀ q, q ∈ (l.filter fun q => !(q == p)) → q ∈ l ∧ q ≠ p := fun q hq => by
    have := List.mem_filter.1 hq
    exact ⟨this.1, by simpa using this.2⟩
  have hnf : (l.filter fun q => !(q == p)).Nodup := hn.filter _
  unfold wayM cntNe
  cases r with
  | true =>
    simp only [if_true]
    unfold bestTo
    rw [le_foldMin]
    constructor
    · have := pigeon Int.toNat _ s.toNat (hnf.imp_of_mem (fun {a b} ha hb hab e => hab (by have := hx a (hmem a ha).1; have := hx b (hmem b hb).1; omega))) (fun q hq => by have := hx q (hmem q hq).1; omega)
      omega
    · intro i hi
      have hi := List.mem_range.1 hi
      have hL := leftAt_nn s (l.map (upRing s p)) (i : Int)
      obtain ⟨L, hL2⟩ := Int.eq_ofNat_of_zero_le hL
      refine Int.le_trans ?_ (hc _ _ hL (by omega))
      rw [hL2]
      have hup : ∀ q ∈ (l.filter fun q => !(q == p)), 1 ≤ upRing s p q ∧ upRing s p q < s ∧ (i < upRing s p q → s - upRing s p q ≤ (L : Int)) := fun q hq => by
        have hq2 := hmem q hq
        refine ⟨upRing_zero hs hp (hx q hq2.1) hq2.2, (upRing_bd hs hp (hx q hq2.1)).2, fun h => ?_⟩
        have := leftAt_ge (s := s) (List.mem_map.2 ⟨q, hq2.1, rfl⟩ : upRing s p q ∈ l.map (upRing s p)) h
        omega
      have := pigeon (fun q => if upRing s p q ≤ (i : Int) then (upRing s p q - 1).toNat else ((i : Int) + (s - upRing s p q) - 1).toNat) _ (L + i) (hnf.imp_of_mem (fun {a b} ha hb hab e => hab (upRing_inj hs hp (hx a (hmem a ha).1) (hx b (hmem b hb).1) (by
        have h1 := hup a ha
        have h2 := hup b hb
        split at e <;> split at e <;> omega)))) (fun q hq => by
        have h1 := hup q hq
        show (if upRing s p q ≤ (i : Int) then (upRing s p q - 1).toNat else ((i : Int) + (s - upRing s p q) - 1).toNat) < L + i
        by_cases c : upRing s p q ≤ (i : Int)
        · rw [if_pos c]; omega
        · have h3 := h1.2.2 (by omega)
          rw [if_neg c]
          omega)
      omega
  | false =>
    rw [if_neg (by simp)]
    have h1 := (foldMax_le (fun q => p - q) (leftL p l 0) l 0).1 (Int.le_refl _)
    have h2 := (foldMax_le (fun q => q - p) (rightL p l 0) l 0).1 (Int.le_refl _)
    refine Int.le_trans ?_ (hc _ _ h1.1 h2.1)
    obtain ⟨L, hL⟩ := Int.eq_ofNat_of_zero_le h1.1
    obtain ⟨R, hR⟩ := Int.eq_ofNat_of_zero_le h2.1
    rw [hL, hR]
    have hb : ∀ q ∈ (l.filter fun q => !(q == p)), q ≠ p ∧ p - q ≤ (L : Int) ∧ q - p ≤ (R : Int) := fun q hq => by
      have h3 := h1.2 q (hmem q hq).1
      have h4 := h2.2 q (hmem q hq).1
      exact ⟨(hmem q hq).2, by omega, by omega⟩
    have := pigeon (fun q => if q < p then (p - q - 1).toNat else ((L : Int) + (q - p) - 1).toNat) _ (L + R) (hnf.imp_of_mem (fun {a b} ha hb2 hab e => hab (by
      have h3 := hb a ha
      have h4 := hb b hb2
      split at e <;> split at e <;> omega))) (fun q hq => by
      have h3 := hb q hq
      show (if q < p then (p - q - 1).toNat else ((L : Int) + (q - p) - 1).toNat) < L + R
      by_cases c : q < p
      · rw [if_pos c]; omega
      · rw [if_neg c]; omega)
    omega
theorem gap_up {s p y : Int} (hs : 2 ≤ s) (hp : 0 ≤ p ∧ p ≤ s - 1) (hy : 0 ≤ y ∧ y ≤ s - 1) : gapM s true p y ≤ upRing s p y ∧ gapM s true p y ≤ s - upRing s p y ∧ gapM s true p y ≤ s := by
  have e : upRing s p y = if p ≤ y then y - p else y - p + s := by
    unfold upRing
    rw [Int.tmod_eq_emod_of_nonneg (by omega)]
    by_cases c : p ≤ y
    · rw [if_pos c, Int.add_emod_right, Int.emod_eq_of_lt (by omega) (by omega)]
    · rw [if_neg c, Int.emod_eq_of_lt (by omega) (by omega)]
  rw [e]
  unfold gapM
  simp only [if_true]
  split <;> split <;> split <;> omega
theorem gap_le_way {s : Int} {r : Bool} {c : Int → Int → Int} (hs : 2 ≤ s) (hc : ∀ a b, 0 ≤ a → 0 ≤ b → a + b ≤ c a b) {p : Int} (hp : 0 ≤ p ∧ p ≤ s - 1) {l : List Int} (hx : ∀ x ∈ l, 0 ≤ x ∧ x ≤ s - 1) (y : Int) (hy : y ∈ l) : gapM s r p y ≤ wayM c s r p l := by
  unfold wayM
  cases r with
  | true =>
    have hg := gap_up hs hp (hx y hy)
    simp only [if_true]
    unfold bestTo
    rw [le_foldMin]
    refine ⟨hg.2.2, fun i hi => ?_⟩
    have hL := leftAt_nn s (l.map (upRing s p)) (i : Int)
    refine Int.le_trans ?_ (hc _ _ hL (by omega))
    by_cases h : (i : Int) < upRing s p y
    · have := leftAt_ge (s := s) (List.mem_map.2 ⟨y, hy, rfl⟩ : upRing s p y ∈ l.map (upRing s p)) h
      omega
    · omega
  | false =>
    rw [if_neg (by simp)]
    have h1 := (foldMax_le (fun q => p - q) (leftL p l 0) l 0).1 (Int.le_refl _)
    have h2 := (foldMax_le (fun q => q - p) (rightL p l 0) l 0).1 (Int.le_refl _)
    refine Int.le_trans ?_ (hc _ _ h1.1 h2.1)
    have h3 := h1.2 y hy
    have h4 := h2.2 y hy
    unfold gapM
    simp only
    rw [if_neg (by simp)]
    split <;> omega
theorem runL_add (s x : Int) (hs : 2 ≤ s) (hx : 0 ≤ x) (a n : Nat) : runL s x (a + n) = runL s x a ++ runL s (Int.tmod (x + (a : Int)) s) n := by
  unfold runL
  rw [List.range_add, List.map_append, List.map_map]
  congr 1
  apply List.map_congr_left
  intro i _
  show Int.tmod (x + ((a + i : Nat) : Int)) s = Int.tmod (Int.tmod (x + (a : Int)) s + (i : Int)) s
  have h1 := Int.emod_nonneg (x + (a : Int)) (show s ≠ 0 by omega)
  rw [Int.tmod_eq_emod_of_nonneg (show 0 ≤ x + (a : Int) by omega), Int.tmod_eq_emod_of_nonneg (by omega), Int.tmod_eq_emod_of_nonneg (by omega), Int.emod_add_emod]
  congr 1
  omega
theorem runL_nodup (s x : Int) (hs : 2 ≤ s) (hx : 0 ≤ x) (n : Nat) (hn : (n : Int) ≤ s) : (runL s x n).Nodup := by
  unfold runL
  refine List.pairwise_map.2 (List.Pairwise.imp_of_mem (fun {a b} ha hb hab e => ?_) (List.nodup_range (n := n)))
  have ha := List.mem_range.1 ha
  have hb := List.mem_range.1 hb
  rw [Int.tmod_eq_emod_of_nonneg (by omega), Int.tmod_eq_emod_of_nonneg (by omega)] at e
  have h1 := Int.emod_add_mul_ediv (x + (a : Int)) s
  have h2 := Int.emod_add_mul_ediv (x + (b : Int)) s
  have h3 : s * ((x + (a : Int)) / s - (x + (b : Int)) / s) = (a : Int) - (b : Int) := by rw [Int.mul_sub]; omega
  have h4 : (x + (a : Int)) / s - (x + (b : Int)) / s = 0 := by
    generalize (x + (a : Int)) / s - (x + (b : Int)) / s = z at h3
    rcases Int.lt_trichotomy z 0 with h | h | h
    · have := Int.mul_le_mul_of_nonneg_left (show z ≤ -1 by omega) (show 0 ≤ s by omega)
      omega
    · exact h
    · have := Int.mul_le_mul_of_nonneg_left (show 1 ≤ z by omega) (show 0 ≤ s by omega)
      omega
  rw [h4, Int.mul_zero] at h3
  exact hab (by omega)
theorem runL_all (s x p : Int) (hs : 2 ≤ s) (hx : 0 ≤ x ∧ x < s) (hp : 0 ≤ p ∧ p ≤ s - 1) : p ∈ runL s x s.toNat := by
  unfold runL
  refine List.mem_map.2 ⟨((p - x) % s).toNat, List.mem_range.2 ?_, ?_⟩
  · have h1 := Int.emod_nonneg (p - x) (show s ≠ 0 by omega)
    have h2 := Int.emod_lt_of_pos (p - x) (show 0 < s by omega)
    omega
  · have h1 := Int.emod_nonneg (p - x) (show s ≠ 0 by omega)
    rw [Int.toNat_of_nonneg h1, Int.tmod_eq_emod_of_nonneg (by omega), Int.add_emod_emod, show x + (p - x) = p by omega, Int.emod_eq_of_lt hp.1 (by omega)]
def cntOut (st l : List Int) : Nat := (l.filter fun q => !(st.any fun y => decide (y = q))).length
theorem cntOut_le (st l : List Int) (p : Int) (hp : p ∈ st) : cntOut st l ≤ cntNe p l := by
  unfold cntOut cntNe
  rw [← List.countP_eq_length_filter, ← List.countP_eq_length_filter]
  refine List.countP_mono_left (fun q _ h => ?_)
  simp only [Bool.not_eq_true', beq_eq_false_iff_ne] at h ⊢
  intro e
  rw [List.any_eq_false] at h
  exact h p hp (by simp [e])
theorem sum_le (a b : Int) (ha : 0 ≤ a) (hb : 0 ≤ b) : a + b ≤ costT a b ∧ a + b ≤ costB a b := by
  unfold costT costB
  omega
theorem timeM_ge (s : Int) (r : Bool) (p x : Int) (n : Nat) (back : Bool) (hs : 2 ≤ s) (hp : 0 ≤ p ∧ p ≤ s - 1) (hx : 0 ≤ x) (hn : (n : Int) ≤ s) : (cntNe p (runL s x n) : Int) ≤ timeM s r p x n back ∧ ∀ y ∈ runL s x n, gapM s r p y ≤ timeM s r p x n back := by
  unfold timeM
  cases back with
  | true => exact ⟨cntNe_le hs (fun a b h1 h2 => (sum_le a b h1 h2).2) hp (runL_nodup s x hs hx n hn) (runL_in hs hx), gap_le_way hs (fun a b h1 h2 => (sum_le a b h1 h2).2) hp (runL_in hs hx)⟩
  | false => exact ⟨cntNe_le hs (fun a b h1 h2 => (sum_le a b h1 h2).1) hp (runL_nodup s x hs hx n hn) (runL_in hs hx), gap_le_way hs (fun a b h1 h2 => (sum_le a b h1 h2).1) hp (runL_in hs hx)⟩
theorem cntOut_app (st a b : List Int) : cntOut st (a ++ b) = cntOut st a + cntOut st b := by
  unfold cntOut
  rw [List.filter_append, List.length_append]
theorem take_cnt (s : Int) (r back : Bool) (hs : 2 ≤ s ∧ s ≤ 24) (st bud : List Int) (x t : Int) (hx : 0 ≤ x ∧ x < s) (ht : 0 ≤ t) (hst : ∀ p ∈ st, 0 ≤ p ∧ p ≤ s - 1) (hbud : ∀ k : Int, 0 ≤ k → k < st.length → rd bud k = t) : ∀ (ks : List Int) (out : List Int) (done : Nat), (done : Int) ≤ s → (∀ k ∈ ks, 0 ≤ k ∧ k < st.length) →
    ∃ fin : Nat, (takeM s r back st bud x ks out (done : Int)).2 = (fin : Int) ∧ (fin : Int) ≤ s ∧ (cntOut st (runL s x fin) : Int) ≤ cntOut st (runL s x done) + t * ks.length ∧ ∀ y ∈ runL s x fin, y ∈ runL s x done ∨ ∃ p ∈ st, gapM s r p y ≤ t
  | [], out, done, hd, hk => ⟨done, rfl, hd, by simp, fun y hy => .inl hy⟩
  | k :: ks, out, done, hd, hk => by
    have hk0 := hk k List.mem_cons_self
    obtain ⟨j, hj⟩ := Int.eq_ofNat_of_zero_le hk0.1
    have hpm : rd st k ∈ st := by rw [hj, rd_nat st j (by omega)]; exact List.getElem_mem _
    have hp := hst _ hpm
    have hn := nextM_le s r back st bud x (done : Int) k hd
    have hps := pos_bd (s := s) (x := x) (done := (done : Int)) hs.1 (by omega)
    obtain ⟨n, hnn⟩ : ∃ n, n = nextM s r back st bud x (done : Int) k := ⟨_, rfl⟩
    rw [← hnn] at hn
    obtain ⟨fin, h1, h2, h3, h4⟩ := take_cnt s r back hs st bud x t hx ht hst hbud ks (out.set k.toNat (n : Int)) (done + n) (by omega) (fun k hk' => hk k (List.mem_cons_of_mem _ hk'))
    have hfit : (cntOut st (runL s (Int.tmod (x + (done : Int)) s) n) : Int) ≤ t ∧ ∀ y ∈ runL s (Int.tmod (x + (done : Int)) s) n, ∃ p ∈ st, gapM s r p y ≤ t := by
      rcases Nat.eq_zero_or_pos n with h0 | h0
      · rw [h0]
        exact ⟨by simpa [runL, cntOut] using ht, fun y hy => by simp [runL] at hy⟩
      · have hsp := (downM_spec (fitB s r (rd st k) (Int.tmod (x + (done : Int)) s) back (rd bud k)) (s - (done : Int)).toNat).2.1
        have hP : fitB s r (rd st k) (Int.tmod (x + (done : Int)) s) back (rd bud k) n = true := by
          rw [hnn]
          exact hsp.resolve_left (by intro h; rw [hnn] at h0; unfold nextM at h0; omega)
        have hle : timeM s r (rd st k) (Int.tmod (x + (done : Int)) s) n back ≤ t := by
          have := of_decide_eq_true hP
          rw [hbud k hk0.1 hk0.2] at this
          exact this
        have hge := timeM_ge s r (rd st k) (Int.tmod (x + (done : Int)) s) n back hs.1 hp hps.1 (by omega)
        have hco := cntOut_le st (runL s (Int.tmod (x + (done : Int)) s) n) (rd st k) hpm
        exact ⟨by omega, fun y hy => ⟨_, hpm, Int.le_trans (hge.2 y hy) hle⟩⟩
    have hadd := runL_add s x hs.1 hx.1 done n
    refine ⟨fin, ?_, h2, ?_, fun y hy => ?_⟩
    · show (takeM s r back st bud x ks (out.set k.toNat (nextM s r back st bud x (done : Int) k : Int)) ((done : Int) + (nextM s r back st bud x (done : Int) k : Int))).2 = _
      rw [← hnn, show (done : Int) + (n : Int) = ((done + n : Nat) : Int) by omega]
      exact h1
    · rw [hadd, cntOut_app] at h3
      rw [List.length_cons]
      have e : t * ((ks.length + 1 : Nat) : Int) = t * (ks.length : Int) + t := by rw [Int.natCast_add, Int.mul_add]; simp
      rw [e]
      omega
    · rcases h4 y hy with h5 | h5
      · rw [hadd] at h5
        rcases List.mem_append.1 h5 with h6 | h6
        · exact .inl h6
        · exact .inr (hfit.2 y h6)
      · exact .inr h5
theorem firstX_ok (P : Int → List Int → Bool) (os : List (List Int)) : ∀ (d x : Nat) z, firstX P os d x = some z → z.2 ∈ os ∧ P z.1 z.2 = true ∧ (x : Int) ≤ z.1 ∧ z.1 < (x + d : Nat)
  | 0, x, z, h => by simp [firstX] at h
  | d + 1, x, z, h => by
    simp only [firstX] at h
    cases hf : os.find? (P (x : Int)) with
    | some o =>
      rw [hf] at h
      obtain rfl := Option.some.inj h
      exact ⟨List.mem_of_find?_eq_some hf, List.find?_some hf, by show (x : Int) ≤ (x : Int); omega, by show (x : Int) < _; omega⟩
    | none =>
      rw [hf] at h
      obtain ⟨h1, h2, h3, h4⟩ := firstX_ok P os d (x + 1) z h
      exact ⟨h1, h2, by omega, by omega⟩
theorem rd_rep (n : Nat) (t k : Int) (h0 : 0 ≤ k) (h1 : k < n) : rd (List.replicate n t) k = t := by
  obtain ⟨j, rfl⟩ := Int.eq_ofNat_of_zero_le h0
  rw [rd_nat _ j (by simp; omega)]
  simp
theorem near_le (s : Int) (r : Bool) (p : Int) : ∀ (l : List Int) (m : Int), nearM s r p l m ≤ m ∧ ∀ q ∈ l, nearM s r p l m ≤ gapM s r p q
  | [], m => ⟨Int.le_refl _, fun q hq => by simp at hq⟩
  | a :: l, m => by
    have ih := near_le s r p l (if gapM s r p a < m then gapM s r p a else m)
    unfold nearM
    refine ⟨Int.le_trans ih.1 (by split <;> omega), fun q hq => ?_⟩
    rcases List.mem_cons.1 hq with h | h
    · rw [h]
      exact Int.le_trans ih.1 (by split <;> omega)
    · exact ih.2 q h
theorem gap_comm (s : Int) (r : Bool) (a b : Int) : gapM s r a b = gapM s r b a := by
  unfold gapM
  cases r <;> simp <;> (try split) <;> (try split) <;> (try split) <;> (try split) <;> omega
theorem far_spec (s : Int) (r : Bool) (st : List Int) (T : Int) : ∀ (d : Nat) (p f o : Int), f ≤ T → (∀ q, p ≤ q → q < p + d → nearM s r q st s ≤ T) → (farOth s r st d p f o).1 ≤ T ∧ (farOth s r st d p f o).2 = o + ((((List.range d).map fun (i : Nat) => p + (i : Int)).filter fun q => decide (0 < nearM s r q st s)).length : Int)
  | 0, p, f, o, hf, hn => by simp [farOth, hf]
  | d + 1, p, f, o, hf, hn => by
    have h0 := hn p (by omega) (by omega)
    have ih := far_spec s r st T d (p + 1) (if f < nearM s r p st s then nearM s r p st s else f) (if nearM s r p st s > 0 then o + 1 else o) (by split <;> omega) (fun q h1 h2 => hn q (by omega) (by omega))
    unfold farOth
    refine ⟨ih.1, ?_⟩
    rw [ih.2, List.range_succ_eq_map, List.map_cons, List.map_map, List.filter_cons]
    have e : ((fun (i : Nat) => p + (i : Int)) ∘ Nat.succ) = fun (i : Nat) => p + 1 + (i : Int) := by
      funext i
      show p + ((i + 1 : Nat) : Int) = _
      omega
    rw [e]
    by_cases c : nearM s r p st s > 0
    · rw [if_pos c, if_pos (by simpa using c), List.length_cons]
      omega
    · rw [if_neg c, if_neg (by simpa using c)]
theorem bound_le (s : Int) (r back : Bool) (hs : 2 ≤ s ∧ s ≤ 24) (st : List Int) (t : Int) (ht : 0 ≤ t) (hl : 1 ≤ st.length ∧ st.length ≤ 4) (hst : ∀ p ∈ st, 0 ≤ p ∧ p ≤ s - 1) (h : (findM s r back st (List.replicate st.length t)).isSome = true) : boundM s r st ≤ t := by
  obtain ⟨z, hz⟩ := Option.isSome_iff_exists.1 h
  obtain ⟨hmem, hP, hx0, hx1⟩ := firstX_ok _ _ _ _ _ hz
  have ho := (orders_ok st hl.2).1 _ hmem
  have hol := (ordL_mem st.length st.length [] (by simp) (fun k hk => by simp at hk) _ hmem).1
  have hxs : z.1 < s := by
    have : leftX s r 0 ≤ s.toNat := by unfold leftX; split <;> (try split) <;> omega
    omega
  obtain ⟨fin, h1, h2, h3, h4⟩ := take_cnt s r back hs st (List.replicate st.length t) z.1 t ⟨by omega, hxs⟩ ht hst (fun k h0 h1 => rd_rep _ _ _ h0 h1) z.2 (List.replicate st.length 0) 0 (by omega) ho.2
  have hfin : (fin : Int) = s := by
    unfold okO at hP
    have := beq_iff_eq.1 hP
    rw [← this]
    exact h1.symm
  have hfs : fin = s.toNat := by omega
  rw [hfs, hol] at h3
  rw [hfs] at h4
  have hc0 : cntOut st (runL s z.1 0) = 0 := rfl
  rw [hc0] at h3
  have hcov : ∀ p, 0 ≤ p ∧ p ≤ s - 1 → ∃ q ∈ st, gapM s r q p ≤ t := fun p hp => by
    rcases h4 p (runL_all s z.1 p hs.1 ⟨by omega, hxs⟩ hp) with h5 | h5
    · simp [runL] at h5
    · exact h5
  have hfar := far_spec s r st t s.toNat 0 0 0 ht (fun q h5 h6 => by
    obtain ⟨p, hp, hg⟩ := hcov q (by omega)
    rw [gap_comm] at hg
    exact Int.le_trans ((near_le s r q st s).2 p hp) hg)
  have hoth : (((List.range s.toNat).map fun (i : Nat) => (0 : Int) + (i : Int)).filter fun q => decide (0 < nearM s r q st s)).length ≤ cntOut st (runL s z.1 s.toNat) := by
    unfold cntOut
    refine nodup_sub _ _ (List.Pairwise.filter _ (List.pairwise_map.2 ((List.nodup_range (n := s.toNat)).imp (fun {a b} hab e => hab (by omega))))) (fun q hq => ?_)
    have hq := List.mem_filter.1 hq
    obtain ⟨i, hi, rfl⟩ := List.mem_map.1 hq.1
    have hi := List.mem_range.1 hi
    refine List.mem_filter.2 ⟨runL_all s z.1 _ hs.1 ⟨by omega, hxs⟩ (by omega), ?_⟩
    have hpos := of_decide_eq_true hq.2
    simp only [Bool.not_eq_true', List.any_eq_false, decide_eq_true_eq]
    intro y hy e
    have h5 := (near_le s r ((0 : Int) + (i : Int)) st s).2 y hy
    have h6 : gapM s r ((0 : Int) + (i : Int)) y = 0 := by
      rw [e]
      unfold gapM
      cases r <;> simp <;> omega
    omega
  unfold boundM finM
  have hn4 : (0 : Int) < (st.length : Int) := by omega
  have e2 := hfar.2
  have hdiv : Int.tdiv ((farOth s r st s.toNat 0 0 0).2 + (st.length : Int) - 1) (st.length : Int) ≤ t := by
    rw [e2, Int.tdiv_eq_ediv_of_nonneg (by omega)]
    have h7 : ((0 : Int) + (((((List.range s.toNat).map fun (i : Nat) => (0 : Int) + (i : Int)).filter fun q => decide (0 < nearM s r q st s)).length : Nat) : Int) + (st.length : Int) - 1) < (t + 1) * (st.length : Int) := by
      rw [Int.add_mul, Int.one_mul]
      omega
    have := Int.ediv_lt_of_lt_mul hn4 h7
    omega
  have := hfar.1
  split <;> omega
theorem timeM_small (s : Int) (r : Bool) (p x : Int) (n : Nat) (back : Bool) (hs : 2 ≤ s) (hp : 0 ≤ p ∧ p ≤ s - 1) (hx : 0 ≤ x) : timeM s r p x n back ≤ 2 * s := by
  unfold timeM wayM
  have hin := runL_in (n := n) hs hx
  cases r with
  | true =>
    simp only [if_true]
    have h := ((le_foldMin (fun i : Nat => (if back = true then costB else costT) (leftAt s ((runL s x n).map (upRing s p)) (i : Int)) (i : Int)) (bestTo s (if back = true then costB else costT) ((runL s x n).map (upRing s p))) (List.range s.toNat) s).1 (Int.le_refl _)).1
    omega
  | false =>
    rw [if_neg (by simp)]
    have h1 := foldMax_bd (f := fun q => p - q) (l := runL s x n) (a := 0) (B := p) ⟨by omega, by omega⟩ (fun q hq => by have := hin q hq; omega)
    have h2 := foldMax_bd (f := fun q => q - p) (l := runL s x n) (a := 0) (B := s - 1 - p) ⟨by omega, by omega⟩ (fun q hq => by have := hin q hq; omega)
    have e1 : leftL p (runL s x n) 0 = (runL s x n).foldl (fun m q => max m (p - q)) 0 := rfl
    have e2 : rightL p (runL s x n) 0 = (runL s x n).foldl (fun m q => max m (q - p)) 0 := rfl
    rw [e1, e2]
    cases back with
    | true => simp only [if_true]; unfold costB; omega
    | false => rw [if_neg (by simp)]; unfold costT; omega
theorem take_rest (s : Int) (r back : Bool) (st bud : List Int) (x : Int) : ∀ (ks out : List Int), (takeM s r back st bud x ks out s).2 = s
  | [], out => rfl
  | k :: ks, out => by
    have h0 : nextM s r back st bud x s k = 0 := by
      unfold nextM
      rw [Int.sub_self]
      rfl
    show (takeM s r back st bud x ks _ (s + (nextM s r back st bud x s k : Int))).2 = s
    rw [h0]
    have := take_rest s r back st bud x ks (out.set k.toNat ((0 : Nat) : Int))
    rw [show s + ((0 : Nat) : Int) = s by simp]
    exact this
theorem find_big (s : Int) (r back : Bool) (hs : 2 ≤ s ∧ s ≤ 24) (st : List Int) (t : Int) (ht : 2 * s ≤ t) (hl : 1 ≤ st.length ∧ st.length ≤ 4) (hst : ∀ p ∈ st, 0 ≤ p ∧ p ≤ s - 1) : (findM s r back st (List.replicate st.length t)).isSome = true := by
  have hne : ∃ o, o ∈ ordL st.length st.length [] := by
    obtain ⟨st0, hst0⟩ : ∃ m, m = st.length := ⟨_, rfl⟩
    rw [← hst0] at hl ⊢
    have h5 : ordL st0 st0 [] ≠ [] := by
      have h4 : st0 = 1 ∨ st0 = 2 ∨ st0 = 3 ∨ st0 = 4 := by omega
      rcases h4 with h | h | h | h <;> (rw [h]; decide +kernel)
    exact List.exists_mem_of_ne_nil _ h5
  obtain ⟨o, ho⟩ := hne
  have hm := ordL_mem st.length st.length [] (by simp) (fun k hk => by simp at hk) o ho
  have hok : okO s r back st (List.replicate st.length t) 0 o = true := by
    unfold okO
    cases o with
    | nil => simp at hm; omega
    | cons k ks =>
      have hk := hm.2 k List.mem_cons_self
      obtain ⟨j, hj⟩ := Int.eq_ofNat_of_zero_le hk.1
      have hp := hst (rd st k) (by rw [hj, rd_nat st j (by omega)]; exact List.getElem_mem _)
      have hn : nextM s r back st (List.replicate st.length t) 0 0 k = s.toNat := by
        unfold nextM
        rw [Int.sub_zero]
        obtain ⟨m, hm2⟩ : ∃ m, s.toNat = m + 1 := ⟨s.toNat - 1, by omega⟩
        rw [hm2]
        unfold downM
        rw [if_pos]
        unfold fitB
        rw [rd_rep _ _ _ hk.1 hk.2]
        exact decide_eq_true (Int.le_trans (timeM_small s r _ _ _ back hs.1 hp (by rw [Int.zero_add, Int.zero_tmod]; omega)) ht)
      show ((takeM s r back st (List.replicate st.length t) 0 ks _ (0 + (nextM s r back st (List.replicate st.length t) 0 0 k : Int))).2 == s) = true
      rw [hn, show (0 : Int) + ((s.toNat : Nat) : Int) = s by omega, take_rest]
      exact beq_self_eq_true _
  unfold findM
  obtain ⟨m, hm2⟩ : ∃ m, leftX s r 0 = m + 1 := by
    refine ⟨leftX s r 0 - 1, ?_⟩
    unfold leftX
    split <;> (try split) <;> omega
  rw [hm2]
  unfold firstX
  have hf : ((ordL st.length st.length []).find? (okO s r back st (List.replicate st.length t) ((0 : Nat) : Int))).isSome = true := List.find?_isSome.2 ⟨o, ho, hok⟩
  obtain ⟨y, hy⟩ := Option.isSome_iff_exists.1 hf
  rw [hy]
  rfl
theorem least_ex (F : Nat → Bool) : ∀ n, F n = true → ∃ T, T ≤ n ∧ F T = true ∧ ∀ t, t < T → F t = false
  | 0, h => ⟨0, Nat.le_refl _, h, fun t ht => by omega⟩
  | n + 1, h => by
    by_cases c : ∃ m, m ≤ n ∧ F m = true
    · obtain ⟨m, hm, hF⟩ := c
      have : ∀ k, k ≤ n → F k = true → ∃ T, T ≤ n ∧ F T = true ∧ ∀ t, t < T → F t = false := by
        intro k
        induction k using Nat.strongRecOn with
        | _ k ih =>
          intro hk hFk
          by_cases c2 : ∃ j, j < k ∧ F j = true
          · obtain ⟨j, hj, hFj⟩ := c2
            exact ih j hj (by omega) hFj
          · exact ⟨k, hk, hFk, fun t ht => Bool.eq_false_iff.2 (fun h2 => c2 ⟨t, ht, h2⟩)⟩
      obtain ⟨T, hT, h1, h2⟩ := this m hm hF
      exact ⟨T, by omega, h1, h2⟩
    · exact ⟨n + 1, Nat.le_refl _, h, fun t ht => Bool.eq_false_iff.2 (fun h2 => c ⟨t, by omega, h2⟩)⟩
theorem spec_all_l0 (st : List Int) (t : Int) (hl : st.length ≤ 1000) : ∀ (d i k : Nat), i + d = st.length → d < k → Q40.l0 k st t (List.replicate i t) (i : Int) = some (List.replicate st.length t)
  | 0, i, k, h, hk => by
    obtain ⟨k, rfl⟩ := succ_of (k := k) (by omega)
    simp only [Q40.l0]
    rw [if_neg (by omega), show i = st.length by omega]
  | d + 1, i, k, h, hk => by
    obtain ⟨k, rfl⟩ := succ_of (k := k) (by omega)
    simp only [Q40.l0]
    rw [if_pos (by omega), if_pos (by rw [List.length_replicate]; omega), wrap_succ (n := st.length) (by omega) (by omega), ← List.replicate_succ']
    exact spec_all_l0 st t hl d (i + 1) k (by omega) (by omega)
theorem spec_all_eq (k : Nat) (st : List Int) (t : Int) (hl : st.length ≤ 1000) (hk : st.length < k) : Q40.f k st t = some (List.replicate st.length t) := by
  unfold Q40.f
  exact spec_all_l0 st t hl st.length 0 k (by omega) hk
theorem spec_least_l0 (s : Int) (r back : Bool) (hr : road s r = true) (st : List Int) (hl : 1 ≤ st.length ∧ st.length ≤ 4) (hst : ∀ p ∈ st, 0 ≤ p ∧ p ≤ s - 1) : ∀ (d t k : Nat), t + d ≤ 1000 → (findM s r back st (List.replicate st.length ((t + d : Nat) : Int))).isSome = true → (∀ j, t ≤ j → j < t + d → (findM s r back st (List.replicate st.length (j : Int))).isSome = false) → 60000 + d < k → Q15.l0 k st back (t : Int) s r = some ((t + d : Nat) : Int)
  | 0, t, k, h0, h1, h2, hk => by
    obtain ⟨k, rfl⟩ := succ_of (k := k) (by omega)
    obtain ⟨z, hz⟩ := Option.isSome_iff_exists.1 h1
    have hnn := (firstX_nn _ _ _ _ z hz).1
    simp only [Q15.l0]
    rw [spec_all_eq k st _ (by omega) (by omega), Option.bind_some, spec_first_eq k s r back hr st _ hst hl.2 (by simp) (by omega), Option.bind_some, show ((t + 0 : Nat) : Int) = (t : Int) from rfl] at *
    rw [hz]
    simp only
    rw [if_pos (by omega)]
  | d + 1, t, k, h0, h1, h2, hk => by
    obtain ⟨k, rfl⟩ := succ_of (k := k) (by omega)
    have hn := h2 t (by omega) (by omega)
    have hz : findM s r back st (List.replicate st.length (t : Int)) = none := by
      cases hf : findM s r back st (List.replicate st.length (t : Int)) with
      | none => rfl
      | some z => rw [hf] at hn; cases hn
    simp only [Q15.l0]
    rw [spec_all_eq k st _ (by omega) (by omega), Option.bind_some, spec_first_eq k s r back hr st _ hst hl.2 (by simp) (by omega), Option.bind_some, hz]
    simp only
    rw [if_neg (by omega), wrap_succ (n := 1001) (by omega) (by omega), spec_least_l0 s r back hr st hl hst d (t + 1) k (by omega) (by rw [show t + 1 + d = t + (d + 1) by omega]; exact h1) (fun j h3 h4 => h2 j (by omega) (by omega)) (by omega)]
    congr 2
    omega
theorem rep_one_eq (t : Int) (n : Nat) : repI [t] n = List.replicate n t := by
  unfold repI
  simp only [List.length_singleton, Nat.one_mul, Nat.mod_one]
  apply List.ext_getElem
  · simp
  · intro i h1 h2
    simp [rd]
theorem impl_least_l0 (s : Int) (r back : Bool) (hs : 2 ≤ s ∧ s ≤ 24) (st : List Int) (hl : 1 ≤ st.length ∧ st.length ≤ 4) : ∀ (d t k : Nat), t + d ≤ 1000 → (findM s r back st (List.replicate st.length ((t + d : Nat) : Int))).isSome = true → (∀ j, t ≤ j → j < t + d → (findM s r back st (List.replicate st.length (j : Int))).isSome = false) → 60000 + d < k → Q6.l0 k st (t : Int) s r (st.map (tabM s r back)) = some (((t + d : Nat) : Int), true)
  | 0, t, k, h0, h1, h2, hk => by
    obtain ⟨k, rfl⟩ := succ_of (k := k) (by omega)
    obtain ⟨z, hz⟩ := Option.isSome_iff_exists.1 h1
    rw [show ((t + 0 : Nat) : Int) = (t : Int) from rfl] at *
    simp only [Q6.l0]
    rw [slices_Repeat_eq k [(t : Int)] st.length (by simp) (by simp) hl.1 (by omega), Option.bind_some, rep_one_eq, impl_first_eq k s r back hs st _ hl.2 (by simp) (by omega), Option.bind_some, hz]
    simp only
    rw [if_pos trivial]
  | d + 1, t, k, h0, h1, h2, hk => by
    obtain ⟨k, rfl⟩ := succ_of (k := k) (by omega)
    have hn := h2 t (by omega) (by omega)
    have hz : findM s r back st (List.replicate st.length (t : Int)) = none := by
      cases hf : findM s r back st (List.replicate st.length (t : Int)) with
      | none => rfl
      | some z => rw [hf] at hn; cases hn
    simp only [Q6.l0]
    rw [slices_Repeat_eq k [(t : Int)] st.length (by simp) (by simp) hl.1 (by omega), Option.bind_some, rep_one_eq, impl_first_eq k s r back hs st _ hl.2 (by simp) (by omega), Option.bind_some, hz]
    simp only
    rw [if_neg (by simp), wrap_succ (n := 1001) (by omega) (by omega), impl_least_l0 s r back hs st hl d (t + 1) k (by omega) (by rw [show t + 1 + d = t + (d + 1) by omega]; exact h1) (fun j h3 h4 => h2 j (by omega) (by omega)) (by omega)]
    congr 3
    omega
theorem bound_nn (s : Int) (r : Bool) (st : List Int) : 0 ≤ boundM s r st := by
  have : ∀ (d : Nat) (p f o : Int), 0 ≤ f → 0 ≤ (farOth s r st d p f o).1 := by
    intro d
    induction d with
    | zero => intro p f o h; exact h
    | succ d ih =>
      intro p f o h
      unfold farOth
      exact ih _ _ _ (by split <;> omega)
  have h := this s.toNat 0 0 0 (Int.le_refl _)
  unfold boundM finM
  split <;> omega
theorem least_T (s : Int) (r back : Bool) (hr : road s r = true) (st : List Int) (hl : 1 ≤ st.length ∧ st.length ≤ 4) (hst : ∀ p ∈ st, 0 ≤ p ∧ p ≤ s - 1) : ∃ T b : Nat, T ≤ 48 ∧ (b : Int) = boundM s r st ∧ b ≤ T ∧ (findM s r back st (List.replicate st.length (T : Int))).isSome = true ∧ ∀ t, t < T → (findM s r back st (List.replicate st.length (t : Int))).isSome = false := by
  have hs := road_bd hr
  obtain ⟨T, hT, h1, h2⟩ := least_ex (fun t => (findM s r back st (List.replicate st.length (t : Int))).isSome) 48 (find_big s r back ⟨hs.1, hs.2.1⟩ st 48 (by omega) hl hst)
  obtain ⟨b, hb⟩ := Int.eq_ofNat_of_zero_le (bound_nn s r st)
  have hle := bound_le s r back ⟨hs.1, hs.2.1⟩ st (T : Int) (by omega) hl hst h1
  exact ⟨T, b, hT, hb.symm, by omega, h1, h2⟩
theorem impl_least_eq (k : Nat) (s : Int) (r back : Bool) (st : List Int) (hl : st.length ≤ 1048576) (hk : 1048600 < k) : Q6.f k s r st back = (if (road s r && inR (st.length : Int) 1 4 && allIn st 0 (s - 1)) = true then Q6.j0 k st back false s r else some (0, false)) := by
  unfold Q6.f
  rw [impl_IsRoad_eq, Option.bind_some]
  have hj : Q6.j0 k st back true s r = some (0, false) := by
    obtain ⟨k, rfl⟩ := succ_of (k := k) (by omega)
    simp only [Q6.j0]
    rw [if_pos trivial]
  cases hr : road s r with
  | false => simpa using hj
  | true =>
    rw [if_pos rfl, impl_Road_areExplorers_eq k s r st hr (by omega) (by omega), Option.bind_some, Bool.true_and]
    cases (inR (st.length : Int) 1 4 && allIn st 0 (s - 1)) with
    | false => simpa using hj
    | true => simp
theorem costTB (a b : Int) (ha : 0 ≤ a) (hb : 0 ≤ b) : costT a b ≤ costB a b := by unfold costT costB; omega
theorem leftAt_mono2 {s right : Int} {f g : List Int} (h : ∀ x ∈ f, x ∈ g) : leftAt s f right ≤ leftAt s g right := by
  unfold leftAt
  refine (foldMax_le _ _ f 0).2 ⟨leftAt_nn s g right, fun i hi => ?_⟩
  exact ((foldMax_le (fun f => if right < f then s - f else 0) (leftAt s g right) g 0).1 (Int.le_refl _)).2 i (h i hi)
theorem way_le {s : Int} {r : Bool} {p : Int} {c d : Int → Int → Int} (hc : ∀ a b a' b' : Int, 0 ≤ a → 0 ≤ b → a ≤ a' → b ≤ b' → c a b ≤ d a' b') {l m : List Int} (h : ∀ x ∈ l, x ∈ m) : wayM c s r p l ≤ wayM d s r p m := by
  unfold wayM
  cases r with
  | true =>
    simp only [if_true]
    have h1 := (le_foldMin (fun i : Nat => c (leftAt s (l.map (upRing s p)) (i : Int)) (i : Int)) (bestTo s c (l.map (upRing s p))) (List.range s.toNat) s).1 (Int.le_refl _)
    conv => rhs; unfold bestTo
    refine (le_foldMin _ _ _ _).2 ⟨h1.1, fun i hi => Int.le_trans (h1.2 i hi) ?_⟩
    refine hc _ _ _ _ (leftAt_nn _ _ _) (by omega) (leftAt_mono2 (fun x hx => ?_)) (Int.le_refl _)
    obtain ⟨y, hy, rfl⟩ := List.mem_map.1 hx
    exact List.mem_map.2 ⟨y, h y hy, rfl⟩
  | false =>
    rw [if_neg (by simp), if_neg (by simp)]
    have a1 := (foldMax_le (fun q => p - q) (leftL p m 0) m 0).1 (Int.le_refl _)
    have a2 := (foldMax_le (fun q => q - p) (rightL p m 0) m 0).1 (Int.le_refl _)
    have b1 := (foldMax_le (fun q => p - q) (leftL p l 0) l 0).1 (Int.le_refl _)
    have b2 := (foldMax_le (fun q => q - p) (rightL p l 0) l 0).1 (Int.le_refl _)
    refine hc _ _ _ _ b1.1 b2.1 ?_ ?_
    · exact (foldMax_le (fun q => p - q) _ l 0).2 ⟨a1.1, fun i hi => a1.2 i (h i hi)⟩
    · exact (foldMax_le (fun q => q - p) _ l 0).2 ⟨a2.1, fun i hi => a2.2 i (h i hi)⟩
theorem time_sub (s : Int) (r : Bool) (p x : Int) (hs : 2 ≤ s) (hx : 0 ≤ x) (j m : Nat) (back : Bool) : timeM s r p (Int.tmod (x + (j : Int)) s) m false ≤ timeM s r p x (j + m) back := by
  unfold timeM
  have hsub : ∀ y ∈ runL s (Int.tmod (x + (j : Int)) s) m, y ∈ runL s x (j + m) := fun y hy => by rw [runL_add s x hs hx]; exact List.mem_append_right _ hy
  cases back with
  | false => exact way_le (c := costT) (d := costT) costT_mono hsub
  | true => exact way_le (c := costT) (d := costB) (fun a b a' b' h1 h2 h3 h4 => Int.le_trans (costT_mono a b a' b' h1 h2 h3 h4) (costTB a' b' (by omega) (by omega))) hsub
theorem tmod_add (s x : Int) (hs : 2 ≤ s) (hx : 0 ≤ x) (a b : Nat) : Int.tmod (Int.tmod (x + (a : Int)) s + (b : Int)) s = Int.tmod (x + ((a + b : Nat) : Int)) s := by
  have h1 := Int.emod_nonneg (x + (a : Int)) (show s ≠ 0 by omega)
  rw [Int.tmod_eq_emod_of_nonneg (show 0 ≤ x + (a : Int) by omega), Int.tmod_eq_emod_of_nonneg (by omega), Int.tmod_eq_emod_of_nonneg (by omega), Int.emod_add_emod]
  congr 1
  omega
theorem next_more (s : Int) (r back : Bool) (hs : 2 ≤ s) (st bud : List Int) (x : Int) (hx : 0 ≤ x) (k : Int) (a b : Nat) (hab : a ≤ b) (hb : (b : Int) ≤ s) : a + nextM s r back st bud x (a : Int) k ≤ b + nextM s r false st bud x (b : Int) k := by
  obtain ⟨n, hn⟩ : ∃ n, n = nextM s r back st bud x (a : Int) k := ⟨_, rfl⟩
  have hle := nextM_le s r back st bud x (a : Int) k (by omega)
  rw [← hn] at hle ⊢
  rcases Nat.lt_or_ge (b + nextM s r false st bud x (b : Int) k) (a + n) with h | h
  · exfalso
    have hn0 : 0 < n := by omega
    have hf : fitB s r (rd st k) (Int.tmod (x + (a : Int)) s) back (rd bud k) n = true := by
      have hsp := (downM_spec (fitB s r (rd st k) (Int.tmod (x + (a : Int)) s) back (rd bud k)) (s - (a : Int)).toNat).2.1
      rw [hn]
      exact hsp.resolve_left (by intro h0; rw [hn] at hn0; unfold nextM at hn0; omega)
    obtain ⟨m, hm⟩ : ∃ m, a + n = b + m := ⟨a + n - b, by omega⟩
    obtain ⟨j, hj⟩ : ∃ j, b = a + j := ⟨b - a, by omega⟩
    have hjm : n = j + m := by omega
    have hps := pos_bd (s := s) (x := x) (done := (a : Int)) hs (by omega)
    have ht := time_sub s r (rd st k) (Int.tmod (x + (a : Int)) s) hs hps.1 j m back
    rw [tmod_add s x hs hx a j, ← hj, ← hjm] at ht
    have hle2 := of_decide_eq_true hf
    have hsp := (downM_spec (fitB s r (rd st k) (Int.tmod (x + (b : Int)) s) false (rd bud k)) (s - (b : Int)).toNat).2.2 m (by unfold nextM at h; omega) (by omega)
    unfold fitB at hsp
    have := of_decide_eq_false hsp
    omega
  · exact h
theorem take_more (s : Int) (r back : Bool) (hs : 2 ≤ s) (st bud : List Int) (x : Int) (hx : 0 ≤ x) : ∀ (ks o1 o2 : List Int) (a b : Nat), a ≤ b → (b : Int) ≤ s → (takeM s r back st bud x ks o1 (a : Int)).2 ≤ (takeM s r false st bud x ks o2 (b : Int)).2 ∧ (takeM s r false st bud x ks o2 (b : Int)).2 ≤ s
  | [], o1, o2, a, b, hab, hb => ⟨by show (a : Int) ≤ (b : Int); omega, hb⟩
  | k :: ks, o1, o2, a, b, hab, hb => by
    have h := next_more s r back hs st bud x hx k a b hab hb
    have hle := nextM_le s r false st bud x (b : Int) k hb
    have ih := take_more s r back hs st bud x hx ks (o1.set k.toNat (nextM s r back st bud x (a : Int) k : Int)) (o2.set k.toNat (nextM s r false st bud x (b : Int) k : Int)) (a + nextM s r back st bud x (a : Int) k) (b + nextM s r false st bud x (b : Int) k) h (by omega)
    rw [Int.natCast_add, Int.natCast_add] at ih
    exact ih
theorem first_some (P : Int → List Int → Bool) (os : List (List Int)) : ∀ (d x y : Nat) (o : List Int), x ≤ y → y < x + d → o ∈ os → P (y : Int) o = true → (firstX P os d x).isSome = true
  | 0, x, y, o, h1, h2, ho, hp => by omega
  | d + 1, x, y, o, h1, h2, ho, hp => by
    simp only [firstX]
    cases hf : os.find? (P (x : Int)) with
    | some z => rfl
    | none =>
      rcases Nat.eq_or_lt_of_le h1 with e | e
      · rw [← e] at hp
        have := List.find?_eq_none.1 hf o ho
        exact absurd hp this
      · exact first_some P os d (x + 1) y o (by omega) (by omega) ho hp
def canF (s : Int) (r back : Bool) (st : List Int) (t : Int) : Bool := (findM s r back st (List.replicate st.length t)).isSome
theorem find_ex {s : Int} {r back : Bool} {st bud : List Int} (hs : 2 ≤ s) (h : (findM s r back st bud).isSome = true) : ∃ (x : Nat) (o : List Int), x < leftX s r 0 ∧ (x : Int) < s ∧ o ∈ ordL st.length st.length [] ∧ okO s r back st bud (x : Int) o = true := by
  obtain ⟨z, hz⟩ := Option.isSome_iff_exists.1 h
  have hk := firstX_ok _ _ _ _ z hz
  obtain ⟨x, hx⟩ := Int.eq_ofNat_of_zero_le (show 0 ≤ z.1 by have := hk.2.2.1; omega)
  refine ⟨x, z.2, by have := hk.2.2.2; omega, ?_, hk.1, by rw [← hx]; exact hk.2.1⟩
  have h1 : x < leftX s r 0 := by have := hk.2.2.2; omega
  unfold leftX at h1
  split at h1
  · omega
  · split at h1 <;> omega
/-- Whoever can be back can get there. -/
theorem can_less (s : Int) (r : Bool) (hs : 2 ≤ s) (st : List Int) (t : Int) (h : canF s r true st t = true) : canF s r false st t = true := by
  obtain ⟨x, o, hx, hxs, ho, hk⟩ := find_ex hs h
  refine first_some _ _ _ 0 x o (by omega) (by omega) ho ?_
  unfold okO at hk ⊢
  have := take_more s r true hs st (List.replicate st.length t) (x : Int) (by omega) o (List.replicate st.length 0) (List.replicate st.length 0) 0 0 (Nat.le_refl _) (by show (0 : Int) ≤ s; omega)
  have e := beq_iff_eq.1 hk
  rw [show ((0 : Nat) : Int) = 0 from rfl] at this
  exact beq_iff_eq.2 (by omega)
theorem ordL_nodup (n : Nat) : ∀ (d : Nat) (xs : List Int), xs.Nodup → ∀ o ∈ ordL n d xs, o.Nodup
  | 0, xs, h, o, ho => by
    have : o = xs := by simpa [ordL] using ho
    rw [this]; exact h
  | d + 1, xs, h, o, ho => by
    unfold ordL at ho
    obtain ⟨i, hi, hm⟩ := List.mem_flatMap.1 ho
    by_cases c : (xs.any fun y => decide (y = (i : Int))) = true
    · rw [if_pos c] at hm; cases hm
    · rw [if_neg c] at hm
      refine ordL_nodup n d _ ?_ o hm
      rw [List.nodup_append]
      refine ⟨h, by simp, fun a ha b hb => ?_⟩
      rw [List.mem_singleton.1 hb]
      intro e
      exact c (List.any_eq_true.2 ⟨a, ha, by simp [e]⟩)
theorem ordL_all (n : Nat) : ∀ (d : Nat) (xs o : List Int), o.length = d → (xs ++ o).Nodup → (∀ k ∈ o, 0 ≤ k ∧ k < (n : Int)) → xs ++ o ∈ ordL n d xs
  | 0, xs, o, hl, hn, hk => by
    have : o = [] := List.eq_nil_of_length_eq_zero hl
    subst this
    simp [ordL]
  | d + 1, xs, [], hl, hn, hk => by simp at hl
  | d + 1, xs, k :: o, hl, hn, hk => by
    have hk0 := hk k List.mem_cons_self
    obtain ⟨i, rfl⟩ := Int.eq_ofNat_of_zero_le hk0.1
    unfold ordL
    refine List.mem_flatMap.2 ⟨i, List.mem_range.2 (by omega), ?_⟩
    have hnx : (xs.any fun y => decide (y = (i : Int))) = false := by
      rw [List.any_eq_false]
      intro y hy
      simp only [decide_eq_true_eq]
      intro e
      exact (List.nodup_append.1 hn).2.2 y hy (i : Int) List.mem_cons_self e
    rw [hnx, if_neg (by simp)]
    have ih := ordL_all n d (xs ++ [(i : Int)]) o (by simpa using hl) (by rw [List.append_assoc]; exact hn) (fun k hk' => hk k (List.mem_cons_of_mem _ hk'))
    rw [List.append_assoc] at ih
    exact ih
theorem take_ext (s : Int) (r back : Bool) (st st2 bud bud2 : List Int) (x : Int) : ∀ (ks o1 o2 : List Int) (done : Int), (∀ k ∈ ks, rd st k = rd st2 k ∧ rd bud k = rd bud2 k) → (takeM s r back st bud x ks o1 done).2 = (takeM s r back st2 bud2 x ks o2 done).2
  | [], o1, o2, done, h => rfl
  | k :: ks, o1, o2, done, h => by
    have hk := h k List.mem_cons_self
    have e : nextM s r back st bud x done k = nextM s r back st2 bud2 x done k := by unfold nextM; rw [hk.1, hk.2]
    show (takeM s r back st bud x ks _ (done + (nextM s r back st bud x done k : Int))).2 = (takeM s r back st2 bud2 x ks _ (done + (nextM s r back st2 bud2 x done k : Int))).2
    rw [e]
    exact take_ext s r back st st2 bud bud2 x ks _ _ _ (fun k hk' => h k (List.mem_cons_of_mem _ hk'))
theorem take_last (s : Int) (r back : Bool) (st bud : List Int) (x k : Int) : ∀ (ks out : List Int) (done : Int), (takeM s r back st bud x ks out done).2 = s → (takeM s r back st bud x (ks ++ [k]) out done).2 = s
  | [], out, done, h => by
    have hd : done = s := h
    subst hd
    exact take_rest done r back st bud x [k] out
  | q :: ks, out, done, h => take_last s r back st bud x k ks _ _ h
/-- One explorer more takes no more time. -/
theorem can_more (s : Int) (r : Bool) (hs : 2 ≤ s) (st : List Int) (p t : Int) (h : canF s r false st t = true) : canF s r false (st ++ [p]) t = true := by
  obtain ⟨x, o, hx, hxs, ho, hk⟩ := find_ex hs h
  have hm := ordL_mem st.length st.length [] (by simp) (fun k hk => by simp at hk) o ho
  have hnd := ordL_nodup st.length st.length [] List.nodup_nil o ho
  have hl : (st ++ [p]).length = st.length + 1 := by simp
  have ho2 : o ++ [(st.length : Int)] ∈ ordL (st ++ [p]).length (st ++ [p]).length [] := by
    rw [hl]
    have := ordL_all (st.length + 1) (st.length + 1) [] (o ++ [(st.length : Int)]) (by rw [List.length_append, hm.1]; rfl) (by
      rw [List.nil_append, List.nodup_append]
      refine ⟨hnd, by simp, fun a ha b hb => ?_⟩
      rw [List.mem_singleton.1 hb]
      have := (hm.2 a ha).2
      omega) (fun k hk' => by
      rcases List.mem_append.1 hk' with h1 | h1
      · have := hm.2 k h1; omega
      · rw [List.mem_singleton.1 h1]; omega)
    simpa using this
  refine first_some _ _ _ 0 x _ (by omega) (by omega) ho2 ?_
  unfold okO at hk ⊢
  refine beq_iff_eq.2 (take_last s r false _ _ (x : Int) _ o _ _ ?_)
  refine Eq.trans ?_ (beq_iff_eq.1 hk)
  refine (take_ext s r false st (st ++ [p]) _ _ (x : Int) o _ _ 0 (fun k hk' => ?_)).symm
  have hk2 := hm.2 k hk'
  obtain ⟨j, rfl⟩ := Int.eq_ofNat_of_zero_le hk2.1
  constructor
  · unfold rd
    rw [Int.toNat_natCast, List.getD_eq_getElem?_getD, List.getD_eq_getElem?_getD, List.getElem?_append_left (by omega)]
  · rw [rd_rep _ _ _ hk2.1 hk2.2, rd_rep _ _ _ hk2.1 (by rw [hl]; omega)]
theorem starts_l0 (l : List Int) (hl : byteL l) (s : Int) (r : Bool) (hs : -1 ≤ s ∧ s ≤ 4611686018427387904) : ∀ (n k : Nat) (acc : List Int) (a b : Int), acc.length + n ≤ 5 → 0 ≤ a → a + 2 * (n : Int) ≤ 1000 → n < k → ∃ v a' b', Q32.l0 k acc (n : Int) l a b s r = some (v, a', b') ∧ v.length ≤ 5 ∧ a ≤ a' ∧ a' ≤ a + 2 * (n : Int)
  | 0, k, acc, a, b, ha, h0, h1, hk => by
    obtain ⟨k, rfl⟩ := succ_of (k := k) (by omega)
    simp only [Q32.l0]
    rw [if_neg (by omega)]
    exact ⟨_, _, _, rfl, by omega, by omega, by omega⟩
  | n + 1, k, acc, a, b, ha, h0, h1, hk => by
    obtain ⟨k, rfl⟩ := succ_of (k := k) (by omega)
    simp only [Q32.l0]
    obtain ⟨x, a1, b1, e, _, h2, h3⟩ := placeOn_ok l hl a b s r hs h0 (by omega)
    rw [if_pos (by omega), e, Option.bind_some, if_pos (by omega), show wrap64 (((n + 1 : Nat) : Int) - 1) = (n : Int) from by rw [wrap64_id (by omega) (by omega)]; omega]
    obtain ⟨v, a2, b2, e2, q1, q2, q3⟩ := starts_l0 l hl s r hs n k (acc ++ [x]) a1 b1 (by rw [List.length_append, List.length_singleton]; omega) (by omega) (by omega) (by omega)
    exact ⟨v, a2, b2, e2, q1, by omega, by omega⟩
theorem starts_ok (k : Nat) (l : List Int) (hl : byteL l) (s : Int) (r : Bool) (hs : -1 ≤ s ∧ s ≤ 4611686018427387904) (a b : Int) (h0 : 0 ≤ a) (h1 : a ≤ 100) (hk : 10 < k) : ∃ v a' b', Q32.f k l a b s r = some (v, a', b') ∧ v.length ≤ 5 ∧ a ≤ a' ∧ a' ≤ a + 11 := by
  unfold Q32.f
  obtain ⟨x, a1, b1, e, hx, h2, h3⟩ := among_ok l hl a b [2, 3, 1, 2, 4, 0, 5] h0 (by omega) (by decide) (by decide)
  rw [e, Option.bind_some]
  have hx2 : 0 ≤ x ∧ x ≤ 5 := by simp at hx; omega
  obtain ⟨n, rfl⟩ := Int.eq_ofNat_of_zero_le hx2.1
  obtain ⟨v, a2, b2, e2, q1, q2, q3⟩ := starts_l0 l hl s r hs n k [] a1 b1 (by simp; omega) (by omega) (by omega) (by omega)
  exact ⟨v, a2, b2, e2, q1, by omega, by omega⟩
theorem budgets_j1 (l : List Int) (hl : byteL l) (k : Nat) (v : List Int) (x : Bool) (a b : Int) (hv : v.length ≤ 5) (hx : x = true → 0 < v.length) (h0 : 0 ≤ a) (h1 : a ≤ 500) (hk : 0 < k) : ∃ u a' b', Q26.j1 k v x l a b = some (u, a', b') ∧ u.length ≤ 6 ∧ a ≤ a' ∧ a' ≤ a + 2 := by
  obtain ⟨k, rfl⟩ := succ_of (k := k) (by omega)
  simp only [Q26.j1]
  cases x with
  | true =>
    have := hx rfl
    obtain ⟨z, a1, b1, e, _, h2, h3⟩ := among_ok l hl a b [(-1), 99, 100] h0 (by omega) (by decide) (by decide)
    obtain ⟨y, a2, b2, e2, h4, h5⟩ := one_ok l hl a1 b1 40 (by omega) (by omega) (by omega)
    rw [if_pos rfl, e, Option.bind_some, if_pos (by omega), Option.bind_some, e2, Option.bind_some]
    cases y with
    | true =>
      rw [if_pos rfl, if_pos (by rw [List.length_set]; omega)]
      exact ⟨_, _, _, rfl, by rw [List.length_append, List.length_set, List.length_singleton]; omega, by show a ≤ a2; omega, by show a2 ≤ a + 2; omega⟩
    | false =>
      rw [if_neg (by simp)]
      exact ⟨_, _, _, rfl, by rw [List.length_set]; omega, by show a ≤ a2; omega, by show a2 ≤ a + 2; omega⟩
  | false =>
    obtain ⟨y, a2, b2, e2, h4, h5⟩ := one_ok l hl a b 40 (by omega) (by omega) (by omega)
    rw [if_neg (by simp), e2, Option.bind_some]
    cases y with
    | true =>
      rw [if_pos rfl, if_pos (by omega)]
      exact ⟨_, _, _, rfl, by rw [List.length_append, List.length_singleton]; omega, by show a ≤ a2; omega, by show a2 ≤ a + 2; omega⟩
    | false =>
      rw [if_neg (by simp)]
      exact ⟨_, _, _, rfl, by omega, by show a ≤ a2; omega, by show a2 ≤ a + 2; omega⟩
theorem budgets_l0 (l : List Int) (hl : byteL l) (s : Int) (r : Bool) (st : List Int) (hst : st.length ≤ 5) : ∀ (n i k : Nat) (acc : List Int) (a b : Int), i + n = st.length → acc.length = i → 0 ≤ a → a + (n : Int) ≤ 400 → n + 5 < k → ∃ v a' b', Q26.l0 k st acc (i : Int) l a b s r = some (v, a', b') ∧ v.length ≤ 6 ∧ a ≤ a' ∧ a' ≤ a + (n : Int) + 3
  | 0, i, k, acc, a, b, hi, ha, h0, h1, hk => by
    obtain ⟨k, rfl⟩ := succ_of (k := k) (by omega)
    simp only [Q26.l0]
    rw [if_neg (by omega)]
    by_cases c : (acc.length : Int) > 0
    · rw [if_pos c]
      obtain ⟨x, a1, b1, e, h2, h3⟩ := one_ok l hl a b 24 h0 (by omega) (by omega)
      rw [e, Option.bind_some]
      obtain ⟨v, a2, b2, e2, q1, q2, q3⟩ := budgets_j1 l hl k acc x a1 b1 (by omega) (fun _ => by omega) (by omega) (by omega) (by omega)
      exact ⟨v, a2, b2, e2, q1, by omega, by omega⟩
    · rw [if_neg c]
      obtain ⟨v, a2, b2, e2, q1, q2, q3⟩ := budgets_j1 l hl k acc false a b (by omega) (fun h => by cases h) (by omega) (by omega) (by omega)
      exact ⟨v, a2, b2, e2, q1, by omega, by omega⟩
  | n + 1, i, k, acc, a, b, hi, ha, h0, h1, hk => by
    obtain ⟨k, rfl⟩ := succ_of (k := k) (by omega)
    simp only [Q26.l0]
    rw [if_pos (by omega), spec_l1Least_eq, Option.bind_some, spec_l1Most_eq, Option.bind_some]
    have hm : 1 ≤ hi2 (lo2 s 24) 1 ∧ hi2 (lo2 s 24) 1 ≤ 24 := by unfold hi2 lo2; split <;> split <;> omega
    rw [wrap64_id (by omega) (by omega)]
    obtain ⟨x, a1, b1, e, _, h2, h3⟩ := pick_ok l hl a b (hi2 (lo2 s 24) 1 + 2) h0 (by omega) (by omega)
    rw [e, Option.bind_some, if_pos (by omega), wrap_succ (n := 10) (by omega) (by omega)]
    obtain ⟨v, a2, b2, e2, q1, q2, q3⟩ := budgets_l0 l hl s r st hst n (i + 1) k (acc ++ [x]) a1 b1 (by omega) (by rw [List.length_append, List.length_singleton]; omega) (by omega) (by omega) (by omega)
    exact ⟨v, a2, b2, e2, q1, by omega, by omega⟩
theorem DrawReachTime_ok (k : Nat) (l : List Int) (hl : byteL l) (hk : 30 < k) : ∃ s r st, Q64.f k l = some (s, r, st) ∧ st.length ≤ 5 := by
  unfold Q64.f
  obtain ⟨s, r, a, b, e, hs, h1, h2⟩ := shortRoad_ok l hl 0 0 (by omega) (by omega)
  rw [e, Option.bind_some]
  obtain ⟨v, a2, b2, e2, q1, _⟩ := starts_ok k l hl s r hs a b (by omega) (by omega) (by omega)
  simp only
  rw [e2, Option.bind_some]
  exact ⟨s, r, v, rfl, q1⟩
theorem DrawCanReach_ok (k : Nat) (l : List Int) (hl : byteL l) (hk : 30 < k) : ∃ s r st bud, Q72.f k l = some (s, r, st, bud) ∧ st.length ≤ 5 ∧ bud.length ≤ 6 := by
  unfold Q72.f Q37.f
  obtain ⟨s, r, a, b, e, hs, h1, h2⟩ := shortRoad_ok l hl 0 0 (by omega) (by omega)
  rw [e, Option.bind_some]
  obtain ⟨v, a2, b2, e2, q1, q2, q3⟩ := starts_ok k l hl s r hs a b (by omega) (by omega) (by omega)
  simp only
  rw [e2, Option.bind_some]
  unfold Q26.f
  obtain ⟨u, a3, b3, e3, p1, p2, p3⟩ := budgets_l0 l hl s r v q1 v.length 0 k [] a2 b2 (by omega) rfl (by omega) (by omega) (by omega)
  simp only
  rw [show ((0 : Nat) : Int) = 0 from rfl] at e3
  rw [e3, Option.bind_some]
  obtain ⟨x, a4, b4, e4, _⟩ := one_ok l hl a3 b3 2 (by omega) (by omega) (by omega)
  simp only
  rw [e4, Option.bind_some, Option.bind_some]
  exact ⟨s, r, v, u, rfl, q1, p1⟩
def stOk (s : Int) (r : Bool) (st : List Int) : Bool := road s r && inR (st.length : Int) 1 4 && allIn st 0 (s - 1)
theorem least_all (s : Int) (r back : Bool) (hr : road s r = true) (st : List Int) (hl : 1 ≤ st.length ∧ st.length ≤ 4) (ha : allIn st 0 (s - 1) = true) : ∃ T b : Nat, T ≤ 48 ∧ (b : Int) = boundM s r st ∧ b ≤ T ∧ canF s r back st (T : Int) = true ∧ (∀ t : Nat, t < T → canF s r back st (t : Int) = false) ∧ ∀ k, 70000 < k → Q15.f k s r st back = some (T : Int) ∧ Q6.j0 k st back false s r = some ((T : Int), true) := by
  have hs := road_bd hr
  have hst : ∀ p ∈ st, 0 ≤ p ∧ p ≤ s - 1 := fun p hp => inR_iff.1 (List.all_eq_true.1 ha p hp)
  obtain ⟨T, b, hT, hb, hbT, h1, h2⟩ := least_T s r back hr st hl hst
  refine ⟨T, b, hT, hb, hbT, h1, h2, fun k2 hk2 => ?_⟩
  obtain ⟨k2, rfl⟩ := succ_of (k := k2) (by omega)
  refine ⟨?_, ?_⟩
  · unfold Q15.f
    rw [spec_l6Bound_eq (k2 + 1) s r st ⟨hs.1, hs.2.1⟩ hl.2 (by omega) ha (by omega), Option.bind_some, ← hb]
    have e := spec_least_l0 s r back hr st hl hst (T - b) b (k2 + 1) (by omega) (by rw [show b + (T - b) = T by omega]; exact h1) (fun j h3 h4 => h2 j (by omega)) (by omega)
    rw [e]
    congr 1
    omega
  · simp only [Q6.j0]
    rw [if_neg (by simp), impl_newRuns_eq k2 s r back hr st hl.2 hst (by omega), Option.bind_some]
    have e := impl_least_l0 s r back ⟨hs.1, hs.2.1⟩ st hl T 0 k2 (by omega) (by rw [Nat.zero_add]; exact h1) (fun j h3 h4 => h2 j (by omega)) (by omega)
    rw [Nat.zero_add] at e
    exact e
theorem fn_all (s : Int) (r : Bool) (st : List Int) (hl : st.length ≤ 1048576) : ∃ t1 t2 bd : Int, (∀ k, 1048600 < k → Q25.f k s r st = some (t1, stOk s r st) ∧ Q59.f k s r st = some (t1, stOk s r st) ∧ Q75.f k s r st = some (t2, stOk s r st) ∧ Q74.f k s r st = some (t2, stOk s r st) ∧ Q11.f k s r st = some (bd, stOk s r st) ∧ Q77.f k s r st = some (bd, stOk s r st) ∧ Q73.f k s r st = some (stOk s r st, road s r) ∧ Q68.f k s r st = some (stOk s r st, road s r)) ∧ (stOk s r st = true → ∃ T1 T2 : Nat, t1 = (T1 : Int) ∧ t2 = (T2 : Int) ∧ T1 ≤ 48 ∧ bd ≤ t1 ∧ canF s r false st (T1 : Int) = true ∧ (∀ t : Nat, t < T1 → canF s r false st (t : Int) = false) ∧ canF s r true st (T2 : Int) = true) := by
  have hare : ∀ k, 1048600 < k → Q73.f k s r st = some (stOk s r st, road s r) ∧ Q68.f k s r st = some (stOk s r st, road s r) := fun k hk => by
    unfold Q68.f Q73.f stOk
    rw [spec_l2Road_eq, impl_IsRoad_eq, Option.bind_some, Option.bind_some]
    cases hr : road s r with
    | false => simp
    | true =>
      rw [spec_l6Starts_eq k _ _ st (by omega) (by omega), impl_Road_areExplorers_eq k _ _ st hr (by omega) (by omega), hr]
      simp
  cases hg : stOk s r st with
  | false =>
    refine ⟨0, 0, 0, fun k hk => ?_, fun h => by cases h⟩
    obtain ⟨ha1, ha2⟩ := hare k hk
    rw [hg] at ha1 ha2
    unfold stOk at hg
    have hi : ∀ back, Q6.f k s r st back = some (0, false) := fun back => by rw [impl_least_eq k s r back st hl hk, hg]; rfl
    refine ⟨?_, ?_, ?_, ?_, ?_, ?_, ha1, ha2⟩
    · unfold Q25.f; rw [hi]; rfl
    · unfold Q59.f; rw [spec_l6Starts_eq k _ _ st (by omega) (by omega), hg]; rfl
    · unfold Q75.f; rw [hi]; rfl
    · unfold Q74.f; rw [spec_l6Starts_eq k _ _ st (by omega) (by omega), hg]; rfl
    · unfold Q11.f
      obtain ⟨k, rfl⟩ := succ_of (k := k) (by omega)
      rw [impl_IsRoad_eq, Option.bind_some]
      cases hr : road s r with
      | false => simp [Q11.j0]
      | true =>
        rw [hr, Bool.true_and] at hg
        rw [if_pos rfl, impl_Road_areExplorers_eq _ _ _ st hr (by omega) (by omega), hg, Option.bind_some]
        simp [Q11.j0]
    · unfold Q77.f; rw [spec_l6Starts_eq k _ _ st (by omega) (by omega), hg]; rfl
  | true =>
    have hg0 := hg
    unfold stOk at hg
    have hg2 := hg
    rw [Bool.and_eq_true, Bool.and_eq_true, inR_iff] at hg
    have hb := road_bd hg.1.1
    obtain ⟨T1, b1, p1, p2, p3, p4, p5, p6⟩ := least_all s r false hg.1.1 st (by omega) hg.2
    obtain ⟨T2, b2, q1, q2, q3, q4, q5, q6⟩ := least_all s r true hg.1.1 st (by omega) hg.2
    refine ⟨(T1 : Int), (T2 : Int), boundM s r st, fun k hk => ?_, fun _ => ⟨T1, T2, rfl, rfl, p1, by omega, p4, p5, q4⟩⟩
    obtain ⟨ha1, ha2⟩ := hare k hk
    rw [hg0] at ha1 ha2
    refine ⟨?_, ?_, ?_, ?_, ?_, ?_, ha1, ha2⟩
    · unfold Q25.f; rw [impl_least_eq k s r false st hl hk, hg2, if_pos rfl, (p6 k (by omega)).2]; rfl
    · unfold Q59.f; rw [spec_l6Starts_eq k _ _ st (by omega) (by omega), hg2, Option.bind_some, if_pos rfl, (p6 k (by omega)).1]; rfl
    · unfold Q75.f; rw [impl_least_eq k s r true st hl hk, hg2, if_pos rfl, (q6 k (by omega)).2]; rfl
    · unfold Q74.f; rw [spec_l6Starts_eq k _ _ st (by omega) (by omega), hg2, Option.bind_some, if_pos rfl, (q6 k (by omega)).1]; rfl
    · unfold Q11.f
      obtain ⟨k, rfl⟩ := succ_of (k := k) (by omega)
      rw [impl_IsRoad_eq, Option.bind_some, hg.1.1, if_pos rfl, impl_Road_areExplorers_eq _ _ _ st hg.1.1 (by omega) (by omega), hg.2, inR_iff.2 hg.1.2, Option.bind_some]
      simp only [Q11.j0]
      rw [if_neg (by simp)]
      have e := impl_ExploreBound_l0 s r st ⟨hb.1, hb.2.1⟩ (by omega) (by omega) hg.2 s.toNat k 0 0 0 (by omega) (by omega) (by omega) (by omega) (by omega)
      rw [e]
      rfl
    · unfold Q77.f; rw [spec_l6Starts_eq k _ _ st (by omega) (by omega), hg2, Option.bind_some, if_pos rfl, spec_l6Bound_eq k _ _ st ⟨hb.1, hb.2.1⟩ (by omega) (by omega) hg.2 (by omega)]; rfl
theorem can_bud {s : Int} {r : Bool} {st : List Int} (h : stOk s r st = true) (t : Int) (ht : 0 ≤ t ∧ t ≤ 99) (k : Nat) (hl : st.length ≤ 1048576) (hk : 1048600 < k) : Q48.f k s r st (List.replicate st.length t) = some (canF s r false st t, true) := by
  have hb : budOk s r st (List.replicate st.length t) = true := by
    unfold stOk at h
    unfold budOk
    rw [h, Bool.and_true, Bool.and_eq_true]
    refine ⟨List.all_eq_true.2 (fun x hx => ?_), by simp⟩
    rw [List.eq_of_mem_replicate hx]
    exact inR_iff.2 (by omega)
  rw [impl_CanReach_eq k s r st _ hl (by simpa using hl) hk, hb, if_pos rfl]
  rfl
theorem expl_j8 (s : Int) (r : Bool) (st : List Int) (T : Nat) (h : stOk s r st = true) (hc : canF s r false st (T : Int) = true) (k : Nat) (hk : 1048700 < k) : Q0.j8 k st (T : Int) false s r = some true := by
  obtain ⟨k, rfl⟩ := succ_of (k := k) (by omega)
  simp only [Q0.j8]
  rw [if_neg (by simp)]
  by_cases c : (st.length : Int) = 4
  · rw [if_pos c]
  have h0 := h
  unfold stOk at h0
  rw [Bool.and_eq_true, Bool.and_eq_true, inR_iff] at h0
  have hb := road_bd h0.1.1
  rw [if_neg c]
  simp only [Option.bind_some, List.nil_append, List.length_nil, List.length_singleton]
  rw [if_pos (by omega), if_pos (by omega), if_pos (by omega)]
  have hmem : rd st 0 ∈ st := by
    cases st with
    | nil => have := h0.1.2.1; simp at this
    | cons a t => exact List.mem_cons_self
  have hall : allIn (st ++ [rd st 0]) 0 (s - 1) = true := by
    refine List.all_eq_true.2 (fun x hx => ?_)
    rcases List.mem_append.1 hx with h1 | h1
    · exact List.all_eq_true.1 h0.2 x h1
    · rw [List.mem_singleton.1 h1]; exact List.all_eq_true.1 h0.2 _ hmem
  have hlen : (st ++ [rd st 0]).length = st.length + 1 := by simp
  obtain ⟨T', b', p1, p2, p3, p4, p5, p6⟩ := least_all s r false h0.1.1 (st ++ [rd st 0]) (by omega) hall
  have hg : (road s r && inR ((st ++ [rd st 0]).length : Int) 1 4 && allIn (st ++ [rd st 0]) 0 (s - 1)) = true := by
    rw [h0.1.1, hall, inR_iff.2 (by omega)]; rfl
  have e : Q25.f k s r (st ++ [rd st 0]) = some ((T' : Int), true) := by
    unfold Q25.f; rw [impl_least_eq k s r false _ (by omega) (by omega), hg, if_pos rfl, (p6 k (by omega)).2]; rfl
  rw [e, Option.bind_some]
  simp only [if_true]
  have hm := can_more s r hb.1 st (rd st 0) (T : Int) hc
  have : T' ≤ T := by
    rcases Nat.lt_or_ge T T' with h1 | h1
    · have := p5 T h1; rw [hm] at this; cases this
    · exact h1
  rw [decide_eq_true (show (T' : Int) ≤ (T : Int) by omega)]
theorem expl_j7 (s : Int) (r : Bool) (st : List Int) (T : Nat) (h : stOk s r st = true) (hT : T ≤ 48) (hc : canF s r false st (T : Int) = true) (hn : ∀ t : Nat, t < T → canF s r false st (t : Int) = false) (k : Nat) (hk : 1048800 < k) : Q0.j7 k st (T : Int) (List.replicate st.length ((T : Int) - 1)) false s r = some true := by
  obtain ⟨k, rfl⟩ := succ_of (k := k) (by omega)
  have h0 := h
  unfold stOk at h0
  rw [Bool.and_eq_true, Bool.and_eq_true, inR_iff] at h0
  have h8 := expl_j8 s r st T h hc (k + 1) (by omega)
  simp only [Q0.j8] at h8
  rw [if_neg (by simp)] at h8
  simp only [Q0.j7]
  rw [if_neg (by simp)]
  by_cases c : (T : Int) > 0
  · rw [if_pos c, can_bud h _ (by omega) k (by omega) (by omega), Option.bind_some]
    simp only [if_true]
    have e := hn (T - 1) (by omega)
    rw [show ((T - 1 : Nat) : Int) = (T : Int) - 1 by omega] at e
    rw [e]
    exact expl_j8 s r st T h hc k (by omega)
  · rw [if_neg c]
    exact h8
theorem expl_l0 (s : Int) (r : Bool) (st : List Int) (T : Nat) (h : stOk s r st = true) (hT : T ≤ 48) (hc : canF s r false st (T : Int) = true) (hn : ∀ t : Nat, t < T → canF s r false st (t : Int) = false) : ∀ (d i k : Nat), i + d = st.length → d + 1049000 < k → Q0.l0 k st (T : Int) (List.replicate i (T : Int)) (List.replicate i ((T : Int) - 1)) (i : Int) s r = some true
  | 0, i, k, hi, hk => by
    obtain ⟨k, rfl⟩ := succ_of (k := k) (by omega)
    have h0 := h
    unfold stOk at h0
    rw [Bool.and_eq_true, Bool.and_eq_true, inR_iff] at h0
    simp only [Q0.l0]
    rw [if_neg (by omega), show i = st.length by omega, can_bud h _ (by omega) k (by omega) (by omega), Option.bind_some, hc]
    simp only [if_true, Bool.not_true]
    exact expl_j7 s r st T h hT hc hn k (by omega)
  | d + 1, i, k, hi, hk => by
    obtain ⟨k, rfl⟩ := succ_of (k := k) (by omega)
    have h0 := h
    unfold stOk at h0
    rw [Bool.and_eq_true, Bool.and_eq_true, inR_iff] at h0
    simp only [Q0.l0, Option.bind_some, List.length_replicate, List.length_singleton]
    rw [if_pos (by omega), if_pos (by omega), if_pos (by omega), wrap_succ (n := 10) (by omega) (by omega), wrap64_id (x := (T : Int) - 1) (by omega) (by omega), ← List.replicate_succ', ← List.replicate_succ']
    exact expl_l0 s r st T h hT hc hn d (i + 1) k (by omega) (by omega)
theorem bne_same (b : Bool) : (b != b) = false := by cases b <;> rfl
theorem FnExplorers : Q0.Pure := by
  intro l0 hm _ hwf
  have hl : byteL l0 := fun x hx => by
    have := hwf x hx
    simp [Lit.wf, IntKind.min, IntKind.max, IntKind.bits, IntKind.signed, IntKind.wrap] at this
    omega
  obtain ⟨K, hK⟩ : ∃ K : Nat, K = 1060000 := ⟨_, rfl⟩
  refine ⟨K + 1 + 1 + 1 + 1 + 1 + 1, ?_⟩
  unfold Q0.f Q58.f
  rw [Option.bind_some]
  by_cases c0 : (l0.length : Int) > 65536
  · rw [decide_eq_true c0, if_pos rfl]
  rw [decide_eq_false c0, if_neg (by simp)]
  obtain ⟨s, r, st, e0, hst⟩ := DrawReachTime_ok (K + 1 + 1 + 1 + 1 + 1 + 1) l0 hl (by omega)
  obtain ⟨s2, r2, st2, bud, e1, hst2, hbud⟩ := DrawCanReach_ok (K + 1 + 1) l0 hl (by omega)
  obtain ⟨t1, t2, bd, hf, hg⟩ := fn_all s r st (by omega)
  obtain ⟨a1, a2, -⟩ := hf (K + 1 + 1 + 1 + 1 + 1 + 1) (by omega)
  obtain ⟨-, -, a3, a4, -⟩ := hf (K + 1 + 1 + 1 + 1 + 1) (by omega)
  obtain ⟨-, -, -, -, a5, a6, -⟩ := hf (K + 1 + 1 + 1 + 1) (by omega)
  obtain ⟨-, -, -, -, -, -, a7, a8⟩ := hf (K + 1 + 1 + 1) (by omega)
  clear hf
  rw [e0, Option.bind_some]
  simp only
  rw [a1, Option.bind_some, a2, Option.bind_some, if_pos rfl, bne_same]
  simp only [Q0.j0]
  rw [if_neg (by simp), a3, Option.bind_some, a4, Option.bind_some, if_pos rfl, bne_same, if_neg (by simp)]
  simp only [Q0.j1]
  rw [if_neg (by simp), a5, Option.bind_some, a6, Option.bind_some, if_pos rfl, bne_same, if_neg (by simp)]
  simp only [Q0.j2]
  rw [if_neg (by simp), a7, Option.bind_some, a8, Option.bind_some, bne_same, bne_same, if_neg (by simp), if_neg (by simp)]
  have hj3 : Q0.j3 (K + 1 + 1 + 1) l0 st t1 (stOk s r st) t2 bd false s r = some true := by
    simp only [Q0.j3]
    rw [if_neg (by simp), e1, Option.bind_some]
    simp only
    rw [impl_CanReach_eq _ s2 r2 st2 bud (by omega) (by omega) (by omega), Option.bind_some, spec_CanReach_eq _ s2 r2 st2 bud (by omega) (by omega) (by omega), Option.bind_some, bne_same, if_neg (by simp), bne_same]
    simp only [Q0.j4]
    rw [if_neg (by simp)]
    cases hs : stOk s r st with
    | false => rfl
    | true =>
      obtain ⟨T1, T2, h1, h2, h3, h4, h5, h6, h7⟩ := hg hs
      have hs2 := hs
      unfold stOk at hs2
      rw [Bool.and_eq_true, Bool.and_eq_true] at hs2
      have hb := road_bd hs2.1.1
      have hle : T1 ≤ T2 := by
        rcases Nat.lt_or_ge T2 T1 with hh | hh
        · have q := h6 T2 hh
          rw [can_less s r hb.1 st _ h7] at q
          cases q
        · exact hh
      rw [if_pos rfl, if_neg (by omega), decide_eq_false (by omega)]
      simp only [Q0.j5]
      rw [if_neg (by simp), h1]
      exact expl_l0 s r st T1 hs h3 h5 h6 st.length 0 K (by omega) (by omega)
  cases hrd : road s r with
  | true =>
    rw [if_pos rfl]
    exact hj3
  | false =>
    have hs : stOk s r st = false := by unfold stOk; rw [hrd]; rfl
    rw [if_neg (by simp)]
    rw [hs] at hj3 ⊢
    exact hj3

end Go.Proofs.YtjhppcpjobofbaaGreat.Pure
