/- Plain facts on numbers and lists: what the functions that the law FnExactTakenRuns reaches answer, and that the law's own function answers true. No program, no memory. -/
import Derived.Test.YthnaghigpgfchaaPFnExactTakenRunsx1
import Derived.Test.YthnaghigpgfchaaPFnExactTakenRunsx2
import Derived.Test.YthnaghigpgfchaaPFnExactTakenRunsx3
import Derived.Test.YthnaghigpgfchaaPFnExactTakenRunsx4
import Derived.Test.YthnaghigpgfchaaPFnExactTakenRunsx5
import Derived.Test.YthnaghigpgfchaaPFnExactTakenRunsx6
import Derived.Test.YthnaghigpgfchaaPFnExactTakenRunsx7
import Derived.Test.YthnaghigpgfchaaPFnExactTakenRunsx8
import Derived.Test.YthnaghigpgfchaaPFnExactTakenRunsx9
import Derived.Test.YthnaghigpgfchaaPFnExactTakenRunsx10
import Derived.Test.YthnaghigpgfchaaPFnExactTakenRunsx11
import Derived.Test.YthnaghigpgfchaaPFnExactTakenRunsx12
import Derived.Test.YthnaghigpgfchaaPFnExactTakenRunsx13
namespace Go.Proofs.Ythnaghigpgfchaa.Pure
open Go.RowKit Go.Proofs.Ythnaghigpgfchaa.PFnExactTakenRuns Go.Proofs.YthnaghigpgfchaaW.PrintWords Go.Proofs.YthnaghigpgfchaaW.PrintLast Go.Proofs.YthnaghigpgfchaaW.PrintMore
set_option linter.unusedVariables false
set_option linter.unusedSimpArgs false
theorem wrap64_id {x : Int} (h1 : -9223372036854775808 ≤ x) (h2 : x ≤ 9223372036854775807) : wrap64 x = x := by unfold wrap64; omega
def inR (x a b : Int) : Bool := decide (a ≤ x) && decide (x ≤ b)
theorem inR_iff {x a b : Int} : inR x a b = true ↔ a ≤ x ∧ x ≤ b := by unfold inR; simp
theorem inR_not {x a b : Int} : inR x a b = false ↔ ¬ (a ≤ x ∧ x ≤ b) := by rw [← inR_iff]; simp
def road (s : Int) (r : Bool) : Bool := inR s 2 24 && (!r || decide (3 ≤ s))
theorem road_bd {s : Int} {r : Bool} (h : road s r = true) : 2 ≤ s ∧ s ≤ 24 ∧ (r = true → 3 ≤ s) := by
  unfold road at h
  rw [Bool.and_eq_true, inR_iff] at h
  refine ⟨h.1.1, h.1.2, fun hr => ?_⟩
  have := h.2
  simp [hr] at this
  exact this
theorem spec_l1In_eq (a b c : Int) : spec_l1In.f a b c = some (inR a b c) := by
  unfold spec_l1In.f inR
  by_cases h : a ≥ b
  · have h' : b ≤ a := h
    simp [h, h']
  · have h' : ¬ b ≤ a := h
    simp [h, h']
theorem impl_within_eq (a b c : Int) : impl_within.f a b c = some (inR a b c) := by
  unfold impl_within.f inR
  by_cases h : a ≥ b
  · have h' : b ≤ a := h
    simp [h, h']
  · have h' : ¬ b ≤ a := h
    simp [h, h']
theorem spec_l2Road_eq (s : Int) (r : Bool) : spec_l2Road.f s r = some (road s r) := by
  unfold spec_l2Road.f road
  rw [spec_l1In_eq, Option.bind_some]
  cases inR s 2 24 <;> cases r <;> simp
  omega
theorem impl_IsRoad_eq (s : Int) (r : Bool) : impl_IsRoad.f s r = some (road s r) := by
  unfold impl_IsRoad.f road
  rw [impl_within_eq, Option.bind_some]
  cases inR s 2 24 <;> cases r <;> simp
theorem laws_toRoad_eq (s : Int) (r : Bool) : laws_toRoad.f s r = some (s, r) := rfl
theorem wrap_succ {i n : Nat} (h : i < n) (hn : n ≤ 9223372036854775807) : wrap64 ((i : Int) + 1) = ((i + 1 : Nat) : Int) := by unfold wrap64; omega
theorem drop_rd (l : List Int) (i : Nat) (h : i < l.length) : l.drop i = rd l (i : Int) :: l.drop (i + 1) := by
  rw [List.drop_eq_getElem_cons h]
  unfold rd
  simp [List.getD_eq_getElem?_getD, h]
theorem rd_get (l : List Int) (i : Nat) (h : i < l.length) : rd l (i : Int) = l[i] := by
  unfold rd
  simp [List.getD_eq_getElem?_getD, h]
theorem succ_of {k : Nat} (h : 0 < k) : ∃ m, k = m + 1 := ⟨k - 1, by omega⟩
theorem drop_end {α : Type} (l : List α) (i : Nat) (h : l.length ≤ i) : l.drop i = [] := List.drop_of_length_le h
def allIn (l : List Int) (a b : Int) : Bool := l.all (fun x => inR x a b)
/-- Numbers in line, from a on. -/
def marks (a : Int) : Nat → List Int
  | 0 => []
  | n + 1 => a :: marks (a + 1) n
theorem marks_len (a : Int) (n : Nat) : (marks a n).length = n := by
  induction n generalizing a with
  | zero => rfl
  | succ n ih => simp [marks, ih]
theorem marks_snoc (a : Int) (n : Nat) : marks a (n + 1) = marks a n ++ [a + n] := by
  induction n generalizing a with
  | zero => simp [marks]
  | succ n ih =>
    rw [marks, ih (a + 1)]
    simp [marks]
    omega
theorem marks_rd (a : Int) (n i : Nat) (h : i < n) : rd (marks a n) (i : Int) = a + i := by
  rw [rd_get _ _ (by rw [marks_len]; exact h)]
  induction n generalizing a i with
  | zero => omega
  | succ n ih =>
    cases i with
    | zero => simp [marks]
    | succ i =>
      simp only [marks, List.getElem_cons_succ]
      rw [ih (a + 1) i (by omega)]
      omega
theorem impl_allWithin_l0 (lo hi : Int) (l : List Int) (hl : l.length ≤ 9223372036854775807) : ∀ (d i k : Nat), i + d = l.length → d < k →
    impl_allWithin.l0 k lo hi l (l.length : Int) (i : Int) = some (allIn (l.drop i) lo hi)
  | 0, i, k, h, hk => by
    obtain ⟨k, rfl⟩ := succ_of (k := k) (by omega)
    simp only [impl_allWithin.l0]
    rw [if_neg (by omega), drop_end l i (by omega)]
    rfl
  | d + 1, i, k, h, hk => by
    obtain ⟨k, rfl⟩ := succ_of (k := k) (by omega)
    simp only [impl_allWithin.l0]
    rw [if_pos (by omega), if_pos (by omega), if_pos (by omega), impl_within_eq, Option.bind_some, wrap_succ (n := l.length) (by omega) hl, impl_allWithin_l0 lo hi l hl d (i + 1) k (by omega) (by omega), drop_rd l i (by omega)]
    unfold allIn
    rw [List.all_cons]
    cases inR (rd l (i : Int)) lo hi <;> simp
theorem impl_allWithin_eq (k : Nat) (l : List Int) (a b : Int) (hl : l.length ≤ 9223372036854775807) (hk : l.length < k) : impl_allWithin.f k l a b = some (allIn l a b) := by
  unfold impl_allWithin.f
  have := impl_allWithin_l0 a b l hl l.length 0 k (by omega) hk
  simpa using this
theorem impl_Road_has_eq (k : Nat) (s : Int) (r : Bool) (l : List Int) (hl : l.length ≤ 9223372036854775807) (hk : l.length < k) : impl_Road_has.f k s r l = some (allIn l 0 (wrap64 (s - 1))) := by
  unfold impl_Road_has.f
  rw [impl_allWithin_eq k l _ _ hl hk, Option.bind_some]
theorem impl_Road_has1 (k : Nat) (s : Int) (r : Bool) (x : Int) (hs : road s r = true) (hk : 1 < k) : impl_Road_has.f k s r [x] = some (inR x 0 (s - 1)) := by
  rw [impl_Road_has_eq k s r [x] (by simp) (by simpa using hk)]
  have := road_bd hs
  rw [wrap64_id (by omega) (by omega)]
  simp [allIn]
theorem impl_Road_hasN (k : Nat) (s : Int) (r : Bool) (l : List Int) (hs : road s r = true) (hl : l.length ≤ 9223372036854775807) (hk : l.length < k) : impl_Road_has.f k s r l = some (allIn l 0 (s - 1)) := by
  rw [impl_Road_has_eq k s r l hl hk]
  have := road_bd hs
  rw [wrap64_id (by omega) (by omega)]
theorem laws_eqIntS_l0 (l : List Int) (hl : l.length ≤ 9223372036854775807) : ∀ (d i k : Nat), i + d = l.length → d < k → laws_eqIntS.l0 k l l (i : Int) = some true
  | 0, i, k, h, hk => by
    obtain ⟨k, rfl⟩ := succ_of (k := k) (by omega)
    simp only [laws_eqIntS.l0]
    rw [if_neg (by omega)]
  | d + 1, i, k, h, hk => by
    obtain ⟨k, rfl⟩ := succ_of (k := k) (by omega)
    simp only [laws_eqIntS.l0]
    rw [if_pos (by omega), if_pos (by omega), if_pos (by omega), if_pos trivial, wrap_succ (n := l.length) (by omega) hl]
    exact laws_eqIntS_l0 l hl d (i + 1) k (by omega) (by omega)
theorem laws_eqIntS_self (k : Nat) (l : List Int) (hl : l.length ≤ 9223372036854775807) (hk : l.length < k) : laws_eqIntS.f k l l = some true := by
  unfold laws_eqIntS.f
  rw [if_pos rfl]
  have := laws_eqIntS_l0 l hl l.length 0 k (by omega) hk
  simpa using this
theorem laws_toIntS_l0 (l : List Int) (hl : l.length ≤ 9223372036854775807) : ∀ (d i k : Nat), i + d = l.length → d < k → laws_toIntS.l0 k l (l.take i ++ List.replicate d 0) (i : Int) = some l
  | 0, i, k, h, hk => by
    obtain ⟨k, rfl⟩ := succ_of (k := k) (by omega)
    simp only [laws_toIntS.l0]
    rw [if_neg (by omega), List.take_of_length_le (by omega)]
    simp
  | d + 1, i, k, h, hk => by
    obtain ⟨k, rfl⟩ := succ_of (k := k) (by omega)
    simp only [laws_toIntS.l0]
    rw [if_pos (by omega), if_pos (by omega), if_pos (by simp; omega), wrap_succ (n := l.length) (by omega) hl]
    have e : (l.take i ++ List.replicate (d + 1) 0).set ((i : Int)).toNat (rd l (i : Int)) = l.take (i + 1) ++ List.replicate d 0 := by
      rw [Int.toNat_natCast, List.set_append_right _ _ (by simp; omega)]
      rw [List.length_take, Nat.min_eq_left (by omega), Nat.sub_self, List.replicate_succ, List.set_cons_zero, rd_get l i (by omega)]
      rw [List.take_succ_eq_append_getElem (show i < l.length by omega), List.append_assoc]
      rfl
    rw [e]
    exact laws_toIntS_l0 l hl d (i + 1) k (by omega) (by omega)
theorem laws_toIntS_eq (k : Nat) (l : List Int) (hl : l.length ≤ 35184372088832) (hk : l.length < k) : laws_toIntS.f k l = some l := by
  unfold laws_toIntS.f
  rw [if_pos (by omega), if_pos (by simpa using hl)]
  have := laws_toIntS_l0 l (by omega) l.length 0 k (by omega) hk
  simpa using this
theorem laws_markIntS_l0 (l : List Int) (a : Int) (h0 : 0 ≤ a) (h1 : a + l.length ≤ 9223372036854775806) : ∀ (d i k : Nat), i + d = l.length → d < k →
    laws_markIntS.l0 k (marks a i ++ l.drop i) (a + i) (i : Int) = some (a + l.length, marks a l.length)
  | 0, i, k, h, hk => by
    obtain ⟨k, rfl⟩ := succ_of (k := k) (by omega)
    simp only [laws_markIntS.l0]
    rw [if_neg (by simp [marks_len]; omega), drop_end l i (by omega)]
    have : i = l.length := by omega
    subst this
    simp
  | d + 1, i, k, h, hk => by
    obtain ⟨k, rfl⟩ := succ_of (k := k) (by omega)
    simp only [laws_markIntS.l0]
    rw [if_pos (by simp [marks_len]; omega), if_pos (by omega), wrap_succ (n := l.length) (by omega) (by omega)]
    have e : (marks a i ++ l.drop i).set ((i : Int)).toNat (a + i) = marks a (i + 1) ++ l.drop (i + 1) := by
      rw [Int.toNat_natCast, List.set_append_right _ _ (by simp [marks_len])]
      rw [marks_len, Nat.sub_self, drop_rd l i (by omega), List.set_cons_zero, marks_snoc]
      simp
    rw [e, wrap64_id (by omega) (by omega), show a + (i : Int) + 1 = a + ((i + 1 : Nat) : Int) by omega]
    exact laws_markIntS_l0 l a h0 h1 d (i + 1) k (by omega) (by omega)
theorem laws_markIntS_eq (k : Nat) (l : List Int) (a : Int) (h0 : 0 ≤ a) (h1 : a + l.length ≤ 9223372036854775806) (hk : l.length < k) : laws_markIntS.f k l a = some (a + l.length, marks a l.length) := by
  unfold laws_markIntS.f
  have := laws_markIntS_l0 l a h0 h1 l.length 0 k (by omega) hk
  simpa [marks] using this
theorem laws_heldIntS_l0 (n : Nat) (a : Int) (h0 : 0 ≤ a) (h1 : a + n ≤ 9223372036854775806) : ∀ (d i k : Nat), i + d = n → d < k →
    laws_heldIntS.l0 k (marks a n) (a + i) (i : Int) = some (a + n)
  | 0, i, k, h, hk => by
    obtain ⟨k, rfl⟩ := succ_of (k := k) (by omega)
    simp only [laws_heldIntS.l0]
    rw [if_neg (by rw [marks_len]; omega)]
    congr 1
    omega
  | d + 1, i, k, h, hk => by
    obtain ⟨k, rfl⟩ := succ_of (k := k) (by omega)
    simp only [laws_heldIntS.l0]
    rw [if_pos (by rw [marks_len]; omega), if_pos (by omega), if_pos (marks_rd a n i (by omega)), wrap_succ (n := n) (by omega) (by omega), wrap64_id (by omega) (by omega), show a + (i : Int) + 1 = a + ((i + 1 : Nat) : Int) by omega]
    exact laws_heldIntS_l0 n a h0 h1 d (i + 1) k (by omega) (by omega)
theorem laws_heldIntS_eq (k : Nat) (n : Nat) (a : Int) (h0 : 0 ≤ a) (h1 : a + n ≤ 9223372036854775806) (hk : n < k) : laws_heldIntS.f k (marks a n) a = some (a + n) := by
  unfold laws_heldIntS.f
  have := laws_heldIntS_l0 n a h0 h1 n 0 k (by omega) hk
  simpa using this
theorem spec_l2Place_eq (s : Int) (r : Bool) (x : Int) : spec_l2Place.f s r x = some (road s r && inR x 0 (s - 1)) := by
  unfold spec_l2Place.f
  rw [spec_l2Road_eq, Option.bind_some]
  cases h : road s r with
  | false => simp
  | true =>
    have := road_bd h
    rw [wrap64_id (by omega) (by omega)]
    simp [spec_l1In_eq]
theorem spec_l6Starts_l0 (s : Int) (r : Bool) (l : List Int) (hl : l.length ≤ 9223372036854775807) : ∀ (d i k : Nat), i + d = min 5 l.length → 2 * d + 1 < k →
    spec_l6Starts.l0 k l (i : Int) s r = some (road s r && inR (l.length : Int) 1 4 && allIn (l.drop i) 0 (s - 1))
  | 0, i, k, h, hk => by
    obtain ⟨k, rfl⟩ := succ_of (k := k) (by omega)
    obtain ⟨k, rfl⟩ := succ_of (k := k) (by omega)
    have hf : (if (i : Int) < (l.length : Int) then spec_l6Starts.j1 (k + 1) l (i : Int) (decide ((i : Int) ≤ 4)) s r else spec_l6Starts.j1 (k + 1) l (i : Int) false s r) = spec_l6Starts.j1 (k + 1) l (i : Int) false s r := by
      by_cases c : (i : Int) < (l.length : Int)
      · rw [if_pos c, decide_eq_false (by omega)]
      · rw [if_neg c]
    simp only [spec_l6Starts.l0]
    rw [hf]
    simp only [spec_l6Starts.j1]
    rw [if_neg (by simp), spec_l2Road_eq, Option.bind_some]
    cases hr : road s r with
    | false => simp
    | true =>
      rw [if_pos rfl, spec_l1In_eq, Option.bind_some, Bool.true_and]
      by_cases c : l.length ≤ 5
      · rw [drop_end l i (by omega)]
        simp [allIn]
      · have : inR (l.length : Int) 1 4 = false := inR_not.2 (by omega)
        simp [this]
  | d + 1, i, k, h, hk => by
    obtain ⟨k, rfl⟩ := succ_of (k := k) (by omega)
    obtain ⟨k, rfl⟩ := succ_of (k := k) (by omega)
    simp only [spec_l6Starts.l0]
    rw [if_pos (by omega), decide_eq_true (by omega)]
    simp only [spec_l6Starts.j1]
    rw [if_pos trivial, if_pos (by omega), if_pos (by omega), spec_l2Place_eq, Option.bind_some, drop_rd l i (by omega), wrap_succ (n := l.length) (by omega) hl, spec_l6Starts_l0 s r l hl d (i + 1) k (by omega) (by omega)]
    unfold allIn
    rw [List.all_cons]
    cases road s r <;> cases inR (rd l (i : Int)) 0 (s - 1) <;> simp
theorem spec_l6Starts_eq (k : Nat) (s : Int) (r : Bool) (l : List Int) (hl : l.length ≤ 9223372036854775807) (hk : 12 < k) :
    spec_l6Starts.f k s r l = some (road s r && inR (l.length : Int) 1 4 && allIn l 0 (s - 1)) := by
  unfold spec_l6Starts.f
  have := spec_l6Starts_l0 s r l hl (min 5 l.length) 0 k (by omega) (by omega)
  simpa using this
theorem impl_Road_areExplorers_eq (k : Nat) (s : Int) (r : Bool) (l : List Int) (hs : road s r = true) (hl : l.length ≤ 9223372036854775807) (hk : l.length < k) :
    impl_Road_areExplorers.f k s r l = some (inR (l.length : Int) 1 4 && allIn l 0 (s - 1)) := by
  unfold impl_Road_areExplorers.f
  rw [impl_within_eq, Option.bind_some, impl_Road_hasN k s r l hs hl hk]
  cases inR (l.length : Int) 1 4 <;> simp
def runL (s x : Int) (n : Nat) : List Int := (List.range n).map (fun (i : Nat) => Int.tmod (x + i) s)
theorem runL_snoc (s x : Int) (n : Nat) : runL s x (n + 1) = runL s x n ++ [Int.tmod (x + n) s] := by unfold runL; rw [List.range_succ]; simp
theorem runL_len (s x : Int) (n : Nat) : (runL s x n).length = n := by simp [runL]
def fits (s : Int) (r : Bool) (x n : Int) : Bool := inR x 0 (s - 1) && inR n 0 s && (r || decide (x + n ≤ s))
theorem spec_l6Run_l0 (s : Int) (r : Bool) (x : Int) (n : Nat) (hs : 2 ≤ s ∧ s ≤ 24) (hx : 0 ≤ x ∧ x ≤ 1000) (hn : n ≤ 1000) : ∀ (d i k : Nat), i + d = n → d < k →
    spec_l6Run.l0 k x (n : Int) (runL s x i) (i : Int) s r = some (runL s x n)
  | 0, i, k, h, hk => by
    obtain ⟨k, rfl⟩ := succ_of (k := k) (by omega)
    simp only [spec_l6Run.l0]
    rw [if_neg (by omega), show i = n by omega]
  | d + 1, i, k, h, hk => by
    obtain ⟨k, rfl⟩ := succ_of (k := k) (by omega)
    simp only [spec_l6Run.l0]
    rw [if_pos (by omega), if_neg (by omega), if_pos (by rw [runL_len]; omega), wrap64_id (x := x + i) (by omega) (by omega), wrap_succ (n := n) (by omega) (by omega), ← runL_snoc]
    exact spec_l6Run_l0 s r x n hs hx hn d (i + 1) k (by omega) (by omega)
theorem spec_l6Run_eq (k : Nat) (s : Int) (r : Bool) (x n : Int) (hs : 2 ≤ s ∧ s ≤ 24) (hx : 0 ≤ x ∧ x ≤ 1000) (hn : 0 ≤ n ∧ n ≤ 1000) (hk : n.toNat < k) : spec_l6Run.f k s r x n = some (runL s x n.toNat) := by
  unfold spec_l6Run.f
  have := spec_l6Run_l0 s r x n.toNat hs hx (by omega) n.toNat 0 k (by omega) hk
  rw [Int.toNat_of_nonneg hn.1] at this
  simpa [runL] using this
theorem impl_Road_run_l0 (s : Int) (r : Bool) (x : Int) (n : Nat) (hs : 2 ≤ s ∧ s ≤ 24) (hx : 0 ≤ x ∧ x ≤ 1000) (hn : n ≤ 1000) : ∀ (d i k : Nat), i + d = n → d < k →
    impl_Road_run.l0 k x (runL s x i) (n : Int) (i : Int) s r = some (runL s x n)
  | 0, i, k, h, hk => by
    obtain ⟨k, rfl⟩ := succ_of (k := k) (by omega)
    simp only [impl_Road_run.l0]
    rw [if_neg (by omega), show i = n by omega]
  | d + 1, i, k, h, hk => by
    obtain ⟨k, rfl⟩ := succ_of (k := k) (by omega)
    simp only [impl_Road_run.l0]
    rw [if_pos (by omega), if_neg (by omega), if_pos (by rw [runL_len]; omega), wrap64_id (x := x + i) (by omega) (by omega), wrap_succ (n := n) (by omega) (by omega), ← runL_snoc]
    exact impl_Road_run_l0 s r x n hs hx hn d (i + 1) k (by omega) (by omega)
theorem impl_Road_run_eq (k : Nat) (s : Int) (r : Bool) (x n : Int) (hs : 2 ≤ s ∧ s ≤ 24) (hx : 0 ≤ x ∧ x ≤ 1000) (hn : 0 ≤ n ∧ n ≤ 1000) (hk : n.toNat < k) : impl_Road_run.f k s r x n = some (runL s x n.toNat) := by
  unfold impl_Road_run.f
  have := impl_Road_run_l0 s r x n.toNat hs hx (by omega) n.toNat 0 k (by omega) hk
  rw [Int.toNat_of_nonneg hn.1] at this
  simpa [runL] using this
theorem impl_Road_isRun_eq (k : Nat) (s : Int) (r : Bool) (x n : Int) (hr : road s r = true) (hk : 1 < k) : impl_Road_isRun.f k s r x n = some (fits s r x n) := by
  unfold impl_Road_isRun.f fits
  rw [impl_Road_has1 k s r x hr hk, Option.bind_some]
  have := road_bd hr
  cases hx : inR x 0 (s - 1) with
  | false => simp
  | true =>
    have hx := inR_iff.1 hx
    rw [impl_within_eq]
    cases hn : inR n 0 s with
    | false => simp
    | true =>
      have hn := inR_iff.1 hn
      rw [wrap64_id (x := x + n) (by omega) (by omega)]
      cases r <;> simp
def lo2 (a b : Int) : Int := if a < b then a else b
theorem spec_l1Least_eq (a b : Int) : spec_l1Least.f a b = some (lo2 a b) := by unfold spec_l1Least.f lo2; split <;> rfl
def hi2 (a b : Int) : Int := if b < a then a else b
theorem spec_l1Most_eq (a b : Int) : spec_l1Most.f a b = some (hi2 a b) := by unfold spec_l1Most.f hi2; by_cases h : b < a <;> simp [h]
theorem spec_l1Has_l0 (x : Int) (l : List Int) (hl : l.length ≤ 9223372036854775807) : ∀ (d i k : Nat), i + d = l.length → d < k → spec_l1Has.l0 k l x (i : Int) = some ((l.drop i).any fun y => decide (y = x))
  | 0, i, k, h, hk => by
    obtain ⟨k, rfl⟩ := succ_of (k := k) (by omega)
    simp only [spec_l1Has.l0]
    rw [if_neg (by omega), drop_end l i (by omega)]
    rfl
  | d + 1, i, k, h, hk => by
    obtain ⟨k, rfl⟩ := succ_of (k := k) (by omega)
    simp only [spec_l1Has.l0]
    rw [if_pos (by omega), if_pos (by omega), drop_rd l i (by omega), List.any_cons]
    by_cases c : rd l (i : Int) = x
    · rw [if_pos c, decide_eq_true c]
      rfl
    · rw [if_neg c, decide_eq_false c, Bool.false_or, wrap_succ (n := l.length) (by omega) hl]
      exact spec_l1Has_l0 x l hl d (i + 1) k (by omega) (by omega)
theorem spec_l1Has_eq (k : Nat) (x : Int) (l : List Int) (hl : l.length ≤ 9223372036854775807) (hk : l.length < k) : spec_l1Has.f k l x = some (l.any fun y => decide (y = x)) := by
  unfold spec_l1Has.f
  exact spec_l1Has_l0 x l hl l.length 0 k (by omega) hk
theorem le_foldMin {β : Type} (f : β → Int) (x : Int) : ∀ (l : List β) (b : Int), x ≤ l.foldl (fun b i => min b (f i)) b ↔ x ≤ b ∧ ∀ i ∈ l, x ≤ f i
  | [], b => by simp
  | a :: l, b => by
    rw [List.foldl_cons, le_foldMin f x l, List.forall_mem_cons, Int.le_min, and_assoc]
theorem foldMax_le {β : Type} (f : β → Int) (x : Int) : ∀ (l : List β) (b : Int), l.foldl (fun b i => max b (f i)) b ≤ x ↔ b ≤ x ∧ ∀ i ∈ l, f i ≤ x
  | [], b => by simp
  | a :: l, b => by
    rw [List.foldl_cons, foldMax_le f x l, List.forall_mem_cons, Int.max_le, and_assoc]
theorem foldMax_perm {β : Type} (f : β → Int) {l l' : List β} (h : ∀ i, i ∈ l ↔ i ∈ l') (b : Int) : l.foldl (fun b i => max b (f i)) b = l'.foldl (fun b i => max b (f i)) b := by
  apply Int.le_antisymm
  · rw [foldMax_le]
    have := (foldMax_le f _ l' b).1 (Int.le_refl _)
    exact ⟨this.1, fun i hi => this.2 i ((h i).1 hi)⟩
  · rw [foldMax_le]
    have := (foldMax_le f _ l b).1 (Int.le_refl _)
    exact ⟨this.1, fun i hi => this.2 i ((h i).2 hi)⟩
/-- How far one goes to the left where one goes so far to the right. -/
def leftAt (s : Int) (fs : List Int) (right : Int) : Int := fs.foldl (fun m f => max m (if right < f then s - f else 0)) 0
theorem leftAt_nn (s : Int) (fs : List Int) (right : Int) : 0 ≤ leftAt s fs right := ((foldMax_le _ _ fs 0).1 (Int.le_refl _)).1
theorem leftAt_ge {s : Int} {fs : List Int} {right f : Int} (hf : f ∈ fs) (h : right < f) : s - f ≤ leftAt s fs right := by
  have := ((foldMax_le (fun f => if right < f then s - f else 0) _ fs 0).1 (Int.le_refl _)).2 f hf
  rw [if_pos h] at this
  exact this
theorem leftAt_le {s : Int} {fs : List Int} {right x : Int} (h0 : 0 ≤ x) (h : ∀ f ∈ fs, right < f → s - f ≤ x) : leftAt s fs right ≤ x := by
  unfold leftAt
  rw [foldMax_le]
  refine ⟨h0, fun f hf => ?_⟩
  by_cases c : right < f
  · rw [if_pos c]; exact h f hf c
  · rw [if_neg c]; exact h0
/-- The least over all ways to the right. -/
def bestTo (s : Int) (c : Int → Int → Int) (fs : List Int) : Int := (List.range s.toNat).foldl (fun (b : Int) (i : Nat) => min b (c (leftAt s fs (i : Int)) (i : Int))) s
def upK (us : List Int) (k : Nat) : Int := if 0 < k then rd us ((k : Int) - 1) else 0
def downK (s : Int) (us : List Int) (k : Nat) : Int := if k < us.length then s - rd us (k : Int) else 0
/-- The least over all splits of the places in order. -/
def bestSp (s : Int) (c : Int → Int → Int) (us : List Int) (b0 : Int) : Int := (List.range (us.length + 1)).foldl (fun (b : Int) (k : Nat) => min b (c (downK s us k) (upK us k))) b0
theorem rd_nat (l : List Int) (i : Nat) (h : i < l.length) : rd l (i : Int) = l[i] := by
  unfold rd
  simp [List.getD_eq_getElem?_getD, h]
/-- Where a number parts a list in order. -/
theorem part_at (x : Int) : ∀ (us : List Int), us.Pairwise (· ≤ ·) → ∃ k, k ≤ us.length ∧ (∀ j (h : j < us.length), j < k → us[j] ≤ x) ∧ (∀ j (h : j < us.length), k ≤ j → x < us[j])
  | [], _ => ⟨0, by simp, fun j h => by simp at h, fun j h => by simp at h⟩
  | u :: us, hp => by
    rw [List.pairwise_cons] at hp
    by_cases c : u ≤ x
    · obtain ⟨k, hk, h1, h2⟩ := part_at x us hp.2
      refine ⟨k + 1, by simpa using hk, fun j h hj => ?_, fun j h hj => ?_⟩
      · cases j with
        | zero => exact c
        | succ j => exact h1 j (by simpa using h) (by omega)
      · cases j with
        | zero => omega
        | succ j => exact h2 j (by simpa using h) (by omega)
    · refine ⟨0, Nat.zero_le _, fun j h hj => by omega, fun j h _ => ?_⟩
      cases j with
      | zero => simpa using (by omega : x < u)
      | succ j =>
        have hj : j < us.length := by simpa using h
        have := hp.1 us[j] (List.getElem_mem hj)
        simp only [List.getElem_cons_succ]
        omega
theorem best_split (s : Int) (c : Int → Int → Int) (fs us : List Int) (b0 : Int) (hs : 2 ≤ s) (hf : ∀ f ∈ fs, 0 ≤ f ∧ f < s) (hu : ∀ u, u ∈ us ↔ u ∈ fs ∧ u ≠ 0) (hp : us.Pairwise (· ≤ ·))
    (hc : ∀ a b a' b', 0 ≤ a → 0 ≤ b → a ≤ a' → b ≤ b' → c a b ≤ c a' b') (hb : s ≤ b0) (hz : b0 = s ∨ ∀ d, 0 ≤ d → d ≤ s → c d 0 ≤ s) : bestSp s c us b0 = bestTo s c fs := by
  have hup : ∀ k, k ≤ us.length → 0 ≤ upK us k ∧ upK us k < s := by
    intro k hk
    unfold upK
    by_cases h : 0 < k
    · rw [if_pos h, show ((k : Int) - 1) = ((k - 1 : Nat) : Int) by omega, rd_nat us (k - 1) (by omega)]
      exact hf _ ((hu _).1 (List.getElem_mem _)).1
    · rw [if_neg h]; omega
  have hdn : ∀ k, 0 ≤ downK s us k ∧ downK s us k ≤ s := by
    intro k
    unfold downK
    by_cases h : k < us.length
    · rw [if_pos h, rd_nat us k h]
      have := hf _ ((hu _).1 (List.getElem_mem h)).1
      omega
    · rw [if_neg h]; omega
  have hmono : ∀ i j (hi : i < us.length) (hj : j < us.length), i ≤ j → us[i] ≤ us[j] := by
    intro i j hi hj hij
    rcases Nat.lt_or_ge i j with h | h
    · exact List.pairwise_iff_getElem.1 hp i j hi hj h
    · have : i = j := by omega
      subst this
      exact Int.le_refl _
  apply Int.le_antisymm
  · -- the splits' least is no more
    unfold bestTo
    have H := (le_foldMin (fun k => c (downK s us k) (upK us k)) (bestSp s c us b0) (List.range (us.length + 1)) b0).1 (Int.le_refl _)
    rw [le_foldMin]
    constructor
    · rcases hz with rfl | hz
      · exact H.1
      · have h0 := H.2 0 (List.mem_range.2 (by omega))
        have := hz (downK s us 0) (hdn 0).1 (hdn 0).2
        have hu0 : upK us 0 = 0 := rfl
        rw [hu0] at h0
        omega
    · intro i hi
      obtain ⟨k, hk, h1, h2⟩ := part_at (i : Int) us hp
      have h3 := H.2 k (List.mem_range.2 (by omega))
      refine Int.le_trans h3 (hc _ _ _ _ (hdn k).1 (hup k hk).1 ?_ ?_)
      · unfold downK
        by_cases h : k < us.length
        · rw [if_pos h, rd_nat us k h]
          exact leftAt_ge ((hu _).1 (List.getElem_mem h)).1 (h2 k h (Nat.le_refl _))
        · rw [if_neg h]; exact leftAt_nn _ _ _
      · unfold upK
        by_cases h : 0 < k
        · rw [if_pos h, show ((k : Int) - 1) = ((k - 1 : Nat) : Int) by omega, rd_nat us (k - 1) (by omega)]
          exact h1 (k - 1) (by omega) (by omega)
        · rw [if_neg h]; omega
  · unfold bestSp
    have H := (le_foldMin (fun i : Nat => c (leftAt s fs (i : Int)) (i : Int)) (bestTo s c fs) (List.range s.toNat) s).1 (Int.le_refl _)
    rw [le_foldMin]
    refine ⟨Int.le_trans H.1 hb, fun k hk => ?_⟩
    have hk := List.mem_range.1 hk
    obtain ⟨u, hu0⟩ := Int.eq_ofNat_of_zero_le (hup k (by omega)).1
    have hlt := (hup k (by omega)).2
    have h3 := H.2 u (List.mem_range.2 (by omega))
    rw [← hu0] at h3
    refine Int.le_trans h3 (hc _ _ _ _ (leftAt_nn _ _ _) (hup k (by omega)).1 (leftAt_le (hdn k).1 (fun f hf1 hf2 => ?_)) (Int.le_refl _))
    have hfu : f ∈ us := (hu f).2 ⟨hf1, by have := (hup k (by omega)).1; omega⟩
    obtain ⟨j, hj, rfl⟩ := List.getElem_of_mem hfu
    have hkj : k ≤ j := by
      rcases Nat.lt_or_ge j k with h | h
      · exfalso
        have := hmono j (k - 1) hj (by omega) (by omega)
        unfold upK at hf2
        rw [if_pos (by omega), show ((k : Int) - 1) = ((k - 1 : Nat) : Int) by omega, rd_nat us (k - 1) (by omega)] at hf2
        omega
      · exact h
    unfold downK
    rw [if_pos (by omega), rd_nat us k (by omega)]
    have := hmono k j (by omega) hj hkj
    omega
theorem hi2_max (a b : Int) : hi2 a b = max a b := by unfold hi2; split <;> omega
theorem lo2_min (a b : Int) : lo2 a b = min a b := by unfold lo2; split <;> omega
theorem mx_max (a b : Int) : mx a b = max a b := by unfold mx; split <;> omega
theorem mn_min (a b : Int) : mn a b = min a b := by unfold mn; split <;> omega
theorem rd_all {P : Int → Prop} {l : List Int} (hx : ∀ x ∈ l, P x) (i : Nat) (h : i < l.length) : P (rd l (i : Int)) := by
  rw [rd_nat l i h]
  exact hx _ (List.getElem_mem h)
def upRing (s p q : Int) : Int := Int.tmod (q - p + s) s
theorem upRing_bd {s p q : Int} (hs : 2 ≤ s) (hp : 0 ≤ p ∧ p ≤ s - 1) (hq : 0 ≤ q ∧ q ≤ s - 1) : 0 ≤ upRing s p q ∧ upRing s p q < s := by
  unfold upRing
  rw [Int.tmod_eq_emod_of_nonneg (by omega)]
  exact ⟨Int.emod_nonneg _ (by omega), Int.emod_lt_of_pos _ (by omega)⟩
def costT (a b : Int) : Int := a + b + min a b
def costB (a b : Int) : Int := 2 * (a + b)
theorem costT_mono : ∀ a b a' b' : Int, 0 ≤ a → 0 ≤ b → a ≤ a' → b ≤ b' → costT a b ≤ costT a' b' := by
  intro a b a' b' _ _ _ _
  unfold costT
  omega
theorem costB_mono : ∀ a b a' b' : Int, 0 ≤ a → 0 ≤ b → a ≤ a' → b ≤ b' → costB a b ≤ costB a' b' := by
  intro a b a' b' _ _ _ _
  unfold costB
  omega
/-- Where the line's places lead to: left and right. -/
def leftL (p : Int) (l : List Int) (a : Int) : Int := l.foldl (fun m q => max m (p - q)) a
def rightL (p : Int) (l : List Int) (a : Int) : Int := l.foldl (fun m q => max m (q - p)) a
/-- The least time of a way through places: on a ring over all ways to the right. -/
def wayM (c : Int → Int → Int) (s : Int) (r : Bool) (p : Int) (l : List Int) : Int := if r = true then bestTo s c (l.map (upRing s p)) else c (leftL p l 0) (rightL p l 0)
def lfF (s p right : Int) (m q : Int) : Int := max m (if right < upRing s p q then s - upRing s p q else 0)
theorem leftAt_map (s p right : Int) (l : List Int) : leftAt s (l.map (upRing s p)) right = l.foldl (lfF s p right) 0 := by
  unfold leftAt
  rw [List.foldl_map]
  rfl
def bestR (s : Int) (c : Int → Int → Int) (p : Int) (l : List Int) (i d : Nat) (b : Int) : Int := (List.range' i d).foldl (fun (b : Int) (i : Nat) => min b (c (l.foldl (lfF s p (i : Int)) 0) (i : Int))) b
theorem bestR_succ (s : Int) (c : Int → Int → Int) (p : Int) (l : List Int) (i d : Nat) (b : Int) : bestR s c p l i (d + 1) b = bestR s c p l (i + 1) d (min b (c (l.foldl (lfF s p (i : Int)) 0) (i : Int))) := by
  unfold bestR
  rw [List.range'_succ, List.foldl_cons]
theorem bestR_all (s : Int) (c : Int → Int → Int) (p : Int) (l : List Int) : bestR s c p l 0 s.toNat s = bestTo s c (l.map (upRing s p)) := by
  unfold bestR bestTo
  rw [List.range_eq_range']
  congr 1
  funext b i
  rw [leftAt_map]
def bestK (s : Int) (c : Int → Int → Int) (us : List Int) (i d : Nat) (b : Int) : Int := (List.range' i d).foldl (fun (b : Int) (k : Nat) => min b (c (downK s us k) (upK us k))) b
theorem bestK_succ (s : Int) (c : Int → Int → Int) (us : List Int) (i d : Nat) (b : Int) : bestK s c us i (d + 1) b = bestK s c us (i + 1) d (min b (c (downK s us i) (upK us i))) := by
  unfold bestK
  rw [List.range'_succ, List.foldl_cons]
theorem bestK_all (s : Int) (c : Int → Int → Int) (us : List Int) (b : Int) : bestK s c us 0 (us.length + 1) b = bestSp s c us b := by
  unfold bestK bestSp
  rw [List.range_eq_range']
theorem spec_l2Far_eq (s : Int) (r : Bool) (p q : Int) (hs : 2 ≤ s ∧ s ≤ 24) (hp : 0 ≤ p ∧ p ≤ s - 1) (hq : 0 ≤ q ∧ q ≤ s - 1) : spec_l2Far.f s r p q = some (upRing s p q) := by
  unfold spec_l2Far.f upRing
  rw [if_neg (by omega), wrap64_id (x := q - p) (by omega) (by omega), wrap64_id (x := q - p + s) (by omega) (by omega)]
theorem spec_l2Tour_eq (a b : Int) (ha : 0 ≤ a ∧ a ≤ 1000) (hb : 0 ≤ b ∧ b ≤ 1000) : spec_l2Tour.f a b = some (costT a b) := by
  unfold spec_l2Tour.f costT
  rw [spec_l1Least_eq, Option.bind_some, lo2_min, wrap64_id (x := a + b) (by omega) (by omega), wrap64_id (by omega) (by omega)]
theorem spec_l6Back_l0 (p : Int) (l : List Int) (hp : 0 ≤ p ∧ p ≤ 23) (hl : l.length ≤ 1048576) (hx : ∀ x ∈ l, 0 ≤ x ∧ x ≤ 23) : ∀ (d i k : Nat) (a b : Int), i + d = l.length → 0 ≤ a ∧ a ≤ 23 → 0 ≤ b ∧ b ≤ 23 → d < k →
    spec_l6Back.l0 k p l a b (i : Int) = some (costB (leftL p (l.drop i) a) (rightL p (l.drop i) b))
  | 0, i, k, a, b, h, ha, hb, hk => by
    obtain ⟨k, rfl⟩ := succ_of (k := k) (by omega)
    simp only [spec_l6Back.l0]
    rw [if_neg (by omega), drop_end l i (by omega), wrap64_id (x := a + b) (by omega) (by omega), wrap64_id (by omega) (by omega)]
    rfl
  | d + 1, i, k, a, b, h, ha, hb, hk => by
    obtain ⟨k, rfl⟩ := succ_of (k := k) (by omega)
    have hq := rd_all hx i (by omega)
    simp only [spec_l6Back.l0]
    rw [if_pos (by omega), if_pos (by omega), wrap64_id (x := p - _) (by omega) (by omega), wrap64_id (x := _ - p) (by omega) (by omega), spec_l1Most_eq, Option.bind_some, spec_l1Most_eq, Option.bind_some, hi2_max, hi2_max, wrap_succ (n := l.length) (by omega) (by omega), spec_l6Back_l0 p l hp hl hx d (i + 1) k _ _ (by omega) (by omega) (by omega) (by omega), drop_rd l i (by omega)]
    rfl
theorem spec_l6Back_l2 (s : Int) (r : Bool) (p : Int) (l : List Int) (hs : 2 ≤ s ∧ s ≤ 24) (hp : 0 ≤ p ∧ p ≤ s - 1) (hl : l.length ≤ 1048576) (hx : ∀ x ∈ l, 0 ≤ x ∧ x ≤ s - 1) (best right : Int) (hr : 0 ≤ right ∧ right < s) : ∀ (d i k : Nat) (a : Int), i + d = l.length → 0 ≤ a ∧ a ≤ s →
    spec_l6Back.l2 (k + d + 1) p l best right a (i : Int) s r = spec_l6Back.l1 k p l (min best (costB ((l.drop i).foldl (lfF s p right) a) right)) (wrap64 (right + 1)) s r
  | 0, i, k, a, h, ha => by
    simp only [spec_l6Back.l2]
    rw [if_neg (by omega), drop_end l i (by omega), wrap64_id (x := a + right) (by omega) (by omega), wrap64_id (x := 2 * _) (by omega) (by omega), spec_l1Least_eq, Option.bind_some, lo2_min]
    rfl
  | d + 1, i, k, a, h, ha => by
    have hq := rd_all hx i (by omega)
    have hf := upRing_bd hs.1 hp hq
    have ih := spec_l6Back_l2 s r p l hs hp hl hx best right hr d (i + 1) k
    obtain ⟨m, hm⟩ : ∃ m, m = k + d + 1 := ⟨_, rfl⟩
    simp only [← hm] at ih
    rw [show k + (d + 1) + 1 = m + 1 by omega]
    simp only [spec_l6Back.l2]
    rw [if_pos (by omega), if_pos (by omega), spec_l2Far_eq s r p _ hs hp hq, Option.bind_some, wrap_succ (n := l.length) (by omega) (by omega), drop_rd l i (by omega), List.foldl_cons]
    by_cases c : upRing s p (rd l (i : Int)) > right
    · rw [if_pos c, wrap64_id (x := s - _) (by omega) (by omega), spec_l1Most_eq, Option.bind_some, hi2_max]
      have e := ih (max a (s - upRing s p (rd l (i : Int)))) (by omega) (by omega)
      rw [e]
      unfold lfF
      rw [if_pos (show right < upRing s p (rd l (i : Int)) from c)]
    · rw [if_neg c]
      have e := ih a (by omega) ha
      rw [e]
      have : lfF s p right a (rd l (i : Int)) = a := by
        unfold lfF
        rw [if_neg (show ¬ right < upRing s p (rd l (i : Int)) from c)]
        omega
      rw [this]
theorem spec_l6Back_l1 (s : Int) (r : Bool) (p : Int) (l : List Int) (hs : 2 ≤ s ∧ s ≤ 24) (hp : 0 ≤ p ∧ p ≤ s - 1) (hl : l.length ≤ 1048576) (hx : ∀ x ∈ l, 0 ≤ x ∧ x ≤ s - 1) : ∀ (d i k : Nat) (best : Int), i + d = s.toNat → d * (l.length + 2) < k →
    spec_l6Back.l1 k p l best (i : Int) s r = some (bestR s costB p l i d best)
  | 0, i, k, best, h, hk => by
    obtain ⟨k, rfl⟩ := succ_of (k := k) (by omega)
    simp only [spec_l6Back.l1]
    rw [if_neg (by omega)]
    rfl
  | d + 1, i, k, best, h, hk => by
    have hm : (d + 1) * (l.length + 2) = d * (l.length + 2) + l.length + 2 := by rw [Nat.succ_mul]; omega
    rw [hm] at hk
    obtain ⟨k, rfl⟩ : ∃ k', k = k' + l.length + 1 + 1 := ⟨k - l.length - 2, by omega⟩
    simp only [spec_l6Back.l1]
    rw [if_pos (by omega)]
    have e := spec_l6Back_l2 s r p l hs hp hl hx best (i : Int) (by omega) l.length 0 k 0 (by omega) (by omega)
    rw [show ((0 : Nat) : Int) = 0 from rfl, List.drop_zero] at e
    rw [e, wrap_succ (n := s.toNat) (by omega) (by omega), spec_l6Back_l1 s r p l hs hp hl hx d (i + 1) k _ (by omega) (by omega), bestR_succ]
theorem spec_l6Back_eq (k : Nat) (s : Int) (r : Bool) (p : Int) (l : List Int) (hs : 2 ≤ s ∧ s ≤ 24) (hp : 0 ≤ p ∧ p ≤ s - 1) (hl : l.length ≤ 100) (hx : ∀ x ∈ l, 0 ≤ x ∧ x ≤ s - 1) (hk : 10000 < k) : spec_l6Back.f k s r p l = some (wayM costB s r p l) := by
  unfold spec_l6Back.f wayM
  cases r with
  | true =>
    have h1 : s.toNat * (l.length + 2) ≤ 24 * 102 := Nat.mul_le_mul (by omega) (by omega)
    have e := spec_l6Back_l1 s true p l hs hp (by omega) hx s.toNat 0 k s (by omega) (by omega)
    rw [show ((0 : Nat) : Int) = 0 from rfl] at e
    simp only [if_true]
    rw [e, bestR_all]
  | false =>
    have e := spec_l6Back_l0 p l (by omega) (by omega) (fun x h => by have := hx x h; omega) l.length 0 k 0 0 (by omega) (by omega) (by omega) (by omega)
    rw [show ((0 : Nat) : Int) = 0 from rfl, List.drop_zero] at e
    rw [if_neg (by simp), if_neg (by simp), e]
theorem spec_TourTime_l1 (p : Int) (l : List Int) (hp : 0 ≤ p ∧ p ≤ 23) (hl : l.length ≤ 1048576) (hx : ∀ x ∈ l, 0 ≤ x ∧ x ≤ 23) : ∀ (d i k : Nat) (a b : Int), i + d = l.length → 0 ≤ a ∧ a ≤ 23 → 0 ≤ b ∧ b ≤ 23 → d < k →
    spec_TourTime.l1 k p l a b (i : Int) = some (costT (leftL p (l.drop i) a) (rightL p (l.drop i) b), true)
  | 0, i, k, a, b, h, ha, hb, hk => by
    obtain ⟨k, rfl⟩ := succ_of (k := k) (by omega)
    simp only [spec_TourTime.l1]
    rw [if_neg (by omega), drop_end l i (by omega), spec_l2Tour_eq a b (by omega) (by omega), Option.bind_some]
    rfl
  | d + 1, i, k, a, b, h, ha, hb, hk => by
    obtain ⟨k, rfl⟩ := succ_of (k := k) (by omega)
    have hq := rd_all hx i (by omega)
    simp only [spec_TourTime.l1]
    rw [if_pos (by omega), if_pos (by omega), wrap64_id (x := p - _) (by omega) (by omega), wrap64_id (x := _ - p) (by omega) (by omega), spec_l1Most_eq, Option.bind_some, spec_l1Most_eq, Option.bind_some, hi2_max, hi2_max, wrap_succ (n := l.length) (by omega) (by omega), spec_TourTime_l1 p l hp hl hx d (i + 1) k _ _ (by omega) (by omega) (by omega) (by omega), drop_rd l i (by omega)]
    rfl
theorem spec_TourTime_l3 (s : Int) (r : Bool) (p : Int) (l : List Int) (hs : 2 ≤ s ∧ s ≤ 24) (hp : 0 ≤ p ∧ p ≤ s - 1) (hl : l.length ≤ 1048576) (hx : ∀ x ∈ l, 0 ≤ x ∧ x ≤ s - 1) (best right : Int) (hr : 0 ≤ right ∧ right < s) : ∀ (d i k : Nat) (a : Int), i + d = l.length → 0 ≤ a ∧ a ≤ s →
    spec_TourTime.l3 (k + d + 1) p l best right a (i : Int) s r = spec_TourTime.l2 k p l (min best (costT ((l.drop i).foldl (lfF s p right) a) right)) (wrap64 (right + 1)) s r
  | 0, i, k, a, h, ha => by
    simp only [spec_TourTime.l3]
    rw [if_neg (by omega), drop_end l i (by omega), spec_l2Tour_eq a right (by omega) (by omega), Option.bind_some, spec_l1Least_eq, Option.bind_some, lo2_min]
    rfl
  | d + 1, i, k, a, h, ha => by
    have hq := rd_all hx i (by omega)
    have hf := upRing_bd hs.1 hp hq
    have ih := spec_TourTime_l3 s r p l hs hp hl hx best right hr d (i + 1) k
    obtain ⟨m, hm⟩ : ∃ m, m = k + d + 1 := ⟨_, rfl⟩
    simp only [← hm] at ih
    rw [show k + (d + 1) + 1 = m + 1 by omega]
    simp only [spec_TourTime.l3]
    rw [if_pos (by omega), if_pos (by omega), spec_l2Far_eq s r p _ hs hp hq, Option.bind_some, wrap_succ (n := l.length) (by omega) (by omega), drop_rd l i (by omega), List.foldl_cons]
    by_cases c : upRing s p (rd l (i : Int)) > right
    · rw [if_pos c, wrap64_id (x := s - _) (by omega) (by omega), spec_l1Most_eq, Option.bind_some, hi2_max]
      have e := ih (max a (s - upRing s p (rd l (i : Int)))) (by omega) (by omega)
      rw [e]
      unfold lfF
      rw [if_pos (show right < upRing s p (rd l (i : Int)) from c)]
    · rw [if_neg c]
      have e := ih a (by omega) ha
      rw [e]
      have : lfF s p right a (rd l (i : Int)) = a := by
        unfold lfF
        rw [if_neg (show ¬ right < upRing s p (rd l (i : Int)) from c)]
        omega
      rw [this]
theorem spec_TourTime_l2 (s : Int) (r : Bool) (p : Int) (l : List Int) (hs : 2 ≤ s ∧ s ≤ 24) (hp : 0 ≤ p ∧ p ≤ s - 1) (hl : l.length ≤ 1048576) (hx : ∀ x ∈ l, 0 ≤ x ∧ x ≤ s - 1) : ∀ (d i k : Nat) (best : Int), i + d = s.toNat → d * (l.length + 2) < k →
    spec_TourTime.l2 k p l best (i : Int) s r = some (bestR s costT p l i d best, true)
  | 0, i, k, best, h, hk => by
    obtain ⟨k, rfl⟩ := succ_of (k := k) (by omega)
    simp only [spec_TourTime.l2]
    rw [if_neg (by omega)]
    rfl
  | d + 1, i, k, best, h, hk => by
    have hm : (d + 1) * (l.length + 2) = d * (l.length + 2) + l.length + 2 := by rw [Nat.succ_mul]; omega
    rw [hm] at hk
    obtain ⟨k, rfl⟩ : ∃ k', k = k' + l.length + 1 + 1 := ⟨k - l.length - 2, by omega⟩
    simp only [spec_TourTime.l2]
    rw [if_pos (by omega)]
    have e := spec_TourTime_l3 s r p l hs hp hl hx best (i : Int) (by omega) l.length 0 k 0 (by omega) (by omega)
    rw [show ((0 : Nat) : Int) = 0 from rfl, List.drop_zero] at e
    rw [e, wrap_succ (n := s.toNat) (by omega) (by omega), spec_TourTime_l2 s r p l hs hp hl hx d (i + 1) k _ (by omega) (by omega), bestR_succ]
theorem spec_TourTime_l0 (s : Int) (r : Bool) (p : Int) (l : List Int) (hr : road s r = true) (hp : 0 ≤ p ∧ p ≤ s - 1) (hl : l.length ≤ 1048576) : ∀ (d i k : Nat), i + d = l.length → d + 30 * (l.length + 2) < k → (∀ j, j < i → inR (rd l (j : Int)) 0 (s - 1) = true) →
    spec_TourTime.l0 k p l (i : Int) s r = some (if allIn l 0 (s - 1) = true then (wayM costT s r p l, true) else (0, false))
  | 0, i, k, h, hk, hin => by
    obtain ⟨k, rfl⟩ := succ_of (k := k) (by omega)
    have hs := road_bd hr
    have hx : ∀ x ∈ l, 0 ≤ x ∧ x ≤ s - 1 := by
      intro x hx
      obtain ⟨j, hj, rfl⟩ := List.getElem_of_mem hx
      have := inR_iff.1 (hin j (by omega))
      rw [rd_nat l j hj] at this
      exact this
    have ha : allIn l 0 (s - 1) = true := List.all_eq_true.2 (fun x h => inR_iff.2 (hx x h))
    simp only [spec_TourTime.l0]
    rw [if_neg (by omega), if_pos ha]
    unfold wayM
    cases r with
    | true =>
      have h1 : s.toNat * (l.length + 2) ≤ 24 * (l.length + 2) := Nat.mul_le_mul (by omega) (by omega)
      have e := spec_TourTime_l2 s true p l ⟨hs.1, hs.2.1⟩ hp hl hx s.toNat 0 k s (by omega) (by omega)
      rw [show ((0 : Nat) : Int) = 0 from rfl] at e
      simp only [if_true]
      rw [e, bestR_all]
    | false =>
      have e := spec_TourTime_l1 p l (by omega) hl (fun x h => by have := hx x h; omega) l.length 0 k 0 0 (by omega) (by omega) (by omega) (by omega)
      rw [show ((0 : Nat) : Int) = 0 from rfl, List.drop_zero] at e
      rw [if_neg (by simp), if_neg (by simp), e]
  | d + 1, i, k, h, hk, hin => by
    obtain ⟨k, rfl⟩ := succ_of (k := k) (by omega)
    have hs := road_bd hr
    simp only [spec_TourTime.l0]
    rw [if_pos (by omega), if_pos (by omega), spec_l2Place_eq, Option.bind_some, hr, Bool.true_and]
    by_cases c : inR (rd l (i : Int)) 0 (s - 1) = true
    · rw [if_pos c, wrap_succ (n := l.length) (by omega) (by omega)]
      exact spec_TourTime_l0 s r p l hr hp hl d (i + 1) k (by omega) (by omega) (fun j hj => by
        rcases Nat.lt_or_ge j i with h1 | h1
        · exact hin j h1
        · have : j = i := by omega
          subst this
          exact c)
    · rw [if_neg c, if_neg]
      intro ha
      have := List.all_eq_true.1 ha _ (List.getElem_mem (show i < l.length by omega))
      rw [rd_nat l i (by omega)] at c
      exact c this
theorem spec_TourTime_eq (k : Nat) (s : Int) (r : Bool) (p : Int) (l : List Int) (hl : l.length ≤ 1048576) (hk : 31 * (l.length + 2) < k) : spec_TourTime.f k s r p l = some (if (road s r && inR p 0 (s - 1) && allIn l 0 (s - 1)) = true then (wayM costT s r p l, true) else (0, false)) := by
  unfold spec_TourTime.f
  rw [spec_l2Place_eq, Option.bind_some]
  cases hr : road s r with
  | false => simp
  | true =>
    cases hp : inR p 0 (s - 1) with
    | false => simp
    | true =>
      have e := spec_TourTime_l0 s r p l hr (inR_iff.1 hp) hl l.length 0 k (by omega) (by omega) (fun j hj => by omega)
      rw [show ((0 : Nat) : Int) = 0 from rfl] at e
      simp only [Bool.and_self, if_true, Bool.true_and]
      rw [e]
def upM (s : Int) (r : Bool) (p q : Int) : Int := if r = true then upRing s p q else q - p
theorem upM_bd {s p q : Int} {r : Bool} (hs : 2 ≤ s) (hp : 0 ≤ p ∧ p ≤ s - 1) (hq : 0 ≤ q ∧ q ≤ s - 1) : -s ≤ upM s r p q ∧ upM s r p q < s := by
  unfold upM
  have := upRing_bd hs hp hq
  cases r <;> simp <;> omega
def upF (us : List Int) (a : Int) : Int := us.foldl (fun m u => max m u) a
def dnF (us : List Int) (a : Int) : Int := us.foldl (fun m u => max m (-u)) a
theorem downK_bd {s : Int} {us : List Int} (hs : 2 ≤ s) (hu : ∀ u ∈ us, 0 ≤ u ∧ u ≤ s - 1) (k : Nat) : 0 ≤ downK s us k ∧ downK s us k ≤ s := by
  unfold downK
  by_cases h : k < us.length
  · have := rd_all hu k h
    rw [if_pos h]
    omega
  · rw [if_neg h]; omega
theorem upK_bd {s : Int} {us : List Int} (hs : 2 ≤ s) (hu : ∀ u ∈ us, 0 ≤ u ∧ u ≤ s - 1) (k : Nat) (hk : k ≤ us.length) : 0 ≤ upK us k ∧ upK us k ≤ s := by
  unfold upK
  by_cases h : 0 < k
  · have := rd_all hu (k - 1) (by omega)
    rw [if_pos h, show ((k : Int) - 1) = ((k - 1 : Nat) : Int) by omega]
    omega
  · rw [if_neg h]; omega
theorem sortI_len (l : List Int) : (sortI l).length = l.length := List.length_mergeSort _
theorem sortI_mem (l : List Int) (x : Int) : x ∈ sortI l ↔ x ∈ l := (List.mergeSort_perm l _).mem_iff
theorem sortI_sorted (l : List Int) : (sortI l).Pairwise (· ≤ ·) := by
  have h := List.pairwise_mergeSort (le := fun x y : Int => decide (x ≤ y)) (fun a b c hab hbc => by simp at hab hbc ⊢; omega) (fun a b => by simp; omega) l
  exact h.imp (fun h => by simpa using h)
/-- What the places in order come to. -/
theorem ways_sorted (c : Int → Int → Int) (s : Int) (p : Int) (l : List Int) (b0 : Int) (hs : 2 ≤ s) (hp : 0 ≤ p ∧ p ≤ s - 1) (hx : ∀ x ∈ l, 0 ≤ x ∧ x ≤ s - 1)
    (hc : ∀ a b a' b', 0 ≤ a → 0 ≤ b → a ≤ a' → b ≤ b' → c a b ≤ c a' b') (hb : s ≤ b0) (hz : b0 = s ∨ ∀ d, 0 ≤ d → d ≤ s → c d 0 ≤ s) :
    bestSp s c ((sortI (l.map (upM s true p))).filter fun x => !(x == 0)) b0 = wayM c s true p l := by
  have hm : l.map (upM s true p) = l.map (upRing s p) := rfl
  unfold wayM
  rw [if_pos rfl, hm]
  refine best_split s c (l.map (upRing s p)) _ b0 hs (fun f hf => ?_) (fun u => ?_) ?_ hc hb hz
  · obtain ⟨q, hq, rfl⟩ := List.mem_map.1 hf
    exact upRing_bd hs hp (hx q hq)
  · rw [List.mem_filter, sortI_mem]
    simp
  · exact (sortI_sorted _).filter _
theorem ways_line (c : Int → Int → Int) (s p : Int) (l : List Int) : c (dnF (sortI (l.map (upM s false p))) 0) (upF (sortI (l.map (upM s false p))) 0) = wayM c s false p l := by
  unfold wayM
  rw [if_neg (by simp)]
  have h1 : dnF (sortI (l.map (upM s false p))) 0 = leftL p l 0 := by
    unfold dnF leftL
    rw [foldMax_perm (fun u => -u) (fun i => sortI_mem (l.map (upM s false p)) i), List.foldl_map]
    congr 1
    funext m q
    show max m (-(q - p)) = max m (p - q)
    rw [Int.neg_sub]
  have h2 : upF (sortI (l.map (upM s false p))) 0 = rightL p l 0 := by
    unfold upF rightL
    rw [foldMax_perm (fun u => u) (fun i => sortI_mem (l.map (upM s false p)) i), List.foldl_map]
    rfl
  rw [h1, h2]
theorem impl_Road_roundTrip_1_eq (s : Int) (r : Bool) (p q : Int) (hs : 2 ≤ s ∧ s ≤ 24) (hp : 0 ≤ p ∧ p ≤ s - 1) (hq : 0 ≤ q ∧ q ≤ s - 1) : impl_Road_roundTrip_1.f q s r p = some (upM s r p q) := by
  unfold impl_Road_roundTrip_1.f upM upRing
  rw [if_neg (show ¬ s = 0 by omega), wrap64_id (x := q - p) (by omega) (by omega), wrap64_id (x := q - p + s) (by omega) (by omega)]
  cases r <;> simp
theorem impl_mapped_roundTrip_l0 (s : Int) (r : Bool) (p : Int) (l : List Int) (hs : 2 ≤ s ∧ s ≤ 24) (hp : 0 ≤ p ∧ p ≤ s - 1) (hl : l.length ≤ 1048576) (hx : ∀ x ∈ l, 0 ≤ x ∧ x ≤ s - 1) : ∀ (d i k : Nat) (acc : List Int), i + d = l.length → acc.length ≤ i → d < k →
    impl_mapped__Road_roundTrip_1.l0 k acc l (l.length : Int) (i : Int) s r p = some (acc ++ (l.drop i).map (upM s r p))
  | 0, i, k, acc, h, ha, hk => by
    obtain ⟨k, rfl⟩ := succ_of (k := k) (by omega)
    simp only [impl_mapped__Road_roundTrip_1.l0]
    rw [if_neg (by omega), drop_end l i (by omega)]
    simp
  | d + 1, i, k, acc, h, ha, hk => by
    obtain ⟨k, rfl⟩ := succ_of (k := k) (by omega)
    have hq := rd_all hx i (by omega)
    simp only [impl_mapped__Road_roundTrip_1.l0]
    rw [if_pos (by omega), if_pos (by omega), if_pos (by omega), impl_Road_roundTrip_1_eq s r p _ hs hp hq, Option.bind_some, if_pos (by omega), wrap_succ (n := l.length) (by omega) (by omega), impl_mapped_roundTrip_l0 s r p l hs hp hl hx d (i + 1) k _ (by omega) (by simp; omega) (by omega), drop_rd l i (by omega)]
    simp
theorem impl_mapped_roundTrip_eq (k : Nat) (s : Int) (r : Bool) (p : Int) (l : List Int) (hs : 2 ≤ s ∧ s ≤ 24) (hp : 0 ≤ p ∧ p ≤ s - 1) (hl : l.length ≤ 1048576) (hx : ∀ x ∈ l, 0 ≤ x ∧ x ≤ s - 1) (hk : l.length < k) : impl_mapped__Road_roundTrip_1.f k l s r p = some (l.map (upM s r p)) := by
  unfold impl_mapped__Road_roundTrip_1.f
  have := impl_mapped_roundTrip_l0 s r p l hs hp hl hx l.length 0 k [] (by omega) (by simp) hk
  simpa using this
theorem impl_Road_roundTrip_l0 (us : List Int) (hl : us.length ≤ 1048576) (hu : ∀ u ∈ us, -24 ≤ u ∧ u ≤ 24) : ∀ (d i k : Nat) (a b : Int), i + d = us.length → 0 ≤ a ∧ a ≤ 24 → 0 ≤ b ∧ b ≤ 24 → d < k →
    impl_Road_roundTrip.l0 k a b us (us.length : Int) (i : Int) = some (costB (dnF (us.drop i) b) (upF (us.drop i) a))
  | 0, i, k, a, b, h, ha, hb, hk => by
    obtain ⟨k, rfl⟩ := succ_of (k := k) (by omega)
    simp only [impl_Road_roundTrip.l0]
    rw [if_neg (by omega), drop_end us i (by omega), wrap64_id (x := a + b) (by omega) (by omega), wrap64_id (by omega) (by omega), show 2 * (a + b) = costB b a by unfold costB; omega]
    rfl
  | d + 1, i, k, a, b, h, ha, hb, hk => by
    obtain ⟨k, rfl⟩ := succ_of (k := k) (by omega)
    have hq := rd_all hu i (by omega)
    simp only [impl_Road_roundTrip.l0]
    rw [if_pos (by omega), if_pos (by omega), if_pos (by omega), wrap64_id (x := -_) (by omega) (by omega), mx_max, mx_max, wrap_succ (n := us.length) (by omega) (by omega), impl_Road_roundTrip_l0 us hl hu d (i + 1) k _ _ (by omega) (by omega) (by omega) (by omega), drop_rd us i (by omega)]
    rfl
theorem impl_Road_roundTrip_l1 (s : Int) (r : Bool) (us : List Int) (hs : 2 ≤ s ∧ s ≤ 24) (hl : us.length ≤ 1048576) (hu : ∀ u ∈ us, 0 ≤ u ∧ u ≤ s - 1) : ∀ (d i k : Nat) (best : Int), i + d = us.length + 1 → d < k →
    impl_Road_roundTrip.l1 k us best ((us.length : Int) + 1) (i : Int) s r = some (bestK s costB us i d best)
  | 0, i, k, best, h, hk => by
    obtain ⟨k, rfl⟩ := succ_of (k := k) (by omega)
    simp only [impl_Road_roundTrip.l1]
    rw [if_neg (by omega)]
    rfl
  | d + 1, i, k, best, h, hk => by
    obtain ⟨k, rfl⟩ := succ_of (k := k) (by omega)
    have hdn := downK_bd hs.1 hu i
    have hup := upK_bd hs.1 hu i (by omega)
    have ih := impl_Road_roundTrip_l1 s r us hs hl hu d (i + 1) k (min best (costB (downK s us i) (upK us i))) (by omega) (by omega)
    simp only [impl_Road_roundTrip.l1]
    rw [if_pos (by omega), bestK_succ, wrap_succ (n := us.length + 1) (by omega) (by omega)]
    by_cases c : (i : Int) > 0
    · have e : upK us i = rd us ((i : Int) - 1) := by unfold upK; rw [if_pos (by omega)]
      rw [if_pos c, wrap64_id (x := (i : Int) - 1) (by omega) (by omega), if_pos (by omega), if_pos (by omega), ← e]
      by_cases c2 : (i : Int) < (us.length : Int)
      · have e2 : downK s us i = s - rd us (i : Int) := by unfold downK; rw [if_pos (by omega)]
        have hq := rd_all hu i (by omega)
        rw [if_pos c2, if_pos (by omega), wrap64_id (x := s - _) (by omega) (by omega), ← e2, wrap64_id (x := upK us i + downK s us i) (by omega) (by omega), wrap64_id (x := 2 * _) (by omega) (by omega), show 2 * (upK us i + downK s us i) = costB (downK s us i) (upK us i) by unfold costB; omega, mn_min]
        exact ih
      · have e2 : downK s us i = 0 := by unfold downK; rw [if_neg (by omega)]
        rw [e2] at ih ⊢
        rw [if_neg c2, wrap64_id (x := upK us i) (by omega) (by omega), wrap64_id (x := 2 * _) (by omega) (by omega), show 2 * upK us i = costB 0 (upK us i) by unfold costB; omega, mn_min]
        exact ih
    · have e : upK us i = 0 := by unfold upK; rw [if_neg (by omega)]
      rw [e] at ih ⊢
      rw [if_neg c]
      by_cases c2 : (i : Int) < (us.length : Int)
      · have e2 : downK s us i = s - rd us (i : Int) := by unfold downK; rw [if_pos (by omega)]
        have hq := rd_all hu i (by omega)
        rw [if_pos c2, if_pos (by omega), wrap64_id (x := s - _) (by omega) (by omega), ← e2, wrap64_id (x := downK s us i) (by omega) (by omega), wrap64_id (x := 2 * _) (by omega) (by omega), show 2 * downK s us i = costB (downK s us i) 0 by unfold costB; omega, mn_min]
        exact ih
      · have e2 : downK s us i = 0 := by unfold downK; rw [if_neg (by omega)]
        rw [e2] at ih ⊢
        rw [if_neg c2, show (0 : Int) = costB 0 0 from rfl, mn_min]
        exact ih
theorem impl_Road_roundTrip_eq (k : Nat) (s : Int) (r : Bool) (p : Int) (l : List Int) (hs : 2 ≤ s ∧ s ≤ 24) (hp : 0 ≤ p ∧ p ≤ s - 1) (hl : l.length ≤ 100000) (hx : ∀ x ∈ l, 0 ≤ x ∧ x ≤ s - 1) (hk : l.length + 10 < k) : impl_Road_roundTrip.f k s r p l = some (wayM costB s r p l) := by
  unfold impl_Road_roundTrip.f
  have hub : ∀ u ∈ sortI (l.map (upM s r p)), -s ≤ u ∧ u < s := fun u h => by
    obtain ⟨q, hq, rfl⟩ := List.mem_map.1 ((sortI_mem _ _).1 h)
    exact upM_bd hs.1 hp (hx q hq)
  have hlen : (sortI (l.map (upM s r p))).length = l.length := by rw [sortI_len, List.length_map]
  rw [impl_mapped_roundTrip_eq k s r p l hs hp (by omega) hx (by omega), Option.bind_some]
  unfold slices_Sort_int_int.f
  rw [if_pos (by rw [List.length_map]; omega), Option.bind_some]
  obtain ⟨k, rfl⟩ := succ_of (k := k) (by omega)
  cases r with
  | true =>
    rw [if_pos rfl]
    unfold slices_DeleteFunc_int_int___Road_roundTrip_2.f
    rw [Option.bind_some]
    simp only [impl_Road_roundTrip.j0]
    rw [if_pos trivial]
    have hl2 : ((sortI (l.map (upM s true p))).filter fun x => !(x == 0)).length ≤ l.length := Nat.le_trans (List.length_filter_le _ _) (by omega)
    have hu2 : ∀ u ∈ ((sortI (l.map (upM s true p))).filter fun x => !(x == 0)), 0 ≤ u ∧ u ≤ s - 1 := fun u h => by
      obtain ⟨q, hq, rfl⟩ := List.mem_map.1 ((sortI_mem _ _).1 (List.mem_filter.1 h).1)
      have := upRing_bd hs.1 hp (hx q hq)
      show 0 ≤ upRing s p q ∧ upRing s p q ≤ s - 1
      omega
    have e := impl_Road_roundTrip_l1 s true _ hs (by omega) hu2 (((sortI (l.map (upM s true p))).filter fun x => !(x == 0)).length + 1) 0 k s (by omega) (by omega)
    rw [bestK_all, ways_sorted costB s p l s hs.1 hp hx costB_mono (Int.le_refl _) (.inl rfl)] at e
    rw [wrap64_id (by omega) (by omega)]
    exact e
  | false =>
    rw [if_neg (by simp)]
    simp only [impl_Road_roundTrip.j0]
    rw [if_neg (by simp)]
    have e := impl_Road_roundTrip_l0 (sortI (l.map (upM s false p))) (by omega) (fun u h => by have := hub u h; omega) (sortI (l.map (upM s false p))).length 0 k 0 0 (by omega) (by omega) (by omega) (by omega)
    rw [show ((0 : Nat) : Int) = 0 from rfl, List.drop_zero, ways_line costB s p l] at e
    exact e
theorem impl_Road_tour_1_eq (s : Int) (r : Bool) (p q : Int) (hs : 2 ≤ s ∧ s ≤ 24) (hp : 0 ≤ p ∧ p ≤ s - 1) (hq : 0 ≤ q ∧ q ≤ s - 1) : impl_Road_tour_1.f q s r p = some (upM s r p q) := by
  unfold impl_Road_tour_1.f upM upRing
  rw [if_neg (show ¬ s = 0 by omega), wrap64_id (x := q - p) (by omega) (by omega), wrap64_id (x := q - p + s) (by omega) (by omega)]
  cases r <;> simp
theorem impl_mapped_tour_l0 (s : Int) (r : Bool) (p : Int) (l : List Int) (hs : 2 ≤ s ∧ s ≤ 24) (hp : 0 ≤ p ∧ p ≤ s - 1) (hl : l.length ≤ 1048576) (hx : ∀ x ∈ l, 0 ≤ x ∧ x ≤ s - 1) : ∀ (d i k : Nat) (acc : List Int), i + d = l.length → acc.length ≤ i → d < k →
    impl_mapped__Road_tour_1.l0 k acc l (l.length : Int) (i : Int) s r p = some (acc ++ (l.drop i).map (upM s r p))
  | 0, i, k, acc, h, ha, hk => by
    obtain ⟨k, rfl⟩ := succ_of (k := k) (by omega)
    simp only [impl_mapped__Road_tour_1.l0]
    rw [if_neg (by omega), drop_end l i (by omega)]
    simp
  | d + 1, i, k, acc, h, ha, hk => by
    obtain ⟨k, rfl⟩ := succ_of (k := k) (by omega)
    have hq := rd_all hx i (by omega)
    simp only [impl_mapped__Road_tour_1.l0]
    rw [if_pos (by omega), if_pos (by omega), if_pos (by omega), impl_Road_tour_1_eq s r p _ hs hp hq, Option.bind_some, if_pos (by omega), wrap_succ (n := l.length) (by omega) (by omega), impl_mapped_tour_l0 s r p l hs hp hl hx d (i + 1) k _ (by omega) (by simp; omega) (by omega), drop_rd l i (by omega)]
    simp
theorem impl_mapped_tour_eq (k : Nat) (s : Int) (r : Bool) (p : Int) (l : List Int) (hs : 2 ≤ s ∧ s ≤ 24) (hp : 0 ≤ p ∧ p ≤ s - 1) (hl : l.length ≤ 1048576) (hx : ∀ x ∈ l, 0 ≤ x ∧ x ≤ s - 1) (hk : l.length < k) : impl_mapped__Road_tour_1.f k l s r p = some (l.map (upM s r p)) := by
  unfold impl_mapped__Road_tour_1.f
  have := impl_mapped_tour_l0 s r p l hs hp hl hx l.length 0 k [] (by omega) (by simp) hk
  simpa using this
theorem impl_Road_tour_3_eq (a b : Int) (ha : 0 ≤ a ∧ a ≤ 1000) (hb : 0 ≤ b ∧ b ≤ 1000) : impl_Road_tour_3.f a b = some (costT b a) := by
  unfold impl_Road_tour_3.f costT
  rw [mn_min, wrap64_id (x := a + b) (by omega) (by omega), wrap64_id (by omega) (by omega)]
  congr 1
  omega
theorem impl_Road_tour_l0 (us : List Int) (hl : us.length ≤ 1048576) (hu : ∀ u ∈ us, -24 ≤ u ∧ u ≤ 24) : ∀ (d i k : Nat) (a b : Int), i + d = us.length → 0 ≤ a ∧ a ≤ 24 → 0 ≤ b ∧ b ≤ 24 → d < k →
    impl_Road_tour.l0 k a b us (us.length : Int) (i : Int) = some (costT (dnF (us.drop i) b) (upF (us.drop i) a))
  | 0, i, k, a, b, h, ha, hb, hk => by
    obtain ⟨k, rfl⟩ := succ_of (k := k) (by omega)
    simp only [impl_Road_tour.l0]
    rw [if_neg (by omega), drop_end us i (by omega), impl_Road_tour_3_eq a b (by omega) (by omega), Option.bind_some]
    rfl
  | d + 1, i, k, a, b, h, ha, hb, hk => by
    obtain ⟨k, rfl⟩ := succ_of (k := k) (by omega)
    have hq := rd_all hu i (by omega)
    simp only [impl_Road_tour.l0]
    rw [if_pos (by omega), if_pos (by omega), if_pos (by omega), wrap64_id (x := -_) (by omega) (by omega), mx_max, mx_max, wrap_succ (n := us.length) (by omega) (by omega), impl_Road_tour_l0 us hl hu d (i + 1) k _ _ (by omega) (by omega) (by omega) (by omega), drop_rd us i (by omega)]
    rfl
theorem impl_Road_tour_l1 (s : Int) (r : Bool) (us : List Int) (hs : 2 ≤ s ∧ s ≤ 24) (hl : us.length ≤ 1048576) (hu : ∀ u ∈ us, 0 ≤ u ∧ u ≤ s - 1) : ∀ (d i k : Nat) (best : Int), i + d = us.length + 1 → d < k →
    impl_Road_tour.l1 k us best ((us.length : Int) + 1) (i : Int) s r = some (bestK s costT us i d best)
  | 0, i, k, best, h, hk => by
    obtain ⟨k, rfl⟩ := succ_of (k := k) (by omega)
    simp only [impl_Road_tour.l1]
    rw [if_neg (by omega)]
    rfl
  | d + 1, i, k, best, h, hk => by
    obtain ⟨k, rfl⟩ := succ_of (k := k) (by omega)
    have hdn := downK_bd hs.1 hu i
    have hup := upK_bd hs.1 hu i (by omega)
    have ih := impl_Road_tour_l1 s r us hs hl hu d (i + 1) k (min best (costT (downK s us i) (upK us i))) (by omega) (by omega)
    simp only [impl_Road_tour.l1]
    rw [if_pos (by omega), bestK_succ, wrap_succ (n := us.length + 1) (by omega) (by omega)]
    by_cases c : (i : Int) > 0
    · have e : upK us i = rd us ((i : Int) - 1) := by unfold upK; rw [if_pos (by omega)]
      rw [if_pos c, wrap64_id (x := (i : Int) - 1) (by omega) (by omega), if_pos (by omega), if_pos (by omega), ← e]
      by_cases c2 : (i : Int) < (us.length : Int)
      · have e2 : downK s us i = s - rd us (i : Int) := by unfold downK; rw [if_pos (by omega)]
        have hq := rd_all hu i (by omega)
        rw [if_pos c2, if_pos (by omega), wrap64_id (x := s - _) (by omega) (by omega), ← e2, impl_Road_tour_3_eq _ _ (by omega) (by omega), Option.bind_some, mn_min]
        exact ih
      · have e2 : downK s us i = 0 := by unfold downK; rw [if_neg (by omega)]
        rw [e2] at ih ⊢
        rw [if_neg c2, impl_Road_tour_3_eq _ _ (by omega) (by omega), Option.bind_some, mn_min]
        exact ih
    · have e : upK us i = 0 := by unfold upK; rw [if_neg (by omega)]
      rw [e] at ih ⊢
      rw [if_neg c]
      by_cases c2 : (i : Int) < (us.length : Int)
      · have e2 : downK s us i = s - rd us (i : Int) := by unfold downK; rw [if_pos (by omega)]
        have hq := rd_all hu i (by omega)
        rw [if_pos c2, if_pos (by omega), wrap64_id (x := s - _) (by omega) (by omega), ← e2, impl_Road_tour_3_eq _ _ (by omega) (by omega), Option.bind_some, mn_min]
        exact ih
      · have e2 : downK s us i = 0 := by unfold downK; rw [if_neg (by omega)]
        rw [e2] at ih ⊢
        rw [if_neg c2, impl_Road_tour_3_eq _ _ (by omega) (by omega), Option.bind_some, mn_min]
        exact ih
theorem impl_Road_tour_eq (k : Nat) (s : Int) (r : Bool) (p : Int) (l : List Int) (hs : 2 ≤ s ∧ s ≤ 24) (hp : 0 ≤ p ∧ p ≤ s - 1) (hl : l.length ≤ 100000) (hx : ∀ x ∈ l, 0 ≤ x ∧ x ≤ s - 1) (hk : l.length + 10 < k) : impl_Road_tour.f k s r p l = some (wayM costT s r p l) := by
  unfold impl_Road_tour.f
  have hub : ∀ u ∈ sortI (l.map (upM s r p)), -s ≤ u ∧ u < s := fun u h => by
    obtain ⟨q, hq, rfl⟩ := List.mem_map.1 ((sortI_mem _ _).1 h)
    exact upM_bd hs.1 hp (hx q hq)
  have hlen : (sortI (l.map (upM s r p))).length = l.length := by rw [sortI_len, List.length_map]
  rw [impl_mapped_tour_eq k s r p l hs hp (by omega) hx (by omega), Option.bind_some]
  unfold slices_Sort_int_int.f
  rw [if_pos (by rw [List.length_map]; omega), Option.bind_some]
  obtain ⟨k, rfl⟩ := succ_of (k := k) (by omega)
  cases r with
  | true =>
    rw [if_pos rfl]
    unfold slices_DeleteFunc_int_int___Road_tour_2.f
    rw [Option.bind_some]
    simp only [impl_Road_tour.j0]
    rw [if_pos trivial]
    have hl2 : ((sortI (l.map (upM s true p))).filter fun x => !(x == 0)).length ≤ l.length := Nat.le_trans (List.length_filter_le _ _) (by omega)
    have hu2 : ∀ u ∈ ((sortI (l.map (upM s true p))).filter fun x => !(x == 0)), 0 ≤ u ∧ u ≤ s - 1 := fun u h => by
      obtain ⟨q, hq, rfl⟩ := List.mem_map.1 ((sortI_mem _ _).1 (List.mem_filter.1 h).1)
      have := upRing_bd hs.1 hp (hx q hq)
      show 0 ≤ upRing s p q ∧ upRing s p q ≤ s - 1
      omega
    have e := impl_Road_tour_l1 s true _ hs (by omega) hu2 (((sortI (l.map (upM s true p))).filter fun x => !(x == 0)).length + 1) 0 k 60 (by omega) (by omega)
    rw [bestK_all, ways_sorted costT s p l 60 hs.1 hp hx costT_mono (by omega) (.inr (fun d h0 h1 => by unfold costT; omega))] at e
    rw [wrap64_id (by omega) (by omega)]
    exact e
  | false =>
    rw [if_neg (by simp)]
    simp only [impl_Road_tour.j0]
    rw [if_neg (by simp)]
    have e := impl_Road_tour_l0 (sortI (l.map (upM s false p))) (by omega) (fun u h => by have := hub u h; omega) (sortI (l.map (upM s false p))).length 0 k 0 0 (by omega) (by omega) (by omega) (by omega)
    rw [show ((0 : Nat) : Int) = 0 from rfl, List.drop_zero, ways_line costT s p l] at e
    exact e
def timeM (s : Int) (r : Bool) (p x : Int) (n : Nat) (back : Bool) : Int := wayM (if back = true then costB else costT) s r p (runL s x n)
theorem runL_in {s x : Int} {n : Nat} (hs : 2 ≤ s) (hx : 0 ≤ x) : ∀ y ∈ runL s x n, 0 ≤ y ∧ y ≤ s - 1 := by
  intro y hy
  unfold runL at hy
  obtain ⟨i, _, rfl⟩ := List.mem_map.1 hy
  rw [Int.tmod_eq_emod_of_nonneg (by omega)]
  have h1 := Int.emod_nonneg (x + (i : Int)) (show s ≠ 0 by omega)
  have h2 := Int.emod_lt_of_pos (x + (i : Int)) (show 0 < s by omega)
  omega
theorem spec_l6Time_eq (k : Nat) (s : Int) (r : Bool) (p x n : Int) (back : Bool) (hr : road s r = true) (hp : 0 ≤ p ∧ p ≤ s - 1) (hx : 0 ≤ x ∧ x ≤ s - 1) (hn : 0 ≤ n ∧ n ≤ s) (hk : 10000 < k) : spec_l6Time.f k s r p x n back = some (timeM s r p x n.toNat back) := by
  unfold spec_l6Time.f timeM
  have hs := road_bd hr
  have hin := runL_in (n := n.toNat) hs.1 hx.1
  have hlen := runL_len s x n.toNat
  rw [spec_l6Run_eq k s r x n ⟨hs.1, hs.2.1⟩ (by omega) (by omega) (by omega)]
  cases back with
  | true =>
    simp only [if_true, Option.bind_some]
    rw [spec_l6Back_eq k s r p _ ⟨hs.1, hs.2.1⟩ hp (by omega) hin hk, Option.bind_some]
  | false =>
    have ha : allIn (runL s x n.toNat) 0 (s - 1) = true := List.all_eq_true.2 (fun y h => inR_iff.2 (hin y h))
    rw [if_neg (by simp), if_neg (by simp), Option.bind_some, spec_TourTime_eq k s r p _ (by omega) (by omega), if_pos (by rw [hr, inR_iff.2 hp, ha]; rfl), Option.bind_some]
theorem impl_Road_runTime_eq (k : Nat) (s : Int) (r : Bool) (p x n : Int) (back : Bool) (hr : road s r = true) (hp : 0 ≤ p ∧ p ≤ s - 1) (hx : 0 ≤ x ∧ x ≤ s - 1) (hn : 0 ≤ n ∧ n ≤ s) (hk : 10000 < k) : impl_Road_runTime.f k s r p x n back = some (timeM s r p x n.toNat back) := by
  unfold impl_Road_runTime.f timeM
  have hs := road_bd hr
  have hin := runL_in (n := n.toNat) hs.1 hx.1
  have hlen := runL_len s x n.toNat
  rw [impl_Road_run_eq k s r x n ⟨hs.1, hs.2.1⟩ (by omega) (by omega) (by omega)]
  cases back with
  | true =>
    simp only [if_true, Option.bind_some]
    rw [impl_Road_roundTrip_eq k s r p _ ⟨hs.1, hs.2.1⟩ hp (by omega) hin (by omega), Option.bind_some]
  | false =>
    rw [if_neg (by simp), if_neg (by simp), Option.bind_some, impl_Road_tour_eq k s r p _ ⟨hs.1, hs.2.1⟩ hp (by omega) hin (by omega), Option.bind_some]
theorem bestTo_mono {s : Int} {c : Int → Int → Int} (hs : 2 ≤ s) (hc : ∀ a b a' b', 0 ≤ a → 0 ≤ b → a ≤ a' → b ≤ b' → c a b ≤ c a' b') {fs gs : List Int} (h : ∀ f ∈ fs, f ∈ gs) (hg : ∀ f ∈ gs, f < s) : bestTo s c fs ≤ bestTo s c gs := by
  have H := (le_foldMin (fun i : Nat => c (leftAt s fs (i : Int)) (i : Int)) (bestTo s c fs) (List.range s.toNat) s).1 (Int.le_refl _)
  unfold bestTo at H ⊢
  rw [le_foldMin]
  refine ⟨H.1, fun i hi => Int.le_trans (H.2 i hi) (hc _ _ _ _ (leftAt_nn _ _ _) (by omega) (leftAt_le (leftAt_nn _ _ _) (fun f hf hlt => leftAt_ge (h f hf) hlt)) (Int.le_refl _))⟩
theorem wayM_mono {s : Int} {r : Bool} {c : Int → Int → Int} (hs : 2 ≤ s) (hc : ∀ a b a' b', 0 ≤ a → 0 ≤ b → a ≤ a' → b ≤ b' → c a b ≤ c a' b') {p : Int} (hp : 0 ≤ p ∧ p ≤ s - 1) {l l' : List Int} (h : ∀ x ∈ l, x ∈ l') (hx : ∀ x ∈ l', 0 ≤ x ∧ x ≤ s - 1) : wayM c s r p l ≤ wayM c s r p l' := by
  unfold wayM
  cases r with
  | true =>
    simp only [if_true]
    refine bestTo_mono hs hc (fun f hf => ?_) (fun f hf => ?_)
    · obtain ⟨q, hq, rfl⟩ := List.mem_map.1 hf
      exact List.mem_map.2 ⟨q, h q hq, rfl⟩
    · obtain ⟨q, hq, rfl⟩ := List.mem_map.1 hf
      exact (upRing_bd hs hp (hx q hq)).2
  | false =>
    rw [if_neg (by simp), if_neg (by simp)]
    have h1 := (foldMax_le (fun q => p - q) (leftL p l' 0) l' 0).1 (Int.le_refl _)
    have h2 := (foldMax_le (fun q => q - p) (rightL p l' 0) l' 0).1 (Int.le_refl _)
    have h3 := ((foldMax_le (fun q => p - q) (leftL p l 0) l 0).1 (Int.le_refl _)).1
    have h4 := ((foldMax_le (fun q => q - p) (rightL p l 0) l 0).1 (Int.le_refl _)).1
    exact hc _ _ _ _ h3 h4 ((foldMax_le _ _ l 0).2 ⟨h1.1, fun q hq => h1.2 q (h q hq)⟩) ((foldMax_le _ _ l 0).2 ⟨h2.1, fun q hq => h2.2 q (h q hq)⟩)
/-- The greatest number, from above. -/
def downM (P : Nat → Bool) : Nat → Nat
  | 0 => 0
  | n + 1 => if P (n + 1) = true then n + 1 else downM P n
/-- .. and from below. -/
def upM' (P : Nat → Bool) : Nat → Nat → Nat
  | 0, n => n
  | d + 1, n => if P (n + 1) = true then upM' P d (n + 1) else n
theorem downM_spec (P : Nat → Bool) : ∀ n, downM P n ≤ n ∧ (downM P n = 0 ∨ P (downM P n) = true) ∧ ∀ j, downM P n < j → j ≤ n → P j = false
  | 0 => ⟨Nat.le_refl _, .inl rfl, fun j h1 h2 => by simp [downM] at h1; omega⟩
  | n + 1 => by
    have ih := downM_spec P n
    unfold downM
    by_cases c : P (n + 1) = true
    · rw [if_pos c]
      exact ⟨Nat.le_refl _, .inr c, fun j h1 h2 => by omega⟩
    · rw [if_neg c]
      refine ⟨by omega, ih.2.1, fun j h1 h2 => ?_⟩
      rcases Nat.lt_or_ge n j with h | h
      · have : j = n + 1 := by omega
        subst this
        exact Bool.eq_false_iff.2 c
      · exact ih.2.2 j h1 h
theorem upM'_spec (P : Nat → Bool) : ∀ d n, (n = 0 ∨ P n = true) → n ≤ upM' P d n ∧ upM' P d n ≤ n + d ∧ (upM' P d n = 0 ∨ P (upM' P d n) = true) ∧ (upM' P d n = n + d ∨ P (upM' P d n + 1) = false)
  | 0, n, h => ⟨Nat.le_refl _, Nat.le_refl _, h, .inl rfl⟩
  | d + 1, n, h => by
    unfold upM'
    by_cases c : P (n + 1) = true
    · rw [if_pos c]
      have ih := upM'_spec P d (n + 1) (.inr c)
      exact ⟨by omega, by omega, ih.2.2.1, ih.2.2.2.imp (fun h => by omega) id⟩
    · rw [if_neg c]
      exact ⟨Nat.le_refl _, by omega, h, .inr (Bool.eq_false_iff.2 c)⟩
theorem up_down (P : Nat → Bool) (h : ∀ n, P (n + 1) = true → P n = true ∨ n = 0) (n : Nat) : upM' P n 0 = downM P n := by
  have anti : ∀ m j, j ≤ m → 0 < j → P m = true → P j = true := by
    intro m
    induction m with
    | zero => intro j h1 h2 _; omega
    | succ m ih =>
      intro j h1 h2 hp
      rcases Nat.lt_or_ge m j with h3 | h3
      · have : j = m + 1 := by omega
        subst this
        exact hp
      · rcases h m hp with h4 | h4
        · exact ih j h3 h2 h4
        · omega
  have h1 := downM_spec P n
  have h2 := upM'_spec P n 0 (.inl rfl)
  rcases Nat.lt_trichotomy (upM' P n 0) (downM P n) with h3 | h3 | h3
  · exfalso
    have hp : P (downM P n) = true := h1.2.1.resolve_left (by omega)
    have := anti _ (upM' P n 0 + 1) (by omega) (by omega) hp
    rcases h2.2.2.2 with h4 | h4
    · omega
    · rw [this] at h4; cases h4
  · exact h3
  · exfalso
    have hp : P (upM' P n 0) = true := h2.2.2.1.resolve_left (by omega)
    have := h1.2.2 _ h3 (by omega)
    rw [this] at hp
    cases hp
def fitB (s : Int) (r : Bool) (p x : Int) (back : Bool) (b : Int) (n : Nat) : Bool := decide (timeM s r p x n back ≤ b)
theorem runL_pre {s x : Int} {n m : Nat} (h : n ≤ m) : ∀ y ∈ runL s x n, y ∈ runL s x m := by
  intro y hy
  unfold runL at hy ⊢
  obtain ⟨i, hi, rfl⟩ := List.mem_map.1 hy
  exact List.mem_map.2 ⟨i, List.mem_range.2 (by have := List.mem_range.1 hi; omega), rfl⟩
theorem timeM_mono {s : Int} {r : Bool} {p x : Int} {back : Bool} {n m : Nat} (hs : 2 ≤ s) (hp : 0 ≤ p ∧ p ≤ s - 1) (hx : 0 ≤ x) (h : n ≤ m) : timeM s r p x n back ≤ timeM s r p x m back := by
  unfold timeM
  refine wayM_mono hs ?_ hp (runL_pre h) (runL_in hs hx)
  cases back
  · exact costT_mono
  · exact costB_mono
def nextM (s : Int) (r back : Bool) (starts budgets : List Int) (x done k : Int) : Nat := downM (fitB s r (rd starts k) (Int.tmod (x + done) s) back (rd budgets k)) (s - done).toNat
/-- What is taken in an order. -/
def takeM (s : Int) (r back : Bool) (starts budgets : List Int) (x : Int) : List Int → List Int → Int → List Int × Int
  | [], out, done => (out, done)
  | k :: ks, out, done => takeM s r back starts budgets x ks (out.set k.toNat (nextM s r back starts budgets x done k : Int)) (done + (nextM s r back starts budgets x done k : Int))
def lenX (s : Int) (r : Bool) (x : Nat) : Nat := if r = true then s.toNat else s.toNat - x
theorem fits_at (s : Int) (r : Bool) (x n : Nat) (hx : (x : Int) < s) : fits s r (x : Int) (n : Int) = decide (n ≤ lenX s r x) := by
  unfold fits lenX inR
  rw [Bool.eq_iff_iff]
  cases r <;> simp <;> omega
def rowM (s : Int) (r : Bool) (p : Int) (back : Bool) (x : Nat) : List Int := (List.range (lenX s r x + 1)).map fun n => timeM s r p (x : Int) n back
def tabM (s : Int) (r : Bool) (back : Bool) (p : Int) : List (List Int) := (List.range s.toNat).map fun x => rowM s r p back x
theorem newRuns_l2 (s : Int) (r back : Bool) (hr : road s r = true) (p : Int) (hp : 0 ≤ p ∧ p ≤ s - 1) (x : Nat) (hx : (x : Int) < s) (tb : List (List Int)) (htb : tb.length ≤ 1000) (a b c d0 e t0 : Int) (t1 : Bool) (st : List Int) (t2 : List (List (List Int))) : ∀ (d i k : Nat), i + d = lenX s r x + 1 → 10000 + d < k → ∃ k', k ≤ k' + d + 1 ∧
    impl_newRuns.l2 k back p tb (x : Int) ((List.range i).map fun n => timeM s r p (x : Int) n back) (i : Int) st a b c e s r t0 t1 t2 = impl_newRuns.l1 k' back p (tb ++ [rowM s r p back x]) st a b c (wrap64 (e + 1)) s r t0 t1 t2
  | 0, i, k, h, hk => by
    have hs := road_bd hr
    obtain ⟨k, rfl⟩ := succ_of (k := k) (by omega)
    refine ⟨k, by omega, ?_⟩
    have hL : lenX s r x ≤ s.toNat := by unfold lenX; split <;> omega
    obtain rfl : i = lenX s r x + 1 := by omega
    simp only [impl_newRuns.l2]
    by_cases c1 : ((lenX s r x + 1 : Nat) : Int) ≤ s
    · rw [if_pos c1, impl_Road_isRun_eq k s r _ _ hr (by omega), Option.bind_some, fits_at s r x _ hx, decide_eq_false (by omega), if_neg (by simp), if_pos (by omega)]
      rfl
    · rw [if_neg c1, if_pos (by omega)]
      rfl
  | d + 1, i, k, h, hk => by
    have hs := road_bd hr
    obtain ⟨k, rfl⟩ := succ_of (k := k) (by omega)
    have hL : lenX s r x ≤ s.toNat := by unfold lenX; split <;> omega
    obtain ⟨k', hk', e⟩ := newRuns_l2 s r back hr p hp x hx tb htb a b c d0 e t0 t1 st t2 d (i + 1) k (by omega) (by omega)
    refine ⟨k', by omega, ?_⟩
    simp only [impl_newRuns.l2]
    rw [if_pos (by omega), impl_Road_isRun_eq k s r _ _ hr (by omega), Option.bind_some, fits_at s r x _ hx, decide_eq_true (by omega), if_pos rfl, impl_Road_runTime_eq k s r p _ _ back hr hp (by omega) (by omega) (by omega), Option.bind_some, if_pos (by simp; omega), wrap_succ (n := s.toNat + 1) (by omega) (by omega), Int.toNat_natCast]
    rw [List.range_succ, List.map_append] at e
    exact e
theorem newRuns_l1 (s : Int) (r back : Bool) (hr : road s r = true) (p : Int) (hp : 0 ≤ p ∧ p ≤ s - 1) (a b t0 : Int) (t1 : Bool) (st : List Int) (t2 : List (List (List Int))) (ht2 : t2.length ≤ 1000) : ∀ (d x k : Nat), x + d = s.toNat → 10010 + 30 * d < k → ∃ k', k ≤ k' + 30 * d + 1 ∧
    impl_newRuns.l1 k back p ((List.range x).map fun x => rowM s r p back x) st a b s (x : Int) s r t0 t1 t2 = impl_newRuns.l0 k' back st a (wrap64 (b + 1)) s r t0 t1 (t2 ++ [tabM s r back p])
  | 0, x, k, h, hk => by
    obtain ⟨k, rfl⟩ := succ_of (k := k) (by omega)
    refine ⟨k, by omega, ?_⟩
    obtain rfl : x = s.toNat := by omega
    simp only [impl_newRuns.l1]
    rw [if_neg (by omega), if_pos (by omega)]
    rfl
  | d + 1, x, k, h, hk => by
    have hs := road_bd hr
    have hL : lenX s r x ≤ s.toNat := by unfold lenX; split <;> omega
    obtain ⟨k, rfl⟩ := succ_of (k := k) (by omega)
    obtain ⟨k1, hk1, e1⟩ := newRuns_l2 s r back hr p hp x (by omega) ((List.range x).map fun x => rowM s r p back x) (by simp; omega) a b s 0 (x : Int) t0 t1 st t2 (lenX s r x + 1) 0 k (by omega) (by omega)
    obtain ⟨k2, hk2, e2⟩ := newRuns_l1 s r back hr p hp a b t0 t1 st t2 ht2 d (x + 1) k1 (by omega) (by omega)
    refine ⟨k2, by omega, ?_⟩
    simp only [impl_newRuns.l1]
    rw [if_pos (by omega)]
    rw [show (([] : List Int)) = (List.range 0).map (fun n => timeM s r p (x : Int) n back) from rfl, show (0 : Int) = ((0 : Nat) : Int) from rfl, e1, wrap_succ (n := s.toNat) (by omega) (by omega)]
    rw [List.range_succ, List.map_append] at e2
    exact e2
theorem newRuns_l0 (s : Int) (r back : Bool) (hr : road s r = true) (st : List Int) (hl : st.length ≤ 4) (hx : ∀ p ∈ st, 0 ≤ p ∧ p ≤ s - 1) (t0 : Int) (t1 : Bool) : ∀ (d i k : Nat), i + d = st.length → 10020 + 1000 * d < k →
    impl_newRuns.l0 k back st (st.length : Int) (i : Int) s r t0 t1 ((st.take i).map (tabM s r back)) = some (t0, t1, st.map (tabM s r back))
  | 0, i, k, h, hk => by
    obtain ⟨k, rfl⟩ := succ_of (k := k) (by omega)
    simp only [impl_newRuns.l0]
    rw [if_neg (by omega), List.take_of_length_le (by omega)]
  | d + 1, i, k, h, hk => by
    have hs := road_bd hr
    obtain ⟨k, rfl⟩ := succ_of (k := k) (by omega)
    have hq := rd_all hx i (by omega)
    obtain ⟨k1, hk1, e1⟩ := newRuns_l1 s r back hr (rd st (i : Int)) hq (st.length : Int) (i : Int) t0 t1 st ((st.take i).map (tabM s r back)) (by simp; omega) s.toNat 0 k (by omega) (by omega)
    have e2 := newRuns_l0 s r back hr st hl hx t0 t1 d (i + 1) k1 (by omega) (by omega)
    simp only [impl_newRuns.l0]
    rw [if_pos (by omega), if_pos (by omega), if_pos (by omega)]
    rw [show (([] : List (List Int))) = (List.range 0).map (fun x => rowM s r (rd st (i : Int)) back x) from rfl, show (0 : Int) = ((0 : Nat) : Int) from rfl, e1, wrap_succ (n := st.length) (by omega) (by omega), ← e2, List.take_succ_eq_append_getElem (show i < st.length by omega), List.map_append, rd_nat st i (by omega)]
    rfl
theorem impl_newRuns_eq (k : Nat) (s : Int) (r back : Bool) (hr : road s r = true) (st : List Int) (hl : st.length ≤ 4) (hx : ∀ p ∈ st, 0 ≤ p ∧ p ≤ s - 1) (hk : 20000 < k) : impl_newRuns.f k s r st back = some (s, r, st.map (tabM s r back)) := by
  unfold impl_newRuns.f
  exact newRuns_l0 s r back hr st hl hx s r st.length 0 k (by omega) (by omega)
theorem rowM_rd (s : Int) (r : Bool) (p : Int) (back : Bool) (x n : Nat) (h : n ≤ lenX s r x) : rd (rowM s r p back x) (n : Int) = timeM s r p (x : Int) n back := by
  rw [rd_nat _ n (by unfold rowM; simp; omega)]
  unfold rowM
  simp
theorem rowM_len (s : Int) (r : Bool) (p : Int) (back : Bool) (x : Nat) : (rowM s r p back x).length = lenX s r x + 1 := by unfold rowM; simp
theorem tabM_rd (s : Int) (r back : Bool) (p x : Int) (h0 : 0 ≤ x) (h1 : x < s) : rd_L1 (tabM s r back p) x = rowM s r p back x.toNat := by
  unfold rd_L1 tabM
  rw [List.getD_eq_getElem?_getD, List.getElem?_map, List.getElem?_range (by omega)]
  rfl
theorem tabs_rd (s : Int) (r back : Bool) (st : List Int) (i : Int) (h0 : 0 ≤ i) (h1 : i < st.length) : rd_L2 (st.map (tabM s r back)) i = tabM s r back (rd st i) := by
  obtain ⟨j, rfl⟩ := Int.eq_ofNat_of_zero_le h0
  rw [rd_nat st j (by omega)]
  unfold rd_L2
  rw [List.getD_eq_getElem?_getD, List.getElem?_map, Int.toNat_natCast, List.getElem?_eq_getElem (by omega)]
  rfl
theorem pos_bd {s x done : Int} (hs : 2 ≤ s) (h : 0 ≤ x + done) : 0 ≤ Int.tmod (x + done) s ∧ Int.tmod (x + done) s < s := by
  rw [Int.tmod_eq_emod_of_nonneg h]
  exact ⟨Int.emod_nonneg _ (by omega), Int.emod_lt_of_pos _ (by omega)⟩
theorem pos_len {s x done : Int} {r : Bool} (hs : 2 ≤ s) (hx : 0 ≤ x ∧ x < s) (hd : 0 ≤ done ∧ done ≤ s) (hr : r = true ∨ x = 0) : (s - done).toNat ≤ lenX s r (Int.tmod (x + done) s).toNat := by
  unfold lenX
  cases r with
  | true => simp only [if_true]; omega
  | false =>
    rw [if_neg (by simp)]
    have hx0 : x = 0 := hr.resolve_left (by simp)
    subst hx0
    rcases Int.lt_or_le done s with h | h
    · rw [Int.zero_add, Int.tmod_eq_of_lt hd.1 h]
      omega
    · omega
theorem taken_l1 (s : Int) (r back : Bool) (hs : 2 ≤ s ∧ s ≤ 24) (p : Int) (x done i len idx : Int) (ps : Nat) (hd : 0 ≤ done ∧ done ≤ 1000) (bud out ord : List Int) (t2 : List (List (List Int))) (hi : 0 ≤ i ∧ i < bud.length) (ho : i < out.length) : ∀ (n k : Nat), n ≤ lenX s r ps → n + 1 < k → ∃ k', k ≤ k' + n + 1 ∧
    impl_runs_taken.l1 k bud x out done i (rowM s r p back ps) (n : Int) ord len idx s r t2 = impl_runs_taken.l0 k' bud x (out.set i.toNat (downM (fitB s r p (ps : Int) back (rd bud i)) n : Int)) (done + (downM (fitB s r p (ps : Int) back (rd bud i)) n : Int)) ord len (wrap64 (idx + 1)) s r t2
  | 0, k, h, hk => by
    obtain ⟨k, rfl⟩ := succ_of (k := k) (by omega)
    refine ⟨k, by omega, ?_⟩
    simp only [impl_runs_taken.l1]
    rw [if_neg (by omega), if_pos hi.1, if_pos ho]
    simp only [downM]
    rw [wrap64_id (x := done + _) (by omega) (by omega)]
  | n + 1, k, h, hk => by
    obtain ⟨k, rfl⟩ := succ_of (k := k) (by omega)
    have hL : lenX s r ps ≤ s.toNat := by unfold lenX; split <;> omega
    obtain ⟨k', hk', e⟩ := taken_l1 s r back hs p x done i len idx ps hd bud out ord t2 hi ho n k (by omega) (by omega)
    simp only [impl_runs_taken.l1]
    have hw : wrap64 (((n + 1 : Nat) : Int) - 1) = (n : Int) := by rw [wrap64_id (by omega) (by omega)]; omega
    rw [if_pos (by omega), if_pos (by omega), if_pos (by rw [rowM_len]; omega), if_pos hi.1, if_pos hi.2, rowM_rd s r p back ps (n + 1) h, hw]
    simp only [downM]
    by_cases c : timeM s r p (ps : Int) (n + 1) back ≤ rd bud i
    · have cf : fitB s r p (ps : Int) back (rd bud i) (n + 1) = true := by unfold fitB; exact decide_eq_true c
      refine ⟨k, by omega, ?_⟩
      rw [if_neg (by omega), if_pos ho, cf, if_pos rfl, wrap64_id (x := done + _) (by omega) (by omega)]
    · have cf : fitB s r p (ps : Int) back (rd bud i) (n + 1) = false := by unfold fitB; exact decide_eq_false c
      refine ⟨k', by omega, ?_⟩
      rw [if_pos (by omega), cf, if_neg (by simp)]
      exact e
theorem nextM_le (s : Int) (r back : Bool) (st bud : List Int) (x done k : Int) (hd : done ≤ s) : (nextM s r back st bud x done k : Int) ≤ s - done := by
  have := (downM_spec (fitB s r (rd st k) (Int.tmod (x + done) s) back (rd bud k)) (s - done).toNat).1
  unfold nextM
  omega
theorem taken_l0 (s : Int) (r back : Bool) (hs : 2 ≤ s ∧ s ≤ 24) (st bud ord : List Int) (x : Int) (hx : 0 ≤ x ∧ x < s) (hr : r = true ∨ x = 0) (hb : bud.length = st.length) (hst : st.length ≤ 4) (hol : ord.length ≤ 4) (hord : ∀ k ∈ ord, 0 ≤ k ∧ k < st.length) : ∀ (d i k : Nat) (out : List Int) (done : Int), i + d = ord.length → 0 ≤ done ∧ done ≤ s → out.length = st.length → 100 * d + 10 < k →
    impl_runs_taken.l0 k bud x out done ord (ord.length : Int) (i : Int) s r (st.map (tabM s r back)) = some ((takeM s r back st bud x (ord.drop i) out done).1, (takeM s r back st bud x (ord.drop i) out done).2 == s)
  | 0, i, k, out, done, h, hd, ho, hk => by
    obtain ⟨k, rfl⟩ := succ_of (k := k) (by omega)
    simp only [impl_runs_taken.l0]
    rw [if_neg (by omega), drop_end ord i (by omega)]
    rfl
  | d + 1, i, k, out, done, h, hd, ho, hk => by
    obtain ⟨k, rfl⟩ := succ_of (k := k) (by omega)
    have hq := rd_all hord i (by omega)
    have hp := pos_bd (s := s) (x := x) (done := done) hs.1 (by omega)
    have hpl := pos_len (r := r) hs.1 hx hd hr
    have hL : lenX s r (Int.tmod (x + done) s).toNat ≤ s.toNat := by unfold lenX; split <;> omega
    have hpn : (((Int.tmod (x + done) s).toNat : Nat) : Int) = Int.tmod (x + done) s := Int.toNat_of_nonneg hp.1
    obtain ⟨k1, hk1, e1⟩ := taken_l1 s r back hs (rd st (rd ord (i : Int))) x done (rd ord (i : Int)) (ord.length : Int) (i : Int) (Int.tmod (x + done) s).toNat (by omega) bud out ord (st.map (tabM s r back)) (by omega) (by omega) (s - done).toNat k hpl (by omega)
    have hnl := nextM_le s r back st bud x done (rd ord (i : Int)) hd.2
    rw [hpn, Int.toNat_of_nonneg (show 0 ≤ s - done by omega)] at e1
    have e2 := taken_l0 s r back hs st bud ord x hx hr hb hst hol hord d (i + 1) k1 (out.set (rd ord (i : Int)).toNat (nextM s r back st bud x done (rd ord (i : Int)) : Int)) (done + (nextM s r back st bud x done (rd ord (i : Int)) : Int)) (by omega) (by omega) (by rw [List.length_set]; exact ho) (by omega)
    simp only [impl_runs_taken.l0]
    rw [if_pos (by omega), if_pos (by omega), if_pos (by omega), if_pos hq.1, if_pos (by rw [List.length_map]; exact hq.2), if_neg (by omega), wrap64_id (x := x + done) (by omega) (by omega), if_pos hp.1, tabs_rd s r back st _ hq.1 hq.2, if_pos (by unfold tabM; simp; omega), tabM_rd s r back _ _ hp.1 hp.2, wrap64_id (x := s - done) (by omega) (by omega), e1, wrap_succ (n := ord.length) (by omega) (by omega), drop_rd ord i (by omega)]
    exact e2
theorem impl_taken_eq (k : Nat) (s : Int) (r back : Bool) (hs : 2 ≤ s ∧ s ≤ 24) (st bud ord : List Int) (x : Int) (hx : 0 ≤ x ∧ x < s) (hr : r = true ∨ x = 0) (hb : bud.length = st.length) (hst : st.length ≤ 4) (hol : ord.length ≤ 4) (hord : ∀ k ∈ ord, 0 ≤ k ∧ k < st.length) (hk : 500 < k) :
    impl_runs_taken.f k s r (st.map (tabM s r back)) bud x ord = some ((takeM s r back st bud x ord (List.replicate st.length 0) 0).1, (takeM s r back st bud x ord (List.replicate st.length 0) 0).2 == s) := by
  unfold impl_runs_taken.f
  rw [if_pos (by omega), if_pos (by omega), hb, Int.toNat_natCast]
  exact taken_l0 s r back hs st bud ord x hx hr hb hst hol hord ord.length 0 k _ 0 (by omega) (by omega) (by simp) (by omega)
theorem fitB_anti (s : Int) (r : Bool) (p x : Int) (back : Bool) (b : Int) (hs : 2 ≤ s) (hp : 0 ≤ p ∧ p ≤ s - 1) (hx : 0 ≤ x) : ∀ n, fitB s r p x back b (n + 1) = true → fitB s r p x back b n = true ∨ n = 0 := by
  intro n h
  left
  unfold fitB at h ⊢
  have := timeM_mono (r := r) (back := back) hs hp hx (show n ≤ n + 1 by omega)
  have h := of_decide_eq_true h
  exact decide_eq_true (by omega)
theorem spec_taken_l1 (s : Int) (r back : Bool) (hr : road s r = true) (st bud ord out : List Int) (x done i idx : Int) (hx : 0 ≤ x ∧ x < s) (hd : 0 ≤ done ∧ done ≤ s) (hst : ∀ p ∈ st, 0 ≤ p ∧ p ≤ s - 1) (hi : 0 ≤ i ∧ i < st.length) (hb : bud.length = st.length) (ho : i < out.length) : ∀ (d n k : Nat), n + d = (s - done).toNat → 10001 + d < k → ∃ k', k ≤ k' + d + 1 ∧
    spec_l6Taken.l1 k st bud x ord back out done idx i (n : Int) s r = spec_l6Taken.l0 k' st bud x ord back (out.set i.toNat (upM' (fitB s r (rd st i) (Int.tmod (x + done) s) back (rd bud i)) d n : Int)) (done + (upM' (fitB s r (rd st i) (Int.tmod (x + done) s) back (rd bud i)) d n : Int)) (wrap64 (idx + 1)) s r
  | 0, n, k, h, hk => by
    have hs := road_bd hr
    obtain ⟨k, rfl⟩ := succ_of (k := k) (by omega)
    refine ⟨k, by omega, ?_⟩
    simp only [spec_l6Taken.l1, upM']
    rw [wrap64_id (x := done + n) (by omega) (by omega), if_neg (by omega), if_pos hi.1, if_pos ho]
  | d + 1, n, k, h, hk => by
    have hs := road_bd hr
    obtain ⟨k, rfl⟩ := succ_of (k := k) (by omega)
    have hp := pos_bd (s := s) (x := x) (done := done) hs.1 (by omega)
    obtain ⟨j, hj⟩ := Int.eq_ofNat_of_zero_le hi.1
    have hq : 0 ≤ rd st i ∧ rd st i ≤ s - 1 := by rw [hj]; exact rd_all hst j (by omega)
    obtain ⟨k', hk', e⟩ := spec_taken_l1 s r back hr st bud ord out x done i idx hx hd hst hi hb ho d (n + 1) k (by omega) (by omega)
    simp only [spec_l6Taken.l1, upM']
    rw [wrap64_id (x := done + n) (by omega) (by omega), if_pos (by omega), if_pos hi.1, if_pos hi.2, if_neg (by omega), wrap64_id (x := x + done) (by omega) (by omega), wrap_succ (n := (s - done).toNat) (by omega) (by omega), spec_l6Time_eq k s r _ _ _ back hr hq (by omega) (by omega) (by omega), Option.bind_some, if_pos (by omega), Int.toNat_natCast]
    by_cases c : timeM s r (rd st i) (Int.tmod (x + done) s) (n + 1) back ≤ rd bud i
    · have cf : fitB s r (rd st i) (Int.tmod (x + done) s) back (rd bud i) (n + 1) = true := by unfold fitB; exact decide_eq_true c
      refine ⟨k', by omega, ?_⟩
      rw [if_pos c, cf, if_pos rfl]
      exact e
    · have cf : fitB s r (rd st i) (Int.tmod (x + done) s) back (rd bud i) (n + 1) = false := by unfold fitB; exact decide_eq_false c
      refine ⟨k, by omega, ?_⟩
      rw [if_neg c, if_pos ho, cf, if_neg (by simp)]
theorem spec_taken_l0 (s : Int) (r back : Bool) (hr : road s r = true) (st bud ord : List Int) (x : Int) (hx : 0 ≤ x ∧ x < s) (hst : ∀ p ∈ st, 0 ≤ p ∧ p ≤ s - 1) (hb : bud.length = st.length) (hol : ord.length ≤ 4) (hord : ∀ k ∈ ord, 0 ≤ k ∧ k < st.length) : ∀ (d i k : Nat) (out : List Int) (done : Int), i + d = ord.length → 0 ≤ done ∧ done ≤ s → out.length = st.length → 10010 + 100 * d < k →
    spec_l6Taken.l0 k st bud x ord back out done (i : Int) s r = some (takeM s r back st bud x (ord.drop i) out done)
  | 0, i, k, out, done, h, hd, ho, hk => by
    obtain ⟨k, rfl⟩ := succ_of (k := k) (by omega)
    simp only [spec_l6Taken.l0]
    rw [if_neg (by omega), drop_end ord i (by omega)]
    rfl
  | d + 1, i, k, out, done, h, hd, ho, hk => by
    have hs := road_bd hr
    obtain ⟨k, rfl⟩ := succ_of (k := k) (by omega)
    have hq := rd_all hord i (by omega)
    obtain ⟨j, hj⟩ := Int.eq_ofNat_of_zero_le hq.1
    have hp := pos_bd (s := s) (x := x) (done := done) hs.1 (by omega)
    have hp2 : 0 ≤ rd st (rd ord (i : Int)) ∧ rd st (rd ord (i : Int)) ≤ s - 1 := by rw [hj]; exact rd_all hst j (by omega)
    obtain ⟨k1, hk1, e1⟩ := spec_taken_l1 s r back hr st bud ord out x done (rd ord (i : Int)) (i : Int) hx hd hst hq hb (by omega) (s - done).toNat 0 k (by omega) (by omega)
    have hnl := nextM_le s r back st bud x done (rd ord (i : Int)) hd.2
    have e2 := spec_taken_l0 s r back hr st bud ord x hx hst hb hol hord d (i + 1) k1 (out.set (rd ord (i : Int)).toNat (nextM s r back st bud x done (rd ord (i : Int)) : Int)) (done + (nextM s r back st bud x done (rd ord (i : Int)) : Int)) (by omega) (by omega) (by rw [List.length_set]; exact ho) (by omega)
    rw [up_down _ (fitB_anti s r _ _ back _ hs.1 hp2 hp.1)] at e1
    simp only [spec_l6Taken.l0]
    rw [if_pos (by omega), if_pos (by omega)]
    rw [show ((0 : Nat) : Int) = 0 from rfl] at e1
    rw [e1, wrap_succ (n := ord.length) (by omega) (by omega), drop_rd ord i (by omega)]
    exact e2
theorem spec_taken_eq (k : Nat) (s : Int) (r back : Bool) (hr : road s r = true) (st bud ord : List Int) (x : Int) (hx : 0 ≤ x ∧ x < s) (hst : ∀ p ∈ st, 0 ≤ p ∧ p ≤ s - 1) (hsl : st.length ≤ 4) (hb : bud.length = st.length) (hol : ord.length ≤ 4) (hord : ∀ k ∈ ord, 0 ≤ k ∧ k < st.length) (hk : 11000 < k) :
    spec_l6Taken.f k s r st bud x ord back = some (takeM s r back st bud x ord (List.replicate st.length 0) 0) := by
  have hs := road_bd hr
  unfold spec_l6Taken.f
  rw [if_pos (by omega), if_pos (by omega), Int.toNat_natCast]
  exact spec_taken_l0 s r back hr st bud ord x hx hst hb hol hord ord.length 0 k _ 0 (by omega) (by omega) (by simp) (by omega)
theorem impl_orders (k n : Nat) (hn : n ≤ 4) : impl_allOrders.f k (n : Int) = some (ordL n n []) := by
  unfold impl_allOrders.f
  rw [if_pos (by omega), Int.toNat_natCast]
def budOk (s : Int) (r : Bool) (st bud : List Int) : Bool := allIn bud 0 99 && (road s r && inR (st.length : Int) 1 4 && allIn st 0 (s - 1)) && ((bud.length : Int) == (st.length : Int))
theorem spec_budgets_l0 (s : Int) (r : Bool) (st bud : List Int) (hl : st.length ≤ 1048576) (hl2 : bud.length ≤ 1048576) : ∀ (d i k : Nat), i + d = bud.length → 20 + d < k → spec_l6Budgets.l0 k st bud (i : Int) s r = some (allIn (bud.drop i) 0 99 && (road s r && inR (st.length : Int) 1 4 && allIn st 0 (s - 1)) && ((bud.length : Int) == (st.length : Int)))
  | 0, i, k, h, hk => by
    obtain ⟨k, rfl⟩ := succ_of (k := k) (by omega)
    simp only [spec_l6Budgets.l0]
    rw [if_neg (by omega), drop_end bud i (by omega), spec_l6Starts_eq k s r st (by omega) (by omega), Option.bind_some]
    show _ = some (true && _ && _)
    cases (road s r && inR (st.length : Int) 1 4 && allIn st 0 (s - 1)) <;> simp
  | d + 1, i, k, h, hk => by
    obtain ⟨k, rfl⟩ := succ_of (k := k) (by omega)
    simp only [spec_l6Budgets.l0]
    rw [if_pos (by omega), if_pos (by omega), spec_l1In_eq, Option.bind_some, wrap_succ (n := bud.length) (by omega) (by omega), spec_budgets_l0 s r st bud hl hl2 d (i + 1) k (by omega) (by omega), drop_rd bud i (by omega)]
    unfold allIn
    rw [List.all_cons]
    cases inR (rd bud (i : Int)) 0 99 <;> simp
theorem spec_budgets_eq (k : Nat) (s : Int) (r : Bool) (st bud : List Int) (hl : st.length ≤ 1048576) (hl2 : bud.length ≤ 1048576) (hk : 1048600 < k) : spec_l6Budgets.f k s r st bud = some (budOk s r st bud) := by
  unfold spec_l6Budgets.f budOk
  have := spec_budgets_l0 s r st bud hl hl2 bud.length 0 k (by omega) (by omega)
  simpa using this
theorem budOk_bd {s : Int} {r : Bool} {st bud : List Int} (h : budOk s r st bud = true) : road s r = true ∧ (1 ≤ st.length ∧ st.length ≤ 4) ∧ (∀ p ∈ st, 0 ≤ p ∧ p ≤ s - 1) ∧ bud.length = st.length ∧ ∀ b ∈ bud, 0 ≤ b ∧ b ≤ 99 := by
  unfold budOk at h
  simp only [Bool.and_eq_true] at h
  have h1 := inR_iff.1 h.1.2.1.2
  have h2 := beq_iff_eq.1 h.2
  exact ⟨h.1.2.1.1, by omega, fun p hp => inR_iff.1 (List.all_eq_true.1 h.1.2.2 p hp), by omega, fun b hb => inR_iff.1 (List.all_eq_true.1 h.1.1 b hb)⟩
theorem impl_budgets_eq (k : Nat) (s : Int) (r : Bool) (st bud : List Int) (hl : st.length ≤ 1048576) (hl2 : bud.length ≤ 1048576) (hk : 1048600 < k) : impl_areBudgets.f k s r st bud = some (budOk s r st bud) := by
  unfold impl_areBudgets.f budOk
  rw [impl_IsRoad_eq, Option.bind_some]
  cases hr : road s r with
  | false => simp
  | true =>
    rw [if_pos rfl, impl_Road_areExplorers_eq k s r st hr (by omega) (by omega), Option.bind_some]
    cases hc : (inR (st.length : Int) 1 4 && allIn st 0 (s - 1)) with
    | false =>
      have : (true && inR (st.length : Int) 1 4 && allIn st 0 (s - 1)) = false := by rw [Bool.true_and]; exact hc
      rw [this]
      simp
    | true =>
      have : (true && inR (st.length : Int) 1 4 && allIn st 0 (s - 1)) = true := by rw [Bool.true_and]; exact hc
      rw [this, if_pos rfl, impl_allWithin_eq k bud 0 99 (by omega) (by omega), Option.bind_some]
      by_cases c : (bud.length : Int) = (st.length : Int)
      · rw [if_pos c, beq_iff_eq.2 c]
        simp
      · rw [if_neg c, beq_eq_false_iff_ne.2 c]
        simp
def ordOk (n : Nat) (l : List Int) : Bool := ((List.range n).all fun j => l.any fun y => decide (y = (j : Int))) && ((l.length : Int) == (n : Int))
theorem spec_order_l0 (l : List Int) (n : Nat) (hl : l.length ≤ 1048576) (hn : n ≤ 4) : ∀ (d i k : Nat), i + d = n → l.length + d + 1 < k → spec_l6Order.l0 k l (n : Int) (i : Int) = some (((List.range d).all fun j => l.any fun y => decide (y = ((i + j : Nat) : Int))) && ((l.length : Int) == (n : Int)))
  | 0, i, k, h, hk => by
    obtain ⟨k, rfl⟩ := succ_of (k := k) (by omega)
    simp only [spec_l6Order.l0]
    rw [if_neg (by omega)]
    simp
  | d + 1, i, k, h, hk => by
    obtain ⟨k, rfl⟩ := succ_of (k := k) (by omega)
    simp only [spec_l6Order.l0]
    rw [if_pos (by omega), spec_l1Has_eq k (i : Int) l (by omega) (by omega), Option.bind_some, List.range_succ_eq_map, List.all_cons, List.all_map, Nat.add_zero]
    cases hx : (l.any fun y => decide (y = (i : Int))) with
    | false => simp
    | true =>
      rw [if_pos rfl, wrap_succ (n := 10) (by omega) (by omega), spec_order_l0 l n hl hn d (i + 1) k (by omega) (by omega), Bool.true_and]
      have e : ((fun j => l.any fun y => decide (y = ((i + j : Nat) : Int))) ∘ Nat.succ) = (fun j => l.any fun y => decide (y = ((i + 1 + j : Nat) : Int))) := by
        funext j
        simp only [Function.comp, Nat.succ_eq_add_one, Nat.add_assoc, Nat.add_comm 1 j]
      rw [e]
theorem spec_order_eq (k : Nat) (l : List Int) (n : Nat) (hl : l.length ≤ 1048576) (hn : n ≤ 4) (hk : l.length + 10 < k) : spec_l6Order.f k l (n : Int) = some (ordOk n l) := by
  unfold spec_l6Order.f ordOk
  have := spec_order_l0 l n hl hn n 0 k (by omega) (by omega)
  simpa using this
theorem slices_Equal_l0 (a b : List Int) (h : a.length = b.length) (hl : a.length ≤ 1048576) : ∀ (d i k : Nat), i + d = a.length → d < k → slices_Equal_int_int.l0 k a b (a.length : Int) (i : Int) = some (decide (a.drop i = b.drop i))
  | 0, i, k, hi, hk => by
    obtain ⟨k, rfl⟩ := succ_of (k := k) (by omega)
    simp only [slices_Equal_int_int.l0]
    rw [if_neg (by omega), List.drop_of_length_le (by omega), List.drop_of_length_le (by omega)]
    simp
  | d + 1, i, k, hi, hk => by
    obtain ⟨k, rfl⟩ := succ_of (k := k) (by omega)
    simp only [slices_Equal_int_int.l0]
    rw [if_pos (by omega), if_pos (by omega), if_pos (by omega), if_pos (by omega), rd_nat a i (by omega), rd_nat b i (by omega), List.drop_eq_getElem_cons (show i < a.length by omega), List.drop_eq_getElem_cons (show i < b.length by omega)]
    by_cases c : a[i] = b[i]
    · rw [if_pos c, wrap_succ (n := 1048577) (by omega) (by omega), slices_Equal_l0 a b h hl d (i + 1) k (by omega) (by omega)]
      exact congrArg some (decide_eq_decide.2 ⟨fun h => by rw [c, h], fun h => (List.cons.inj h).2⟩)
    · rw [if_neg c]
      exact congrArg some (decide_eq_false (fun h => c (List.cons.inj h).1)).symm
theorem slices_Equal_eq (k : Nat) (a b : List Int) (hl : a.length ≤ 1048576) (hk : a.length < k) : slices_Equal_int_int.f k a b = some (decide (a = b)) := by
  unfold slices_Equal_int_int.f
  by_cases c : (a.length : Int) = (b.length : Int)
  · rw [if_pos c]
    have := slices_Equal_l0 a b (by omega) hl a.length 0 k (by omega) hk
    simpa using this
  · rw [if_neg c]
    have : a ≠ b := fun e => c (by rw [e])
    simp [this]
theorem perm_of_sub {α : Type} [BEq α] [LawfulBEq α] : ∀ (l1 l2 : List α), l1.Nodup → (∀ x ∈ l1, x ∈ l2) → l2.length ≤ l1.length → l1.Perm l2
  | [], l2, _, _, hl => by
    have : l2 = [] := List.eq_nil_of_length_eq_zero (by simpa using hl)
    rw [this]
  | x :: l1, l2, hn, hs, hl => by
    rw [List.nodup_cons] at hn
    have hx := hs x List.mem_cons_self
    have hp := List.perm_cons_erase hx
    have hlen := List.length_erase_of_mem hx
    have hpos : 0 < l2.length := List.length_pos_of_mem hx
    rw [List.length_cons] at hl
    have ih := perm_of_sub l1 (l2.erase x) hn.2 (fun y hy => (List.mem_erase_of_ne (fun e => hn.1 (by rw [e] at hy; exact hy))).2 (hs y (List.mem_cons_of_mem _ hy))) (by omega)
    exact (ih.cons x).trans hp.symm
def rangeI (n : Nat) : List Int := (List.range n).map fun i : Nat => (i : Int)
theorem sortV_range (n : Nat) (l : List Int) (hl : l.length = n) : decide (sortV l = rangeI n) = ordOk n l := by
  have hiff : sortV l = rangeI n ↔ ordOk n l = true := by
    unfold ordOk
    rw [Bool.and_eq_true, List.all_eq_true, hl]
    have hnd : (rangeI n).Nodup := List.pairwise_map.2 ((List.nodup_range (n := n)).imp (fun {a b} hab e => hab (by omega)))
    constructor
    · intro h
      refine ⟨fun j hj => ?_, by simp⟩
      have hm : (j : Int) ∈ sortV l := by rw [h]; exact List.mem_map.2 ⟨j, hj, rfl⟩
      have hm2 : (j : Int) ∈ l := (List.mergeSort_perm l _).mem_iff.1 hm
      exact List.any_eq_true.2 ⟨(j : Int), hm2, by simp⟩
    · rintro ⟨h, -⟩
      have hsub : ∀ x ∈ rangeI n, x ∈ l := by
        intro x hx
        obtain ⟨j, hj, rfl⟩ := List.mem_map.1 hx
        obtain ⟨y, hy, e⟩ := List.any_eq_true.1 (h j hj)
        rw [← of_decide_eq_true e]
        exact hy
      have hp : (rangeI n).Perm l := perm_of_sub _ _ hnd hsub (by simp [rangeI, hl])
      refine List.Perm.eq_of_pairwise (le := fun a b : Int => a ≤ b) (fun a b _ _ h1 h2 => by omega) ?_ ?_ ((List.mergeSort_perm l _).trans hp.symm)
      · have hs := List.pairwise_mergeSort (le := fun x y : Int => decide (x ≤ y)) (fun a b c h1 h2 => decide_eq_true (Int.le_trans (of_decide_eq_true h1) (of_decide_eq_true h2))) (fun a b => by rcases Int.le_total a b with h | h <;> simp [h]) l
        exact hs.imp (fun {a b} h => of_decide_eq_true h)
      · exact List.pairwise_map.2 (List.pairwise_lt_range.imp (fun {a b} h => by omega))
  cases ho : ordOk n l with
  | true => exact decide_eq_true (hiff.2 ho)
  | false => exact decide_eq_false (fun h => by rw [hiff.1 h] at ho; cases ho)
theorem takeM_len (s : Int) (r back : Bool) (st bud : List Int) (x : Int) : ∀ (ks out : List Int) (done : Int), (takeM s r back st bud x ks out done).1.length = out.length
  | [], out, done => rfl
  | k :: ks, out, done => by
    show (takeM s r back st bud x ks (out.set k.toNat _) _).1.length = _
    rw [takeM_len s r back st bud x ks, List.length_set]
def takenRunsM (s : Int) (r back : Bool) (st bud : List Int) (x : Int) (o : List Int) : List Int × Bool := if (budOk s r st bud && inR x 0 (s - 1) && (r || x == 0) && ordOk st.length o) = true then ((takeM s r back st bud x o (List.replicate st.length 0) 0).1, true) else ([], false)
theorem takenRunsM_len (s : Int) (r back : Bool) (st bud : List Int) (x : Int) (o : List Int) : (takenRunsM s r back st bud x o).1.length ≤ 4 := by
  unfold takenRunsM
  by_cases c : (budOk s r st bud && inR x 0 (s - 1) && (r || x == 0) && ordOk st.length o) = true
  · rw [if_pos c, takeM_len, List.length_replicate]
    rw [Bool.and_eq_true, Bool.and_eq_true, Bool.and_eq_true] at c
    exact (budOk_bd c.1.1.1).2.1.2
  · rw [if_neg c]
    simp
theorem ordOk_bd {n : Nat} {o : List Int} (h : ordOk n o = true) : o.length = n ∧ ∀ k ∈ o, 0 ≤ k ∧ k < (n : Int) := by
  unfold ordOk at h
  rw [Bool.and_eq_true, List.all_eq_true] at h
  have hl : o.length = n := by have := beq_iff_eq.1 h.2; omega
  refine ⟨hl, fun k hk => ?_⟩
  have hnd : (rangeI n).Nodup := List.pairwise_map.2 ((List.nodup_range (n := n)).imp (fun {a b} hab e => hab (by omega)))
  have hsub : ∀ x ∈ rangeI n, x ∈ o := by
    intro x hx
    obtain ⟨j, hj, rfl⟩ := List.mem_map.1 hx
    obtain ⟨y, hy, e⟩ := List.any_eq_true.1 (h.1 j hj)
    rw [← of_decide_eq_true e]
    exact hy
  have hp : (rangeI n).Perm o := perm_of_sub _ _ hnd hsub (by simp [rangeI, hl])
  obtain ⟨j, hj, rfl⟩ := List.mem_map.1 (hp.mem_iff.2 hk)
  have := List.mem_range.1 hj
  omega
theorem spec_TakenRuns_eq (k : Nat) (s : Int) (r back : Bool) (st bud : List Int) (x : Int) (o : List Int) (hl : st.length ≤ 1048576) (hl2 : bud.length ≤ 1048576) (hl3 : o.length ≤ 1048576) (hk : 1048600 < k) : spec_TakenRuns.f k s r st bud x o back = some (takenRunsM s r back st bud x o) := by
  unfold spec_TakenRuns.f takenRunsM
  rw [spec_budgets_eq k s r st bud hl hl2 hk, Option.bind_some]
  cases hb : budOk s r st bud with
  | false => simp
  | true =>
    have h := budOk_bd hb
    rw [if_pos rfl, spec_l2Place_eq, Option.bind_some, h.1, Bool.true_and]
    cases hp : inR x 0 (s - 1) with
    | false => simp
    | true =>
      have hx := inR_iff.1 hp
      rw [if_pos rfl, spec_order_eq k o st.length hl3 h.2.1.2 (by omega), Option.bind_some, Bool.true_and]
      have hgo : (r = true ∨ x = 0) → (if ordOk st.length o = true then ((spec_l6Taken.f k s r st bud x o back).bind fun bt => some (bt.1, true)) else some (([] : List Int), false)) = some (if ordOk st.length o = true then ((takeM s r back st bud x o (List.replicate st.length 0) 0).1, true) else ([], false)) := by
        intro hr
        cases ho : ordOk st.length o with
        | false => simp
        | true =>
          have hoo := ordOk_bd ho
          rw [if_pos rfl, if_pos rfl, spec_taken_eq k s r back h.1 st bud o x ⟨hx.1, by omega⟩ h.2.2.1 h.2.1.2 h.2.2.2.1 (by omega) hoo.2 (by omega), Option.bind_some]
      cases r with
      | true =>
        rw [if_pos rfl, hgo (.inl rfl)]
        simp
      | false =>
        rw [if_neg (by simp)]
        by_cases c : x = 0
        · rw [if_pos c, hgo (.inr c)]
          simp [c]
        · rw [if_neg c]
          simp [c]
theorem ordL_first (n : Nat) (h : 1 ≤ n ∧ n ≤ 4) : 0 < (ordL n n []).length ∧ rd_L1 (ordL n n []) 0 = rangeI n := by
  obtain h | h | h | h : n = 1 ∨ n = 2 ∨ n = 3 ∨ n = 4 := by omega
  all_goals (subst h; decide +kernel)
theorem impl_taken_j1 (k : Nat) (s : Int) (r back : Bool) (st bud : List Int) (x : Int) (o : List Int) : impl_TakenRuns.j1 (k + 1) st bud x o back true s r = some ([], false) := by
  simp only [impl_TakenRuns.j1]
  rw [if_pos trivial]
theorem impl_TakenRuns_eq (k : Nat) (s : Int) (r back : Bool) (st bud : List Int) (x : Int) (o : List Int) (hl : st.length ≤ 1048576) (hl2 : bud.length ≤ 1048576) (hl3 : o.length ≤ 1048576) (hk : 1048610 < k) : impl_TakenRuns.f k s r st bud x o back = some (takenRunsM s r back st bud x o) := by
  obtain ⟨k, rfl⟩ := succ_of (k := k) (by omega)
  have hbad : impl_TakenRuns.j0 (k + 1) st bud x o back true s r = some ([], false) := by
    simp only [impl_TakenRuns.j0]
    rw [if_pos trivial]
  unfold impl_TakenRuns.f takenRunsM
  rw [impl_budgets_eq (k + 1) s r st bud hl hl2 (by omega), Option.bind_some]
  cases hb : budOk s r st bud with
  | false => rw [if_neg (by simp), hbad]; simp
  | true =>
    have h := budOk_bd hb
    have hs := road_bd h.1
    rw [if_pos rfl, impl_Road_has1 (k + 1) s r x h.1 (by omega), Option.bind_some, Bool.true_and]
    cases hp : inR x 0 (s - 1) with
    | false => rw [if_neg (by simp), hbad]; simp
    | true =>
      have hx := inR_iff.1 hp
      rw [if_pos rfl, Bool.true_and]
      have hgo : (r = true ∨ x = 0) → impl_TakenRuns.j0 (k + 1) st bud x o back false s r = some (if ordOk st.length o = true then ((takeM s r back st bud x o (List.replicate st.length 0) 0).1, true) else ([], false)) := by
        intro hr
        obtain ⟨k, rfl⟩ := succ_of (k := k) (by omega)
        simp only [impl_TakenRuns.j0]
        have hso : slices_Sorted_int.f (k + 1) o = some (sortV o) := by unfold slices_Sorted_int.f; rw [if_pos hl3]
        rw [if_neg (by simp), hso, Option.bind_some]
        by_cases c : (o.length : Int) = (st.length : Int)
        · have hn := ordL_first st.length h.2.1
          have hsl : (sortV o).length = o.length := List.length_mergeSort _
          rw [if_pos c, impl_orders (k + 1) st.length h.2.1.2, Option.bind_some, if_pos (by omega), slices_Equal_eq (k + 1) (sortV o) _ (by omega) (by omega), Option.bind_some, hn.2, sortV_range st.length o (by omega)]
          cases ho : ordOk st.length o with
          | false => exact (impl_taken_j1 k s r back st bud x o).trans (by simp)
          | true =>
            have hoo := ordOk_bd ho
            simp only [impl_TakenRuns.j1]
            rw [if_neg (by simp), if_pos trivial, impl_newRuns_eq k s r back h.1 st h.2.1.2 h.2.2.1 (by omega), Option.bind_some, impl_taken_eq k s r back ⟨hs.1, hs.2.1⟩ st bud o x ⟨hx.1, by omega⟩ hr h.2.2.2.1 h.2.1.2 (by omega) hoo.2 (by omega), Option.bind_some]
        · have ho : ordOk st.length o = false := by
            unfold ordOk
            simp [c]
          rw [if_neg c, ho, if_neg (by simp)]
          exact impl_taken_j1 k s r back st bud x o
      cases r with
      | true =>
        rw [if_pos rfl, hgo (.inl rfl)]
        simp
      | false =>
        rw [if_neg (by simp)]
        by_cases c : x = 0
        · subst c
          rw [show ((0 : Int) != 0) = false from rfl, hgo (.inr rfl)]
          simp
        · rw [show (x != 0) = true from by simp [c], hbad]
          simp [c]

theorem FnExactTakenRuns (a0_0 : Int) (a0_1 : Bool) (l1 : List (Int)) (l2 : List (Int)) (a3 : Int) (l4 : List (Int)) (a5 : Bool)
    (h0 : ((Lit.int .i64 (a0_0)).wf = true)) (h1 : True) (h2 : (l1.length ≤ maxLen ∧ ∀ y0 ∈ l1, ((Lit.int .i64 (y0)).wf = true))) (h3 : (l2.length ≤ maxLen ∧ ∀ y0 ∈ l2, ((Lit.int .i64 (y0)).wf = true))) (h4 : ((Lit.int .i64 (a3)).wf = true)) (h5 : (l4.length ≤ maxLen ∧ ∀ y0 ∈ l4, ((Lit.int .i64 (y0)).wf = true))) :
    ∃ k, laws_FnExactTakenRuns.f k a0_0 a0_1 l1 l2 a3 l4 a5 = some true := by
  refine ⟨1048640, ?_⟩
  unfold laws_FnExactTakenRuns.f
  by_cases c : (l1.length : Int) > 1048576
  · rw [if_pos c]
  rw [if_neg c]
  by_cases c2 : (l2.length : Int) > 1048576
  · rw [if_pos c2]
  rw [if_neg c2]
  by_cases c3 : (l4.length : Int) > 1048576
  · rw [if_pos c3]
  rw [if_neg c3]
  have hlen := takenRunsM_len a0_0 a0_1 a5 l1 l2 a3 l4
  have hS := spec_TakenRuns_eq 1048640 a0_0 a0_1 a5 l1 l2 a3 l4 (by omega) (by omega) (by omega) (by omega)
  have hI := impl_TakenRuns_eq 1048640 a0_0 a0_1 a5 l1 l2 a3 l4 (by omega) (by omega) (by omega) (by omega)
  have hI2 := impl_TakenRuns_eq 1048638 a0_0 a0_1 a5 l1 l2 a3 l4 (by omega) (by omega) (by omega) (by omega)
  obtain ⟨v, hv⟩ : ∃ v, v = takenRunsM a0_0 a0_1 a5 l1 l2 a3 l4 := ⟨_, rfl⟩
  rw [← hv] at hlen hS hI hI2
  obtain ⟨o, b⟩ := v
  simp only at hlen
  have hbb : (b != b) = false := by cases b <;> rfl
  have hj2 : laws_FnExactTakenRuns.j2 1048638 (marks 1 o.length) (1 + (o.length : Int)) false = some true := by
    simp only [laws_FnExactTakenRuns.j2]
    rw [if_neg (by simp), laws_heldIntS_eq 1048637 o.length 1 (by omega) (by omega) (by omega), Option.bind_some, if_neg (by omega), if_pos rfl]
  have hj1 : laws_FnExactTakenRuns.j1 1048639 l1 l2 a3 l4 a5 o b o false a0_0 a0_1 = some true := by
    simp only [laws_FnExactTakenRuns.j1]
    rw [if_neg (by simp), laws_markIntS_eq 1048638 o 1 (by omega) (by omega) (by omega), Option.bind_some, laws_heldIntS_eq 1048638 o.length 1 (by omega) (by omega) (by omega), Option.bind_some, if_neg (by omega), if_pos rfl, laws_toRoad_eq, Option.bind_some, laws_toIntS_eq 1048638 l1 (by omega) (by omega), Option.bind_some, laws_toIntS_eq 1048638 l2 (by omega) (by omega), Option.bind_some, laws_toIntS_eq 1048638 l4 (by omega) (by omega), Option.bind_some, hI2, Option.bind_some, laws_eqIntS_self 1048638 o (by omega) (by omega), Option.bind_some, if_pos rfl, hbb]
    exact hj2
  simp only [laws_toRoad_eq, Option.bind_some, laws_toIntS_eq 1048640 l1 (by omega) (by omega), laws_toIntS_eq 1048640 l2 (by omega) (by omega), laws_toIntS_eq 1048640 l4 (by omega) (by omega), hS, hI, laws_eqIntS_self 1048640 o (by omega) (by omega), if_true, hbb]
  simp only [laws_FnExactTakenRuns.j0]
  rw [if_neg (by simp), laws_toIntS_eq 1048639 l1 (by omega) (by omega), Option.bind_some, laws_eqIntS_self 1048639 l1 (by omega) (by omega), Option.bind_some, if_pos rfl, laws_toIntS_eq 1048639 l2 (by omega) (by omega), Option.bind_some, laws_eqIntS_self 1048639 l2 (by omega) (by omega), Option.bind_some, if_pos rfl, laws_toIntS_eq 1048639 l4 (by omega) (by omega), Option.bind_some, laws_eqIntS_self 1048639 l4 (by omega) (by omega), Option.bind_some, if_pos rfl, laws_markIntS_eq 1048639 l1 1 (by omega) (by omega) (by omega), Option.bind_some, laws_markIntS_eq 1048639 l2 _ (by omega) (by omega) (by omega), Option.bind_some, laws_markIntS_eq 1048639 l4 _ (by omega) (by omega) (by omega), Option.bind_some, if_neg (by omega), laws_eqIntS_self 1048639 o (by omega) (by omega), Option.bind_some, if_pos rfl, hbb]
  exact hj1

end Go.Proofs.Ythnaghigpgfchaa.Pure
