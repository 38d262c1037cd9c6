/- Plain facts on numbers and lists: what the functions that the law FnExactIsPatrol reaches answer, and that the law's own function answers true. No program, no memory. -/
import Derived.Test.YtgoapgogdkiooaaPFnExactIsPatrolx1
import Derived.Test.YtgoapgogdkiooaaPFnExactIsPatrolx2
import Derived.Test.YtgoapgogdkiooaaPFnExactIsPatrolx3
import Derived.Test.YtgoapgogdkiooaaPFnExactIsPatrolx4
import Derived.Test.YtgoapgogdkiooaaPFnExactIsPatrolx5
namespace Go.Proofs.Ytgoapgogdkiooaa.Pure
open Go.RowKit Go.Proofs.Ytgoapgogdkiooaa.PFnExactIsPatrol Go.Proofs.YtgoapgogdkiooaaW.PrintWords Go.Proofs.YtgoapgogdkiooaaW.PrintLast Go.Proofs.YtgoapgogdkiooaaW.PrintMore
set_option linter.unusedVariables false
set_option linter.unusedSimpArgs false
theorem wrap64_id {x : Int} (h1 : -9223372036854775808 ≤ x) (h2 : x ≤ 9223372036854775807) : wrap64 x = x := by unfold wrap64; omega
theorem i64_of {x : Int} (h : (Lit.int .i64 x).wf = true) : -9223372036854775808 ≤ x ∧ x ≤ 9223372036854775807 := by
  simp [Lit.wf, IntKind.min, IntKind.max, IntKind.bits, IntKind.signed, IntKind.wrap] at h
  omega
def inR (x a b : Int) : Bool := decide (a ≤ x) && decide (x ≤ b)
theorem inR_iff {x a b : Int} : inR x a b = true ↔ a ≤ x ∧ x ≤ b := by unfold inR; simp
theorem inR_not {x a b : Int} : inR x a b = false ↔ ¬ (a ≤ x ∧ x ≤ b) := by rw [← inR_iff]; simp
def road (s : Int) (r : Bool) : Bool := inR s 2 24 && (!r || decide (3 ≤ s))
theorem road_bd {s : Int} {r : Bool} (h : road s r = true) : 2 ≤ s ∧ s ≤ 24 ∧ (r = true → 3 ≤ s) := by
  unfold road at h
  rw [Bool.and_eq_true, inR_iff] at h
  refine ⟨h.1.1, h.1.2, fun hr => ?_⟩
  have := h.2
  simp [hr] at this
  exact this
theorem spec_l1In_eq (a b c : Int) : spec_l1In.f a b c = some (inR a b c) := by
  unfold spec_l1In.f inR
  by_cases h : a ≥ b
  · have h' : b ≤ a := h
    simp [h, h']
  · have h' : ¬ b ≤ a := h
    simp [h, h']
theorem impl_within_eq (a b c : Int) : impl_within.f a b c = some (inR a b c) := by
  unfold impl_within.f inR
  by_cases h : a ≥ b
  · have h' : b ≤ a := h
    simp [h, h']
  · have h' : ¬ b ≤ a := h
    simp [h, h']
theorem spec_l2Road_eq (s : Int) (r : Bool) : spec_l2Road.f s r = some (road s r) := by
  unfold spec_l2Road.f road
  rw [spec_l1In_eq, Option.bind_some]
  cases inR s 2 24 <;> cases r <;> simp
  omega
theorem impl_IsRoad_eq (s : Int) (r : Bool) : impl_IsRoad.f s r = some (road s r) := by
  unfold impl_IsRoad.f road
  rw [impl_within_eq, Option.bind_some]
  cases inR s 2 24 <;> cases r <;> simp
theorem laws_toRoad_eq (s : Int) (r : Bool) : laws_toRoad.f s r = some (s, r) := rfl
theorem wrap_succ {i n : Nat} (h : i < n) (hn : n ≤ 9223372036854775807) : wrap64 ((i : Int) + 1) = ((i + 1 : Nat) : Int) := by unfold wrap64; omega
theorem drop_rd (l : List Int) (i : Nat) (h : i < l.length) : l.drop i = rd l (i : Int) :: l.drop (i + 1) := by
  rw [List.drop_eq_getElem_cons h]
  unfold rd
  simp [List.getD_eq_getElem?_getD, h]
theorem rd_get (l : List Int) (i : Nat) (h : i < l.length) : rd l (i : Int) = l[i] := by
  unfold rd
  simp [List.getD_eq_getElem?_getD, h]
theorem succ_of {k : Nat} (h : 0 < k) : ∃ m, k = m + 1 := ⟨k - 1, by omega⟩
theorem drop_end {α : Type} (l : List α) (i : Nat) (h : l.length ≤ i) : l.drop i = [] := List.drop_of_length_le h
def allIn (l : List Int) (a b : Int) : Bool := l.all (fun x => inR x a b)
/-- Numbers in line, from a on. -/
def marks (a : Int) : Nat → List Int
  | 0 => []
  | n + 1 => a :: marks (a + 1) n
theorem marks_len (a : Int) (n : Nat) : (marks a n).length = n := by
  induction n generalizing a with
  | zero => rfl
  | succ n ih => simp [marks, ih]
theorem marks_snoc (a : Int) (n : Nat) : marks a (n + 1) = marks a n ++ [a + n] := by
  induction n generalizing a with
  | zero => simp [marks]
  | succ n ih =>
    rw [marks, ih (a + 1)]
    simp [marks]
    omega
theorem marks_rd (a : Int) (n i : Nat) (h : i < n) : rd (marks a n) (i : Int) = a + i := by
  rw [rd_get _ _ (by rw [marks_len]; exact h)]
  induction n generalizing a i with
  | zero => omega
  | succ n ih =>
    cases i with
    | zero => simp [marks]
    | succ i =>
      simp only [marks, List.getElem_cons_succ]
      rw [ih (a + 1) i (by omega)]
      omega
theorem impl_allWithin_l0 (lo hi : Int) (l : List Int) (hl : l.length ≤ 9223372036854775807) : ∀ (d i k : Nat), i + d = l.length → d < k →
    impl_allWithin.l0 k lo hi l (l.length : Int) (i : Int) = some (allIn (l.drop i) lo hi)
  | 0, i, k, h, hk => by
    obtain ⟨k, rfl⟩ := succ_of (k := k) (by omega)
    simp only [impl_allWithin.l0]
    rw [if_neg (by omega), drop_end l i (by omega)]
    rfl
  | d + 1, i, k, h, hk => by
    obtain ⟨k, rfl⟩ := succ_of (k := k) (by omega)
    simp only [impl_allWithin.l0]
    rw [if_pos (by omega), if_pos (by omega), if_pos (by omega), impl_within_eq, Option.bind_some, wrap_succ (n := l.length) (by omega) hl, impl_allWithin_l0 lo hi l hl d (i + 1) k (by omega) (by omega), drop_rd l i (by omega)]
    unfold allIn
    rw [List.all_cons]
    cases inR (rd l (i : Int)) lo hi <;> simp
theorem impl_allWithin_eq (k : Nat) (l : List Int) (a b : Int) (hl : l.length ≤ 9223372036854775807) (hk : l.length < k) : impl_allWithin.f k l a b = some (allIn l a b) := by
  unfold impl_allWithin.f
  have := impl_allWithin_l0 a b l hl l.length 0 k (by omega) hk
  simpa using this
theorem impl_Road_has_eq (k : Nat) (s : Int) (r : Bool) (l : List Int) (hl : l.length ≤ 9223372036854775807) (hk : l.length < k) : impl_Road_has.f k s r l = some (allIn l 0 (wrap64 (s - 1))) := by
  unfold impl_Road_has.f
  rw [impl_allWithin_eq k l _ _ hl hk, Option.bind_some]
theorem impl_Road_has1 (k : Nat) (s : Int) (r : Bool) (x : Int) (hs : road s r = true) (hk : 1 < k) : impl_Road_has.f k s r [x] = some (inR x 0 (s - 1)) := by
  rw [impl_Road_has_eq k s r [x] (by simp) (by simpa using hk)]
  have := road_bd hs
  rw [wrap64_id (by omega) (by omega)]
  simp [allIn]
theorem impl_Road_hasN (k : Nat) (s : Int) (r : Bool) (l : List Int) (hs : road s r = true) (hl : l.length ≤ 9223372036854775807) (hk : l.length < k) : impl_Road_has.f k s r l = some (allIn l 0 (s - 1)) := by
  rw [impl_Road_has_eq k s r l hl hk]
  have := road_bd hs
  rw [wrap64_id (by omega) (by omega)]
theorem laws_eqIntS_l0 (l : List Int) (hl : l.length ≤ 9223372036854775807) : ∀ (d i k : Nat), i + d = l.length → d < k → laws_eqIntS.l0 k l l (i : Int) = some true
  | 0, i, k, h, hk => by
    obtain ⟨k, rfl⟩ := succ_of (k := k) (by omega)
    simp only [laws_eqIntS.l0]
    rw [if_neg (by omega)]
  | d + 1, i, k, h, hk => by
    obtain ⟨k, rfl⟩ := succ_of (k := k) (by omega)
    simp only [laws_eqIntS.l0]
    rw [if_pos (by omega), if_pos (by omega), if_pos (by omega), if_pos trivial, wrap_succ (n := l.length) (by omega) hl]
    exact laws_eqIntS_l0 l hl d (i + 1) k (by omega) (by omega)
theorem laws_eqIntS_self (k : Nat) (l : List Int) (hl : l.length ≤ 9223372036854775807) (hk : l.length < k) : laws_eqIntS.f k l l = some true := by
  unfold laws_eqIntS.f
  rw [if_pos rfl]
  have := laws_eqIntS_l0 l hl l.length 0 k (by omega) hk
  simpa using this
theorem laws_toIntS_l0 (l : List Int) (hl : l.length ≤ 9223372036854775807) : ∀ (d i k : Nat), i + d = l.length → d < k → laws_toIntS.l0 k l (l.take i ++ List.replicate d 0) (i : Int) = some l
  | 0, i, k, h, hk => by
    obtain ⟨k, rfl⟩ := succ_of (k := k) (by omega)
    simp only [laws_toIntS.l0]
    rw [if_neg (by omega), List.take_of_length_le (by omega)]
    simp
  | d + 1, i, k, h, hk => by
    obtain ⟨k, rfl⟩ := succ_of (k := k) (by omega)
    simp only [laws_toIntS.l0]
    rw [if_pos (by omega), if_pos (by omega), if_pos (by simp; omega), wrap_succ (n := l.length) (by omega) hl]
    have e : (l.take i ++ List.replicate (d + 1) 0).set ((i : Int)).toNat (rd l (i : Int)) = l.take (i + 1) ++ List.replicate d 0 := by
      rw [Int.toNat_natCast, List.set_append_right _ _ (by simp; omega)]
      rw [List.length_take, Nat.min_eq_left (by omega), Nat.sub_self, List.replicate_succ, List.set_cons_zero, rd_get l i (by omega)]
      rw [List.take_succ_eq_append_getElem (show i < l.length by omega), List.append_assoc]
      rfl
    rw [e]
    exact laws_toIntS_l0 l hl d (i + 1) k (by omega) (by omega)
theorem laws_toIntS_eq (k : Nat) (l : List Int) (hl : l.length ≤ 35184372088832) (hk : l.length < k) : laws_toIntS.f k l = some l := by
  unfold laws_toIntS.f
  rw [if_pos (by omega), if_pos (by simpa using hl)]
  have := laws_toIntS_l0 l (by omega) l.length 0 k (by omega) hk
  simpa using this
theorem spec_l2Place_eq (s : Int) (r : Bool) (x : Int) : spec_l2Place.f s r x = some (road s r && inR x 0 (s - 1)) := by
  unfold spec_l2Place.f
  rw [spec_l2Road_eq, Option.bind_some]
  cases h : road s r with
  | false => simp
  | true =>
    have := road_bd h
    rw [wrap64_id (by omega) (by omega)]
    simp [spec_l1In_eq]
def runL (s x : Int) (n : Nat) : List Int := (List.range n).map (fun (i : Nat) => Int.tmod (x + i) s)
theorem runL_snoc (s x : Int) (n : Nat) : runL s x (n + 1) = runL s x n ++ [Int.tmod (x + n) s] := by unfold runL; rw [List.range_succ]; simp
theorem runL_len (s x : Int) (n : Nat) : (runL s x n).length = n := by simp [runL]
def fits (s : Int) (r : Bool) (x n : Int) : Bool := inR x 0 (s - 1) && inR n 0 s && (r || decide (x + n ≤ s))
def carrierOk (s f0 f1 f2 : Int) : Bool := inR f0 0 (s - 1) && inR f1 0 48 && inR f2 0 20
def gapM (s : Int) (r : Bool) (a b : Int) : Int :=
  let d := if a - b < b - a then b - a else a - b
  if r = true then (if s - d < d then s - d else d) else d
theorem gapM_bd {s : Int} {r : Bool} {a b : Int} (hs : 2 ≤ s) (ha : 0 ≤ a ∧ a ≤ s - 1) (hb : 0 ≤ b ∧ b ≤ s - 1) : 0 ≤ gapM s r a b ∧ gapM s r a b ≤ s - 1 := by
  unfold gapM
  simp only
  split <;> split <;> (try split) <;> omega
theorem impl_Road_gap_eq (s : Int) (r : Bool) (a b : Int) (hs : 0 ≤ s ∧ s ≤ 1000) (ha : -1000000 ≤ a ∧ a ≤ 1000000) (hb : -1000000 ≤ b ∧ b ≤ 1000000) : impl_Road_gap.f s r a b = some (gapM s r a b) := by
  unfold impl_Road_gap.f gapM
  have e1 : wrap64 (a - b) = a - b := wrap64_id (by omega) (by omega)
  have e2 : wrap64 (b - a) = b - a := wrap64_id (by omega) (by omega)
  rw [e1, e2]
  have e : mx (a - b) (b - a) = if a - b < b - a then b - a else a - b := rfl
  rw [e]
  have e3 : wrap64 (s - (if a - b < b - a then b - a else a - b)) = s - (if a - b < b - a then b - a else a - b) := wrap64_id (by split <;> omega) (by split <;> omega)
  rw [e3]
  unfold mn
  cases r <;> simp
def lo2 (a b : Int) : Int := if a < b then a else b
theorem spec_l1Least_eq (a b : Int) : spec_l1Least.f a b = some (lo2 a b) := by unfold spec_l1Least.f lo2; split <;> rfl
def hi2 (a b : Int) : Int := if b < a then a else b
theorem spec_l1Most_eq (a b : Int) : spec_l1Most.f a b = some (hi2 a b) := by unfold spec_l1Most.f hi2; by_cases h : b < a <;> simp [h]
theorem spec_l2Gap_eq (s : Int) (r : Bool) (a b : Int) (hs : 0 ≤ s ∧ s ≤ 1000) (ha : -1000000 ≤ a ∧ a ≤ 1000000) (hb : -1000000 ≤ b ∧ b ≤ 1000000) : spec_l2Gap.f s r a b = some (gapM s r a b) := by
  unfold spec_l2Gap.f gapM
  rw [wrap64_id (x := a - b) (by omega) (by omega), wrap64_id (x := b - a) (by omega) (by omega), spec_l1Most_eq, Option.bind_some]
  have e : hi2 (a - b) (b - a) = if a - b < b - a then b - a else a - b := by unfold hi2; split <;> split <;> omega
  rw [e]
  have e3 : wrap64 (s - (if a - b < b - a then b - a else a - b)) = s - (if a - b < b - a then b - a else a - b) := wrap64_id (by split <;> omega) (by split <;> omega)
  rw [e3, spec_l1Least_eq]
  unfold lo2
  cases r <;> simp
  split <;> split <;> omega
def legM (s : Int) (r : Bool) (f0 f1 x : Int) : Int := if f1 - gapM s r f0 x < 0 then -1 else (if s - 1 < x + (f1 - gapM s r f0 x) then s - 1 else x + (f1 - gapM s r f0 x))
theorem carrierOk_bd {s a b c : Int} (h : carrierOk s a b c = true) : (0 ≤ a ∧ a ≤ s - 1) ∧ (0 ≤ b ∧ b ≤ 48) ∧ (0 ≤ c ∧ c ≤ 20) := by
  unfold carrierOk at h
  rw [Bool.and_eq_true, Bool.and_eq_true, inR_iff, inR_iff, inR_iff] at h
  exact ⟨h.1.1, h.1.2, h.2⟩
def movesOk (l : List Int) : Bool := inR (l.length : Int) 1 24 && allIn l (-1) 1
def walkerOk (s st f d : Int) (l : List Int) : Bool := inR st 0 (s - 1) && (decide (f = 1) || decide (f = -1)) && inR d 0 60 && movesOk l
theorem laws_szIntS_eq (l : List Int) (a : Int) (ha : 0 ≤ a) (hA : a ≤ 1048576) (hl : l.length ≤ 9223372036854775807) :
    laws_szIntS.f l a = some (if a < l.length then -1 else a - l.length) := by
  unfold laws_szIntS.f
  rw [wrap64_id (by omega) (by omega)]
  by_cases c : a < (l.length : Int)
  · rw [if_pos (by omega), if_pos c]
  · rw [if_neg (by omega), if_neg c]
theorem laws_szIntSS_l0 (l : List (List Int)) (hl : l.length ≤ 9223372036854775807) (hx : ∀ x ∈ l, x.length ≤ 9223372036854775807) : ∀ (d i k : Nat) (a : Int), i + d = l.length → d < k → 0 ≤ a → a ≤ 1048576 →
    ∃ r, laws_szIntSS.l0 k l a (i : Int) = some r ∧ r ≤ a ∧ (0 ≤ r → ∀ x ∈ l.drop i, (x.length : Int) ≤ a)
  | 0, i, k, a, h, hk, h0, h1 => by
    obtain ⟨k, rfl⟩ := succ_of (k := k) (by omega)
    simp only [laws_szIntSS.l0]
    rw [if_neg (by omega), drop_end l i (by omega)]
    exact ⟨a, rfl, Int.le_refl _, by simp⟩
  | d + 1, i, k, a, h, hk, h0, h1 => by
    obtain ⟨k, rfl⟩ := succ_of (k := k) (by omega)
    simp only [laws_szIntSS.l0]
    have hg : rd_L1 l (i : Int) = l[i] := by unfold rd_L1; simp [List.getD_eq_getElem?_getD]; rw [List.getElem?_eq_getElem (by omega)]; rfl
    rw [if_pos (by omega), if_pos (by omega), hg, laws_szIntS_eq _ a h0 h1 (hx _ (List.getElem_mem _)), Option.bind_some, List.drop_eq_getElem_cons (by omega)]
    by_cases c : a < (l[i].length : Int)
    · rw [if_pos c, if_pos (by omega)]
      exact ⟨-1, rfl, by omega, by omega⟩
    · rw [if_neg c, if_neg (by omega), wrap_succ (n := l.length) (by omega) hl]
      obtain ⟨r, e, hr, hm⟩ := laws_szIntSS_l0 l hl hx d (i + 1) k (a - l[i].length) (by omega) (by omega) (by omega) (by omega)
      refine ⟨r, e, by omega, fun h0 x hx' => ?_⟩
      rcases List.mem_cons.1 hx' with rfl | hx'
      · omega
      · have := hm h0 x hx'
        omega
theorem laws_szIntSS_eq (k : Nat) (l : List (List Int)) (a : Int) (h0 : 0 ≤ a) (h1 : a ≤ 1048576) (hl : l.length ≤ 9223372036854775807) (hx : ∀ x ∈ l, x.length ≤ 9223372036854775807) (hk : 1048576 < k) :
    ∃ r, laws_szIntSS.f k l a = some r ∧ r ≤ a ∧ (0 ≤ r → (l.length : Int) ≤ a ∧ ∀ x ∈ l, (x.length : Int) ≤ a) := by
  unfold laws_szIntSS.f
  rw [wrap64_id (by omega) (by omega)]
  by_cases c : a - (l.length : Int) < 0
  · rw [if_pos c]
    exact ⟨-1, rfl, by omega, by omega⟩
  · rw [if_neg c]
    obtain ⟨r, e, hr, hm⟩ := laws_szIntSS_l0 l hl hx l.length 0 k (a - l.length) (by omega) (by omega) (by omega) (by omega)
    refine ⟨r, by simpa using e, by omega, fun h => ⟨by omega, fun x hx => ?_⟩⟩
    have := hm h x (by simpa using hx)
    omega
theorem laws_toIntSS_l0 (l : List (List Int)) (hl : l.length ≤ 9223372036854775807) (hx : ∀ x ∈ l, x.length ≤ 1048576) : ∀ (d i k : Nat), i + d = l.length → d + 1048577 < k →
    laws_toIntSS.l0 k l (l.take i ++ List.replicate d []) (i : Int) = some l
  | 0, i, k, h, hk => by
    obtain ⟨k, rfl⟩ := succ_of (k := k) (by omega)
    simp only [laws_toIntSS.l0]
    rw [if_neg (by omega), List.take_of_length_le (by omega)]
    simp
  | d + 1, i, k, h, hk => by
    obtain ⟨k, rfl⟩ := succ_of (k := k) (by omega)
    simp only [laws_toIntSS.l0]
    have hg : rd_L1 l (i : Int) = l[i] := by unfold rd_L1; simp [List.getD_eq_getElem?_getD]; rw [List.getElem?_eq_getElem (by omega)]; rfl
    have hxi := hx l[i] (List.getElem_mem _)
    rw [if_pos (by omega), if_pos (by omega), hg, laws_toIntS_eq k _ (by omega) (by omega), Option.bind_some, if_pos (by simp; omega), wrap_succ (n := l.length) (by omega) hl]
    have e : (l.take i ++ List.replicate (d + 1) []).set ((i : Int)).toNat l[i] = l.take (i + 1) ++ List.replicate d [] := by
      rw [Int.toNat_natCast, List.set_append_right _ _ (by simp; omega)]
      rw [List.length_take, Nat.min_eq_left (by omega), Nat.sub_self, List.replicate_succ, List.set_cons_zero]
      rw [List.take_succ_eq_append_getElem (show i < l.length by omega), List.append_assoc]
      rfl
    rw [e]
    exact laws_toIntSS_l0 l hl hx d (i + 1) k (by omega) (by omega)
theorem laws_toIntSS_eq (k : Nat) (l : List (List Int)) (hl : l.length ≤ 1048576) (hx : ∀ x ∈ l, x.length ≤ 1048576) (hk : 2097160 < k) : laws_toIntSS.f k l = some l := by
  unfold laws_toIntSS.f
  rw [if_pos (by omega), if_pos (by simp; omega)]
  have := laws_toIntSS_l0 l (by omega) hx l.length 0 k (by omega) (by omega)
  simpa using this
theorem laws_eqIntSS_l0 (l : List (List Int)) (hl : l.length ≤ 9223372036854775807) (hx : ∀ x ∈ l, x.length ≤ 1048576) : ∀ (d i k : Nat), i + d = l.length → d + 1048577 < k → laws_eqIntSS.l0 k l l (i : Int) = some true
  | 0, i, k, h, hk => by
    obtain ⟨k, rfl⟩ := succ_of (k := k) (by omega)
    simp only [laws_eqIntSS.l0]
    rw [if_neg (by omega)]
  | d + 1, i, k, h, hk => by
    obtain ⟨k, rfl⟩ := succ_of (k := k) (by omega)
    simp only [laws_eqIntSS.l0]
    have hg : rd_L1 l (i : Int) = l[i] := by unfold rd_L1; simp [List.getD_eq_getElem?_getD]; rw [List.getElem?_eq_getElem (by omega)]; rfl
    have hxi := hx l[i] (List.getElem_mem _)
    rw [if_pos (by omega), if_pos (by omega), if_pos (by omega), hg, laws_eqIntS_self k _ (by omega) (by omega), Option.bind_some, if_pos rfl, wrap_succ (n := l.length) (by omega) hl]
    exact laws_eqIntSS_l0 l hl hx d (i + 1) k (by omega) (by omega)
theorem laws_eqIntSS_self (k : Nat) (l : List (List Int)) (hl : l.length ≤ 1048576) (hx : ∀ x ∈ l, x.length ≤ 1048576) (hk : 2097160 < k) : laws_eqIntSS.f k l l = some true := by
  unfold laws_eqIntSS.f
  rw [if_pos rfl]
  have := laws_eqIntSS_l0 l (by omega) hx l.length 0 k (by omega) (by omega)
  simpa using this
/-- The least gap of p to a list of places, at most m. -/
def nearM (s : Int) (r : Bool) (p : Int) : List Int → Int → Int
  | [], m => m
  | q :: t, m => nearM s r p t (if gapM s r p q < m then gapM s r p q else m)
def farOth (s : Int) (r : Bool) (l : List Int) : Nat → Int → Int → Int → Int × Int
  | 0, _, f, o => (f, o)
  | d + 1, p, f, o => farOth s r l d (p + 1) (if f < nearM s r p l s then nearM s r p l s else f) (if nearM s r p l s > 0 then o + 1 else o)
def finM (n : Nat) (x : Int × Int) : Int := if x.1 < Int.tdiv (x.2 + n - 1) n then Int.tdiv (x.2 + n - 1) n else x.1
def boundM (s : Int) (r : Bool) (l : List Int) : Int := finM l.length (farOth s r l s.toNat 0 0 0)
theorem allIn_rd {l : List Int} {a b : Int} (h : allIn l a b = true) (i : Nat) (hi : i < l.length) : a ≤ rd l (i : Int) ∧ rd l (i : Int) ≤ b := by
  unfold allIn at h
  rw [List.all_eq_true] at h
  rw [rd_get l i hi]
  exact inR_iff.1 (h _ (List.getElem_mem hi))
/-- Each place of a round, from i on, is near to the next one. -/
def cycM (s : Int) (r : Bool) (l : List Int) (i d : Nat) : Bool := (List.range' i d).all (fun j => decide (gapM s r (rd l (j : Int)) (rd l (((j + 1) % l.length : Nat) : Int)) ≤ 1))
theorem cycM_succ (s : Int) (r : Bool) (l : List Int) (i d : Nat) : cycM s r l i (d + 1) = (decide (gapM s r (rd l (i : Int)) (rd l (((i + 1) % l.length : Nat) : Int)) ≤ 1) && cycM s r l (i + 1) d) := by
  unfold cycM
  rw [List.range'_succ, List.all_cons]
def roundOk (s : Int) (r : Bool) (l : List Int) : Bool := allIn l 0 (s - 1) && cycM s r l 0 l.length
def patrolOk (s : Int) (r : Bool) (ls : List (List Int)) : Bool := inR (ls.length : Int) 1 6 && inR ((ls.headD []).length : Int) 1 60 && ls.all (fun l => decide (l.length = (ls.headD []).length) && roundOk s r l)
theorem tmod_nat (a n : Nat) : Int.tmod (a : Int) (n : Int) = ((a % n : Nat) : Int) := by
  rw [Int.tmod_eq_emod_of_nonneg (by omega)]
  rfl
theorem rd_bd {l : List Int} {a b : Int} (h : allIn l a b = true) (i : Nat) (hi : i < l.length) : a ≤ rd l (i : Int) ∧ rd l (i : Int) ≤ b := allIn_rd h i hi
theorem impl_Road_isRound_l0 (s : Int) (r : Bool) (hr : road s r = true) (l : List Int) (hl : l.length ≤ 60) (ha : allIn l 0 (s - 1) = true) : ∀ (d i k : Nat), i + d = l.length → d < k →
    impl_Road_isRound.l0 k l l (l.length : Int) (i : Int) s r = some (cycM s r l i d)
  | 0, i, k, h, hk => by
    obtain ⟨k, rfl⟩ := succ_of (k := k) (by omega)
    simp only [impl_Road_isRound.l0]
    rw [if_neg (by omega)]
    rfl
  | d + 1, i, k, h, hk => by
    obtain ⟨k, rfl⟩ := succ_of (k := k) (by omega)
    have hb := road_bd hr
    have hm : (i + 1) % l.length < l.length := Nat.mod_lt _ (by omega)
    have h1 := rd_bd ha i (by omega)
    have h2 := rd_bd ha ((i + 1) % l.length) hm
    simp only [impl_Road_isRound.l0]
    rw [if_pos (by omega), if_pos (by omega), if_pos (by omega), if_neg (by omega), wrap_succ (n := l.length) (by omega) (by omega), tmod_nat, if_pos (by omega), if_pos (by omega), impl_Road_gap_eq s r _ _ (by omega) (by omega) (by omega), Option.bind_some, impl_Road_isRound_l0 s r hr l hl ha d (i + 1) k (by omega) (by omega), cycM_succ]
    by_cases c : gapM s r (rd l (i : Int)) (rd l (((i + 1) % l.length : Nat) : Int)) > 1
    · rw [if_pos c, decide_eq_false (by omega)]
      simp
    · rw [if_neg c, decide_eq_true (by omega)]
      simp
theorem impl_Road_isRound_eq (k : Nat) (s : Int) (r : Bool) (hr : road s r = true) (l : List Int) (hl : l.length ≤ 9223372036854775807) (hk : l.length + 3 < k) (hk2 : 70 < k) :
    impl_Road_isRound.f k s r l = some (inR (l.length : Int) 1 60 && roundOk s r l) := by
  obtain ⟨k, rfl⟩ := succ_of (k := k) (by omega)
  unfold impl_Road_isRound.f roundOk
  rw [impl_within_eq, Option.bind_some]
  cases hi : inR (l.length : Int) 1 60 with
  | false => simp [impl_Road_isRound.j0]
  | true =>
    have hi := inR_iff.1 hi
    rw [if_pos rfl, impl_Road_hasN (k + 1) s r l hr hl (by omega), Option.bind_some]
    cases ha : allIn l 0 (s - 1) with
    | false => simp [impl_Road_isRound.j0]
    | true =>
      have := impl_Road_isRound_l0 s r hr l (by omega) ha l.length 0 k (by omega) (by omega)
      simp only [impl_Road_isRound.j0, Bool.not_true]
      rw [if_neg (by simp)]
      simpa using this
theorem impl_Road_isPatrol_l0 (s : Int) (r : Bool) (hr : road s r = true) (ls : List (List Int)) (hl : ls.length ≤ 1048576) (hx : ∀ x ∈ ls, x.length ≤ 1048576) : ∀ (d i k : Nat), i + d = ls.length → d + 1048700 < k →
    impl_Road_isPatrol.l0 k ls ls (ls.length : Int) (i : Int) s r = some ((ls.drop i).all (fun l => (inR (l.length : Int) 1 60 && roundOk s r l) && decide (l.length = (ls.headD []).length)) && inR (ls.length : Int) 1 6)
  | 0, i, k, h, hk => by
    obtain ⟨k, rfl⟩ := succ_of (k := k) (by omega)
    simp only [impl_Road_isPatrol.l0]
    rw [if_neg (by omega), drop_end ls i (by omega), impl_within_eq]
    simp
  | d + 1, i, k, h, hk => by
    obtain ⟨k, rfl⟩ := succ_of (k := k) (by omega)
    have hg : rd_L1 ls (i : Int) = ls[i] := by unfold rd_L1; simp [List.getD_eq_getElem?_getD]; rw [List.getElem?_eq_getElem (by omega)]; rfl
    have h0 : rd_L1 ls 0 = ls.headD [] := by unfold rd_L1; cases ls <;> simp
    have hxi := hx ls[i] (List.getElem_mem _)
    simp only [impl_Road_isPatrol.l0]
    rw [if_pos (by omega), if_pos (by omega), if_pos (by omega), hg, impl_Road_isRound_eq k s r hr _ (by omega) (by omega) (by omega), Option.bind_some, wrap_succ (n := ls.length) (by omega) (by omega), impl_Road_isPatrol_l0 s r hr ls hl hx d (i + 1) k (by omega) (by omega), List.drop_eq_getElem_cons (show i < ls.length by omega), List.all_cons, h0]
    cases hq : (inR (ls[i].length : Int) 1 60 && roundOk s r ls[i]) with
    | false => simp [hq]
    | true =>
      rw [if_pos rfl, if_pos (by omega)]
      by_cases c : (ls[i].length : Int) = ((ls.headD []).length : Int)
      · rw [if_pos c, decide_eq_true (by omega)]
        simp
      · rw [if_neg c, decide_eq_false (by omega)]
        simp
theorem headD_mem {α : Type} (ls : List α) (z : α) (h : 0 < ls.length) : ls.headD z ∈ ls := by cases ls <;> simp_all
theorem impl_Road_isPatrol_eq (k : Nat) (s : Int) (r : Bool) (hr : road s r = true) (ls : List (List Int)) (hl : ls.length ≤ 1048576) (hx : ∀ x ∈ ls, x.length ≤ 1048576) (hk : 2097500 < k) :
    impl_Road_isPatrol.f k s r ls = some (patrolOk s r ls) := by
  unfold impl_Road_isPatrol.f
  have := impl_Road_isPatrol_l0 s r hr ls hl hx ls.length 0 k (by omega) (by omega)
  rw [Int.natCast_zero] at this
  rw [this, List.drop_zero]
  unfold patrolOk
  congr 1
  rw [Bool.eq_iff_iff]
  simp only [Bool.and_eq_true, List.all_eq_true, decide_eq_true_eq, inR_iff]
  constructor
  · rintro ⟨h1, h2⟩
    have hd := h1 (ls.headD []) (headD_mem ls [] (by omega))
    exact ⟨⟨h2, hd.1.1⟩, fun x hx => ⟨(h1 x hx).2, (h1 x hx).1.2⟩⟩
  · rintro ⟨⟨h1, h2⟩, h3⟩
    exact ⟨fun x hx => ⟨⟨by rw [(h3 x hx).1]; exact h2, (h3 x hx).2⟩, (h3 x hx).1⟩, h1⟩
theorem spec_l5Round_l1 (s : Int) (r : Bool) (hr : road s r = true) (l : List Int) (hl : l.length ≤ 60) (ha : allIn l 0 (s - 1) = true) : ∀ (d i k : Nat), i + d = l.length → d < k →
    spec_l5Round.l1 k l (i : Int) s r = some (cycM s r l i d)
  | 0, i, k, h, hk => by
    obtain ⟨k, rfl⟩ := succ_of (k := k) (by omega)
    simp only [spec_l5Round.l1]
    rw [if_neg (by omega)]
    rfl
  | d + 1, i, k, h, hk => by
    obtain ⟨k, rfl⟩ := succ_of (k := k) (by omega)
    have hb := road_bd hr
    have hm : (i + 1) % l.length < l.length := Nat.mod_lt _ (by omega)
    have h1 := rd_bd ha i (by omega)
    have h2 := rd_bd ha ((i + 1) % l.length) hm
    simp only [spec_l5Round.l1]
    rw [if_pos (by omega), if_pos (by omega), if_neg (by omega), wrap_succ (n := l.length) (by omega) (by omega), tmod_nat, if_pos (by omega), if_pos (by omega), spec_l2Gap_eq s r _ _ (by omega) (by omega) (by omega), Option.bind_some, spec_l5Round_l1 s r hr l hl ha d (i + 1) k (by omega) (by omega), cycM_succ]
    by_cases c : gapM s r (rd l (i : Int)) (rd l (((i + 1) % l.length : Nat) : Int)) > 1
    · rw [if_pos c, decide_eq_false (by omega)]
      simp
    · rw [if_neg c, decide_eq_true (by omega)]
      simp
theorem spec_l5Round_l0 (s : Int) (r : Bool) (hr : road s r = true) (l : List Int) (p : Nat) (hp : 1 ≤ p ∧ p ≤ 60) (hl : l.length ≤ 9223372036854775807) : ∀ (d i k : Nat), i + d = min 60 l.length → allIn (l.take i) 0 (s - 1) = true → 2 * d + 70 < k →
    spec_l5Round.l0 k l (p : Int) (i : Int) s r = some (decide (l.length = p) && roundOk s r l)
  | 0, i, k, h, ha, hk => by
    obtain ⟨k, rfl⟩ := succ_of (k := k) (by omega)
    obtain ⟨k, rfl⟩ := succ_of (k := k) (by omega)
    have hf : (if (i : Int) < (l.length : Int) then spec_l5Round.j1 (k + 1) l (p : Int) (i : Int) (decide ((i : Int) < 60)) s r else spec_l5Round.j1 (k + 1) l (p : Int) (i : Int) false s r) = spec_l5Round.j1 (k + 1) l (p : Int) (i : Int) false s r := by
      by_cases c : (i : Int) < (l.length : Int)
      · rw [if_pos c, decide_eq_false (by omega)]
      · rw [if_neg c]
    simp only [spec_l5Round.l0]
    rw [hf]
    simp only [spec_l5Round.j1]
    rw [if_neg (by simp)]
    by_cases c : (l.length : Int) = (p : Int)
    · have hi : i = l.length := by omega
      rw [hi, List.take_of_length_le (Nat.le_refl _)] at ha
      have := spec_l5Round_l1 s r hr l (by omega) ha l.length 0 k (by omega) (by omega)
      rw [if_pos c, decide_eq_true (by omega)]
      unfold roundOk
      rw [ha]
      simpa using this
    · rw [if_neg c, decide_eq_false (by omega)]
      simp
  | d + 1, i, k, h, ha, hk => by
    obtain ⟨k, rfl⟩ := succ_of (k := k) (by omega)
    obtain ⟨k, rfl⟩ := succ_of (k := k) (by omega)
    simp only [spec_l5Round.l0]
    rw [if_pos (by omega), decide_eq_true (by omega)]
    simp only [spec_l5Round.j1]
    rw [if_pos trivial, if_pos (by omega), if_pos (by omega), spec_l2Place_eq, Option.bind_some, hr, Bool.true_and]
    cases hi : inR (rd l (i : Int)) 0 (s - 1) with
    | true =>
      rw [if_pos rfl, wrap_succ (n := l.length) (by omega) hl]
      refine spec_l5Round_l0 s r hr l p hp hl d (i + 1) k (by omega) ?_ (by omega)
      rw [List.take_succ_eq_append_getElem (show i < l.length by omega)]
      unfold allIn at ha ⊢
      rw [List.all_append, ha, ← rd_get l i (by omega)]
      simp [hi]
    | false =>
      have : allIn l 0 (s - 1) = false := by
        cases h2 : allIn l 0 (s - 1) with
        | false => rfl
        | true =>
          have := rd_bd h2 i (by omega)
          rw [inR_iff.2 this] at hi
          cases hi
      simp [roundOk, this]
theorem spec_l5Round_eq (k : Nat) (s : Int) (r : Bool) (hr : road s r = true) (l : List Int) (p : Nat) (hp : 1 ≤ p ∧ p ≤ 60) (hl : l.length ≤ 9223372036854775807) (hk : 200 < k) :
    spec_l5Round.f k s r l (p : Int) = some (decide (l.length = p) && roundOk s r l) := by
  unfold spec_l5Round.f
  exact spec_l5Round_l0 s r hr l p hp hl (min 60 l.length) 0 k (by omega) (by simp [allIn]) (by omega)
theorem spec_l5Patrol_l0 (s : Int) (r : Bool) (hr : road s r = true) (ls : List (List Int)) (hl : ls.length ≤ 6) (hx : ∀ x ∈ ls, x.length ≤ 1048576) (hp : 1 ≤ (ls.headD []).length ∧ (ls.headD []).length ≤ 60) : ∀ (d i k : Nat), i + d = ls.length → d + 200 < k →
    spec_l5Patrol.l0 k ls (i : Int) s r = some ((ls.drop i).all (fun l => decide (l.length = (ls.headD []).length) && roundOk s r l))
  | 0, i, k, h, hk => by
    obtain ⟨k, rfl⟩ := succ_of (k := k) (by omega)
    simp only [spec_l5Patrol.l0]
    rw [if_neg (by omega), drop_end ls i (by omega)]
    simp
  | d + 1, i, k, h, hk => by
    obtain ⟨k, rfl⟩ := succ_of (k := k) (by omega)
    have hg : rd_L1 ls (i : Int) = ls[i] := by unfold rd_L1; simp [List.getD_eq_getElem?_getD]; rw [List.getElem?_eq_getElem (by omega)]; rfl
    have h0 : rd_L1 ls 0 = ls.headD [] := by unfold rd_L1; cases ls <;> simp
    have hxi := hx ls[i] (List.getElem_mem _)
    simp only [spec_l5Patrol.l0]
    rw [if_pos (by omega), if_pos (by omega), if_pos (by omega), hg, h0, spec_l5Round_eq k s r hr _ _ hp (by omega) (by omega), Option.bind_some, wrap_succ (n := ls.length) (by omega) (by omega), spec_l5Patrol_l0 s r hr ls hl hx hp d (i + 1) k (by omega) (by omega), List.drop_eq_getElem_cons (show i < ls.length by omega), List.all_cons]
    cases (decide (ls[i].length = (ls.headD []).length) && roundOk s r ls[i]) <;> simp
theorem spec_l5Patrol_eq (k : Nat) (s : Int) (r : Bool) (hr : road s r = true) (ls : List (List Int)) (hl : ls.length ≤ 1048576) (hx : ∀ x ∈ ls, x.length ≤ 1048576) (hk : 300 < k) :
    spec_l5Patrol.f k s r ls = some (patrolOk s r ls) := by
  obtain ⟨k, rfl⟩ := succ_of (k := k) (by omega)
  have h0 : rd_L1 ls 0 = ls.headD [] := by unfold rd_L1; cases ls <;> simp
  unfold spec_l5Patrol.f patrolOk
  rw [spec_l1In_eq, Option.bind_some, h0, spec_l1In_eq]
  cases hi : inR (ls.length : Int) 1 6 with
  | false => simp [spec_l5Patrol.j0]
  | true =>
    have hi := inR_iff.1 hi
    rw [if_pos rfl, if_pos (by omega), Option.bind_some]
    cases hj : inR ((ls.headD []).length : Int) 1 60 with
    | false => simp [spec_l5Patrol.j0]
    | true =>
      have hj := inR_iff.1 hj
      have := spec_l5Patrol_l0 s r hr ls (by omega) hx (by omega) ls.length 0 k (by omega) (by omega)
      simp only [spec_l5Patrol.j0, Bool.not_true]
      rw [if_neg (by simp)]
      simpa using this

theorem FnExactIsPatrol (a0_0 : Int) (a0_1 : Bool) (l1 : List (List (Int)))
    (h0 : ((Lit.int .i64 (a0_0)).wf = true)) (h1 : True) (h2 : (l1.length ≤ maxLen ∧ ∀ y0 ∈ l1, (y0.length ≤ maxLen ∧ ∀ y1 ∈ y0, ((Lit.int .i64 (y1)).wf = true)))) :
    ∃ k, laws_FnExactIsPatrol.f k a0_0 a0_1 l1 = some true := by
  have hm := h2.1
  unfold maxLen at hm
  have hmx : ∀ x ∈ l1, x.length ≤ 9223372036854775807 := fun x hx => by have := (h2.2 x hx).1; unfold maxLen at this; omega
  refine ⟨4194304, ?_⟩
  unfold laws_FnExactIsPatrol.f
  obtain ⟨t, ht, _, hb⟩ := laws_szIntSS_eq 4194304 l1 1048576 (by omega) (by omega) (by omega) hmx (by omega)
  rw [ht, Option.bind_some]
  by_cases c : t < 0
  · rw [if_pos c]
  rw [if_neg c]
  have hb := hb (by omega)
  have hl : l1.length ≤ 1048576 := by omega
  have hx : ∀ x ∈ l1, x.length ≤ 1048576 := fun x hx => by have := hb.2 x hx; omega
  simp only [laws_toRoad_eq, Option.bind_some, laws_toIntSS_eq 4194304 l1 hl hx (by omega)]
  have hj : laws_FnExactIsPatrol.j0 4194304 l1 l1 false = some true := by
    simp only [laws_FnExactIsPatrol.j0]
    rw [if_neg (by simp), laws_toIntSS_eq 4194303 l1 hl hx (by omega), Option.bind_some, laws_eqIntSS_self 4194303 l1 hl hx (by omega)]
    simp
  unfold spec_IsPatrol.f impl_IsPatrol.f
  rw [spec_l2Road_eq, impl_IsRoad_eq, Option.bind_some, Option.bind_some]
  cases hr : road a0_0 a0_1 with
  | false => simp [hj]
  | true =>
    rw [spec_l5Patrol_eq 4194304 _ _ hr l1 hl hx (by omega), impl_Road_isPatrol_eq 4194304 _ _ hr l1 hl hx (by omega)]
    simp [hj]

end Go.Proofs.Ytgoapgogdkiooaa.Pure
