/- Plain facts on numbers and lists: what the functions that the law FnExactExploreBound reaches answer, and that the law's own function answers true. No program, no memory. -/
import Derived.Test.YtgoapgogdkiooaaPFnExactExploreBoundx1
import Derived.Test.YtgoapgogdkiooaaPFnExactExploreBoundx2
import Derived.Test.YtgoapgogdkiooaaPFnExactExploreBoundx3
namespace Go.Proofs.Ytgoapgogdkiooaa.Pure
open Go.RowKit Go.Proofs.Ytgoapgogdkiooaa.PFnExactExploreBound Go.Proofs.YtgoapgogdkiooaaW.PrintWords Go.Proofs.YtgoapgogdkiooaaW.PrintLast Go.Proofs.YtgoapgogdkiooaaW.PrintMore
set_option linter.unusedVariables false
set_option linter.unusedSimpArgs false
theorem wrap64_id {x : Int} (h1 : -9223372036854775808 ≤ x) (h2 : x ≤ 9223372036854775807) : wrap64 x = x := by unfold wrap64; omega
theorem i64_of {x : Int} (h : (Lit.int .i64 x).wf = true) : -9223372036854775808 ≤ x ∧ x ≤ 9223372036854775807 := by
  simp [Lit.wf, IntKind.min, IntKind.max, IntKind.bits, IntKind.signed, IntKind.wrap] at h
  omega
def inR (x a b : Int) : Bool := decide (a ≤ x) && decide (x ≤ b)
theorem inR_iff {x a b : Int} : inR x a b = true ↔ a ≤ x ∧ x ≤ b := by unfold inR; simp
theorem inR_not {x a b : Int} : inR x a b = false ↔ ¬ (a ≤ x ∧ x ≤ b) := by rw [← inR_iff]; simp
def road (s : Int) (r : Bool) : Bool := inR s 2 24 && (!r || decide (3 ≤ s))
theorem road_bd {s : Int} {r : Bool} (h : road s r = true) : 2 ≤ s ∧ s ≤ 24 ∧ (r = true → 3 ≤ s) := by
  unfold road at h
  rw [Bool.and_eq_true, inR_iff] at h
  refine ⟨h.1.1, h.1.2, fun hr => ?_⟩
  have := h.2
  simp [hr] at this
  exact this
theorem spec_l1In_eq (a b c : Int) : spec_l1In.f a b c = some (inR a b c) := by
  unfold spec_l1In.f inR
  by_cases h : a ≥ b
  · have h' : b ≤ a := h
    simp [h, h']
  · have h' : ¬ b ≤ a := h
    simp [h, h']
theorem impl_within_eq (a b c : Int) : impl_within.f a b c = some (inR a b c) := by
  unfold impl_within.f inR
  by_cases h : a ≥ b
  · have h' : b ≤ a := h
    simp [h, h']
  · have h' : ¬ b ≤ a := h
    simp [h, h']
theorem spec_l2Road_eq (s : Int) (r : Bool) : spec_l2Road.f s r = some (road s r) := by
  unfold spec_l2Road.f road
  rw [spec_l1In_eq, Option.bind_some]
  cases inR s 2 24 <;> cases r <;> simp
  omega
theorem impl_IsRoad_eq (s : Int) (r : Bool) : impl_IsRoad.f s r = some (road s r) := by
  unfold impl_IsRoad.f road
  rw [impl_within_eq, Option.bind_some]
  cases inR s 2 24 <;> cases r <;> simp
theorem laws_toRoad_eq (s : Int) (r : Bool) : laws_toRoad.f s r = some (s, r) := rfl
theorem wrap_succ {i n : Nat} (h : i < n) (hn : n ≤ 9223372036854775807) : wrap64 ((i : Int) + 1) = ((i + 1 : Nat) : Int) := by unfold wrap64; omega
theorem drop_rd (l : List Int) (i : Nat) (h : i < l.length) : l.drop i = rd l (i : Int) :: l.drop (i + 1) := by
  rw [List.drop_eq_getElem_cons h]
  unfold rd
  simp [List.getD_eq_getElem?_getD, h]
theorem rd_get (l : List Int) (i : Nat) (h : i < l.length) : rd l (i : Int) = l[i] := by
  unfold rd
  simp [List.getD_eq_getElem?_getD, h]
theorem succ_of {k : Nat} (h : 0 < k) : ∃ m, k = m + 1 := ⟨k - 1, by omega⟩
theorem drop_end {α : Type} (l : List α) (i : Nat) (h : l.length ≤ i) : l.drop i = [] := List.drop_of_length_le h
def allIn (l : List Int) (a b : Int) : Bool := l.all (fun x => inR x a b)
/-- Numbers in line, from a on. -/
def marks (a : Int) : Nat → List Int
  | 0 => []
  | n + 1 => a :: marks (a + 1) n
theorem marks_len (a : Int) (n : Nat) : (marks a n).length = n := by
  induction n generalizing a with
  | zero => rfl
  | succ n ih => simp [marks, ih]
theorem marks_snoc (a : Int) (n : Nat) : marks a (n + 1) = marks a n ++ [a + n] := by
  induction n generalizing a with
  | zero => simp [marks]
  | succ n ih =>
    rw [marks, ih (a + 1)]
    simp [marks]
    omega
theorem marks_rd (a : Int) (n i : Nat) (h : i < n) : rd (marks a n) (i : Int) = a + i := by
  rw [rd_get _ _ (by rw [marks_len]; exact h)]
  induction n generalizing a i with
  | zero => omega
  | succ n ih =>
    cases i with
    | zero => simp [marks]
    | succ i =>
      simp only [marks, List.getElem_cons_succ]
      rw [ih (a + 1) i (by omega)]
      omega
theorem impl_allWithin_l0 (lo hi : Int) (l : List Int) (hl : l.length ≤ 9223372036854775807) : ∀ (d i k : Nat), i + d = l.length → d < k →
    impl_allWithin.l0 k lo hi l (l.length : Int) (i : Int) = some (allIn (l.drop i) lo hi)
  | 0, i, k, h, hk => by
    obtain ⟨k, rfl⟩ := succ_of (k := k) (by omega)
    simp only [impl_allWithin.l0]
    rw [if_neg (by omega), drop_end l i (by omega)]
    rfl
  | d + 1, i, k, h, hk => by
    obtain ⟨k, rfl⟩ := succ_of (k := k) (by omega)
    simp only [impl_allWithin.l0]
    rw [if_pos (by omega), if_pos (by omega), if_pos (by omega), impl_within_eq, Option.bind_some, wrap_succ (n := l.length) (by omega) hl, impl_allWithin_l0 lo hi l hl d (i + 1) k (by omega) (by omega), drop_rd l i (by omega)]
    unfold allIn
    rw [List.all_cons]
    cases inR (rd l (i : Int)) lo hi <;> simp
theorem impl_allWithin_eq (k : Nat) (l : List Int) (a b : Int) (hl : l.length ≤ 9223372036854775807) (hk : l.length < k) : impl_allWithin.f k l a b = some (allIn l a b) := by
  unfold impl_allWithin.f
  have := impl_allWithin_l0 a b l hl l.length 0 k (by omega) hk
  simpa using this
theorem impl_Road_has_eq (k : Nat) (s : Int) (r : Bool) (l : List Int) (hl : l.length ≤ 9223372036854775807) (hk : l.length < k) : impl_Road_has.f k s r l = some (allIn l 0 (wrap64 (s - 1))) := by
  unfold impl_Road_has.f
  rw [impl_allWithin_eq k l _ _ hl hk, Option.bind_some]
theorem impl_Road_has1 (k : Nat) (s : Int) (r : Bool) (x : Int) (hs : road s r = true) (hk : 1 < k) : impl_Road_has.f k s r [x] = some (inR x 0 (s - 1)) := by
  rw [impl_Road_has_eq k s r [x] (by simp) (by simpa using hk)]
  have := road_bd hs
  rw [wrap64_id (by omega) (by omega)]
  simp [allIn]
theorem impl_Road_hasN (k : Nat) (s : Int) (r : Bool) (l : List Int) (hs : road s r = true) (hl : l.length ≤ 9223372036854775807) (hk : l.length < k) : impl_Road_has.f k s r l = some (allIn l 0 (s - 1)) := by
  rw [impl_Road_has_eq k s r l hl hk]
  have := road_bd hs
  rw [wrap64_id (by omega) (by omega)]
theorem laws_eqIntS_l0 (l : List Int) (hl : l.length ≤ 9223372036854775807) : ∀ (d i k : Nat), i + d = l.length → d < k → laws_eqIntS.l0 k l l (i : Int) = some true
  | 0, i, k, h, hk => by
    obtain ⟨k, rfl⟩ := succ_of (k := k) (by omega)
    simp only [laws_eqIntS.l0]
    rw [if_neg (by omega)]
  | d + 1, i, k, h, hk => by
    obtain ⟨k, rfl⟩ := succ_of (k := k) (by omega)
    simp only [laws_eqIntS.l0]
    rw [if_pos (by omega), if_pos (by omega), if_pos (by omega), if_pos trivial, wrap_succ (n := l.length) (by omega) hl]
    exact laws_eqIntS_l0 l hl d (i + 1) k (by omega) (by omega)
theorem laws_eqIntS_self (k : Nat) (l : List Int) (hl : l.length ≤ 9223372036854775807) (hk : l.length < k) : laws_eqIntS.f k l l = some true := by
  unfold laws_eqIntS.f
  rw [if_pos rfl]
  have := laws_eqIntS_l0 l hl l.length 0 k (by omega) hk
  simpa using this
theorem laws_toIntS_l0 (l : List Int) (hl : l.length ≤ 9223372036854775807) : ∀ (d i k : Nat), i + d = l.length → d < k → laws_toIntS.l0 k l (l.take i ++ List.replicate d 0) (i : Int) = some l
  | 0, i, k, h, hk => by
    obtain ⟨k, rfl⟩ := succ_of (k := k) (by omega)
    simp only [laws_toIntS.l0]
    rw [if_neg (by omega), List.take_of_length_le (by omega)]
    simp
  | d + 1, i, k, h, hk => by
    obtain ⟨k, rfl⟩ := succ_of (k := k) (by omega)
    simp only [laws_toIntS.l0]
    rw [if_pos (by omega), if_pos (by omega), if_pos (by simp; omega), wrap_succ (n := l.length) (by omega) hl]
    have e : (l.take i ++ List.replicate (d + 1) 0).set ((i : Int)).toNat (rd l (i : Int)) = l.take (i + 1) ++ List.replicate d 0 := by
      rw [Int.toNat_natCast, List.set_append_right _ _ (by simp; omega)]
      rw [List.length_take, Nat.min_eq_left (by omega), Nat.sub_self, List.replicate_succ, List.set_cons_zero, rd_get l i (by omega)]
      rw [List.take_succ_eq_append_getElem (show i < l.length by omega), List.append_assoc]
      rfl
    rw [e]
    exact laws_toIntS_l0 l hl d (i + 1) k (by omega) (by omega)
theorem laws_toIntS_eq (k : Nat) (l : List Int) (hl : l.length ≤ 35184372088832) (hk : l.length < k) : laws_toIntS.f k l = some l := by
  unfold laws_toIntS.f
  rw [if_pos (by omega), if_pos (by simpa using hl)]
  have := laws_toIntS_l0 l (by omega) l.length 0 k (by omega) hk
  simpa using this
theorem spec_l2Place_eq (s : Int) (r : Bool) (x : Int) : spec_l2Place.f s r x = some (road s r && inR x 0 (s - 1)) := by
  unfold spec_l2Place.f
  rw [spec_l2Road_eq, Option.bind_some]
  cases h : road s r with
  | false => simp
  | true =>
    have := road_bd h
    rw [wrap64_id (by omega) (by omega)]
    simp [spec_l1In_eq]
theorem spec_l6Starts_l0 (s : Int) (r : Bool) (l : List Int) (hl : l.length ≤ 9223372036854775807) : ∀ (d i k : Nat), i + d = min 5 l.length → 2 * d + 1 < k →
    spec_l6Starts.l0 k l (i : Int) s r = some (road s r && inR (l.length : Int) 1 4 && allIn (l.drop i) 0 (s - 1))
  | 0, i, k, h, hk => by
    obtain ⟨k, rfl⟩ := succ_of (k := k) (by omega)
    obtain ⟨k, rfl⟩ := succ_of (k := k) (by omega)
    have hf : (if (i : Int) < (l.length : Int) then spec_l6Starts.j1 (k + 1) l (i : Int) (decide ((i : Int) ≤ 4)) s r else spec_l6Starts.j1 (k + 1) l (i : Int) false s r) = spec_l6Starts.j1 (k + 1) l (i : Int) false s r := by
      by_cases c : (i : Int) < (l.length : Int)
      · rw [if_pos c, decide_eq_false (by omega)]
      · rw [if_neg c]
    simp only [spec_l6Starts.l0]
    rw [hf]
    simp only [spec_l6Starts.j1]
    rw [if_neg (by simp), spec_l2Road_eq, Option.bind_some]
    cases hr : road s r with
    | false => simp
    | true =>
      rw [if_pos rfl, spec_l1In_eq, Option.bind_some, Bool.true_and]
      by_cases c : l.length ≤ 5
      · rw [drop_end l i (by omega)]
        simp [allIn]
      · have : inR (l.length : Int) 1 4 = false := inR_not.2 (by omega)
        simp [this]
  | d + 1, i, k, h, hk => by
    obtain ⟨k, rfl⟩ := succ_of (k := k) (by omega)
    obtain ⟨k, rfl⟩ := succ_of (k := k) (by omega)
    simp only [spec_l6Starts.l0]
    rw [if_pos (by omega), decide_eq_true (by omega)]
    simp only [spec_l6Starts.j1]
    rw [if_pos trivial, if_pos (by omega), if_pos (by omega), spec_l2Place_eq, Option.bind_some, drop_rd l i (by omega), wrap_succ (n := l.length) (by omega) hl, spec_l6Starts_l0 s r l hl d (i + 1) k (by omega) (by omega)]
    unfold allIn
    rw [List.all_cons]
    cases road s r <;> cases inR (rd l (i : Int)) 0 (s - 1) <;> simp
theorem spec_l6Starts_eq (k : Nat) (s : Int) (r : Bool) (l : List Int) (hl : l.length ≤ 9223372036854775807) (hk : 12 < k) :
    spec_l6Starts.f k s r l = some (road s r && inR (l.length : Int) 1 4 && allIn l 0 (s - 1)) := by
  unfold spec_l6Starts.f
  have := spec_l6Starts_l0 s r l hl (min 5 l.length) 0 k (by omega) (by omega)
  simpa using this
theorem impl_Road_areExplorers_eq (k : Nat) (s : Int) (r : Bool) (l : List Int) (hs : road s r = true) (hl : l.length ≤ 9223372036854775807) (hk : l.length < k) :
    impl_Road_areExplorers.f k s r l = some (inR (l.length : Int) 1 4 && allIn l 0 (s - 1)) := by
  unfold impl_Road_areExplorers.f
  rw [impl_within_eq, Option.bind_some, impl_Road_hasN k s r l hs hl hk]
  cases inR (l.length : Int) 1 4 <;> simp
def runL (s x : Int) (n : Nat) : List Int := (List.range n).map (fun (i : Nat) => Int.tmod (x + i) s)
theorem runL_snoc (s x : Int) (n : Nat) : runL s x (n + 1) = runL s x n ++ [Int.tmod (x + n) s] := by unfold runL; rw [List.range_succ]; simp
theorem runL_len (s x : Int) (n : Nat) : (runL s x n).length = n := by simp [runL]
def fits (s : Int) (r : Bool) (x n : Int) : Bool := inR x 0 (s - 1) && inR n 0 s && (r || decide (x + n ≤ s))
def carrierOk (s f0 f1 f2 : Int) : Bool := inR f0 0 (s - 1) && inR f1 0 48 && inR f2 0 20
def gapM (s : Int) (r : Bool) (a b : Int) : Int :=
  let d := if a - b < b - a then b - a else a - b
  if r = true then (if s - d < d then s - d else d) else d
theorem gapM_bd {s : Int} {r : Bool} {a b : Int} (hs : 2 ≤ s) (ha : 0 ≤ a ∧ a ≤ s - 1) (hb : 0 ≤ b ∧ b ≤ s - 1) : 0 ≤ gapM s r a b ∧ gapM s r a b ≤ s - 1 := by
  unfold gapM
  simp only
  split <;> split <;> (try split) <;> omega
theorem impl_Road_gap_eq (s : Int) (r : Bool) (a b : Int) (hs : 0 ≤ s ∧ s ≤ 1000) (ha : -1000000 ≤ a ∧ a ≤ 1000000) (hb : -1000000 ≤ b ∧ b ≤ 1000000) : impl_Road_gap.f s r a b = some (gapM s r a b) := by
  unfold impl_Road_gap.f gapM
  have e1 : wrap64 (a - b) = a - b := wrap64_id (by omega) (by omega)
  have e2 : wrap64 (b - a) = b - a := wrap64_id (by omega) (by omega)
  rw [e1, e2]
  have e : mx (a - b) (b - a) = if a - b < b - a then b - a else a - b := rfl
  rw [e]
  have e3 : wrap64 (s - (if a - b < b - a then b - a else a - b)) = s - (if a - b < b - a then b - a else a - b) := wrap64_id (by split <;> omega) (by split <;> omega)
  rw [e3]
  unfold mn
  cases r <;> simp
def lo2 (a b : Int) : Int := if a < b then a else b
theorem spec_l1Least_eq (a b : Int) : spec_l1Least.f a b = some (lo2 a b) := by unfold spec_l1Least.f lo2; split <;> rfl
def hi2 (a b : Int) : Int := if b < a then a else b
theorem spec_l1Most_eq (a b : Int) : spec_l1Most.f a b = some (hi2 a b) := by unfold spec_l1Most.f hi2; by_cases h : b < a <;> simp [h]
theorem spec_l2Gap_eq (s : Int) (r : Bool) (a b : Int) (hs : 0 ≤ s ∧ s ≤ 1000) (ha : -1000000 ≤ a ∧ a ≤ 1000000) (hb : -1000000 ≤ b ∧ b ≤ 1000000) : spec_l2Gap.f s r a b = some (gapM s r a b) := by
  unfold spec_l2Gap.f gapM
  rw [wrap64_id (x := a - b) (by omega) (by omega), wrap64_id (x := b - a) (by omega) (by omega), spec_l1Most_eq, Option.bind_some]
  have e : hi2 (a - b) (b - a) = if a - b < b - a then b - a else a - b := by unfold hi2; split <;> split <;> omega
  rw [e]
  have e3 : wrap64 (s - (if a - b < b - a then b - a else a - b)) = s - (if a - b < b - a then b - a else a - b) := wrap64_id (by split <;> omega) (by split <;> omega)
  rw [e3, spec_l1Least_eq]
  unfold lo2
  cases r <;> simp
  split <;> split <;> omega
def legM (s : Int) (r : Bool) (f0 f1 x : Int) : Int := if f1 - gapM s r f0 x < 0 then -1 else (if s - 1 < x + (f1 - gapM s r f0 x) then s - 1 else x + (f1 - gapM s r f0 x))
theorem carrierOk_bd {s a b c : Int} (h : carrierOk s a b c = true) : (0 ≤ a ∧ a ≤ s - 1) ∧ (0 ≤ b ∧ b ≤ 48) ∧ (0 ≤ c ∧ c ≤ 20) := by
  unfold carrierOk at h
  rw [Bool.and_eq_true, Bool.and_eq_true, inR_iff, inR_iff, inR_iff] at h
  exact ⟨h.1.1, h.1.2, h.2⟩
def movesOk (l : List Int) : Bool := inR (l.length : Int) 1 24 && allIn l (-1) 1
def walkerOk (s st f d : Int) (l : List Int) : Bool := inR st 0 (s - 1) && (decide (f = 1) || decide (f = -1)) && inR d 0 60 && movesOk l
/-- The least gap of p to a list of places, at most m. -/
def nearM (s : Int) (r : Bool) (p : Int) : List Int → Int → Int
  | [], m => m
  | q :: t, m => nearM s r p t (if gapM s r p q < m then gapM s r p q else m)
def farOth (s : Int) (r : Bool) (l : List Int) : Nat → Int → Int → Int → Int × Int
  | 0, _, f, o => (f, o)
  | d + 1, p, f, o => farOth s r l d (p + 1) (if f < nearM s r p l s then nearM s r p l s else f) (if nearM s r p l s > 0 then o + 1 else o)
def finM (n : Nat) (x : Int × Int) : Int := if x.1 < Int.tdiv (x.2 + n - 1) n then Int.tdiv (x.2 + n - 1) n else x.1
def boundM (s : Int) (r : Bool) (l : List Int) : Int := finM l.length (farOth s r l s.toNat 0 0 0)
theorem allIn_rd {l : List Int} {a b : Int} (h : allIn l a b = true) (i : Nat) (hi : i < l.length) : a ≤ rd l (i : Int) ∧ rd l (i : Int) ≤ b := by
  unfold allIn at h
  rw [List.all_eq_true] at h
  rw [rd_get l i hi]
  exact inR_iff.1 (h _ (List.getElem_mem hi))
theorem spec_l6Bound_l1 (s : Int) (r : Bool) (l : List Int) (hs : 2 ≤ s ∧ s ≤ 24) (hl : l.length ≤ 4) (ha : allIn l 0 (s - 1) = true) (f o p : Int) (hp : 0 ≤ p ∧ p ≤ 24) : ∀ (d i k : Nat) (m : Int), i + d = l.length → d < k → ∃ k', k' + d + 1 = k ∧
    spec_l6Bound.l1 k l f o p m (i : Int) s r = (spec_l1Most.f f (nearM s r p (l.drop i) m)).bind fun t => if nearM s r p (l.drop i) m > 0 then spec_l6Bound.l0 k' l t (wrap64 (o + 1)) (wrap64 (p + 1)) s r else spec_l6Bound.l0 k' l t o (wrap64 (p + 1)) s r
  | 0, i, k, m, h, hk => by
    obtain ⟨k, rfl⟩ := succ_of (k := k) (by omega)
    refine ⟨k, rfl, ?_⟩
    simp only [spec_l6Bound.l1]
    rw [if_neg (by omega), drop_end l i (by omega)]
    rfl
  | d + 1, i, k, m, h, hk => by
    obtain ⟨k, rfl⟩ := succ_of (k := k) (by omega)
    obtain ⟨k', hk', e⟩ := spec_l6Bound_l1 s r l hs hl ha f o p hp d (i + 1) k (if gapM s r p (rd l (i : Int)) < m then gapM s r p (rd l (i : Int)) else m) (by omega) (by omega)
    refine ⟨k', by omega, ?_⟩
    simp only [spec_l6Bound.l1]
    have hb := allIn_rd ha i (by omega)
    have e1 : lo2 m (gapM s r p (rd l (i : Int))) = if gapM s r p (rd l (i : Int)) < m then gapM s r p (rd l (i : Int)) else m := by unfold lo2; split <;> split <;> omega
    rw [if_pos (by omega), if_pos (by omega), spec_l2Gap_eq s r _ _ (by omega) (by omega) (by omega), Option.bind_some, spec_l1Least_eq, Option.bind_some, e1, wrap_succ (n := l.length) (by omega) (by omega), e, drop_rd l i (by omega)]
    rfl
theorem spec_l6Bound_l0 (s : Int) (r : Bool) (l : List Int) (hs : 2 ≤ s ∧ s ≤ 24) (hl : l.length ≤ 4) (hl0 : 0 < l.length) (ha : allIn l 0 (s - 1) = true) : ∀ (d k : Nat) (f o p : Int), 0 ≤ p → p + d = s → 0 ≤ o → o ≤ p → 7 * d + 1 < k →
    spec_l6Bound.l0 k l f o p s r = some (finM l.length (farOth s r l d p f o))
  | 0, k, f, o, p, h0, h, ho, ho1, hk => by
    obtain ⟨k, rfl⟩ := succ_of (k := k) (by omega)
    simp only [spec_l6Bound.l0]
    have hd : -9223372036854775808 ≤ Int.tdiv (o + l.length - 1) l.length ∧ Int.tdiv (o + l.length - 1) l.length ≤ 9223372036854775807 := by
      have h1 : 0 ≤ Int.tdiv (o + l.length - 1) l.length := Int.tdiv_nonneg (by omega) (by omega)
      have h2 : Int.tdiv (o + l.length - 1) l.length ≤ o + l.length - 1 := by
        rw [Int.tdiv_eq_ediv_of_nonneg (by omega)]
        exact Int.ediv_le_self _ (by omega)
      omega
    rw [if_neg (by omega), if_neg (by omega), wrap64_id (x := o + l.length) (by omega) (by omega), wrap64_id (x := o + l.length - 1) (by omega) (by omega), wrap64_id hd.1 hd.2, spec_l1Most_eq]
    simp only [Option.bind_some, farOth]
    unfold hi2 finM
    simp only
    congr 1
    generalize Int.tdiv (o + l.length - 1) l.length = q
    split <;> split <;> omega
  | d + 1, k, f, o, p, h0, h, ho, ho1, hk => by
    obtain ⟨k, rfl⟩ := succ_of (k := k) (by omega)
    simp only [spec_l6Bound.l0]
    rw [if_pos (by omega)]
    obtain ⟨k', hk', e⟩ := spec_l6Bound_l1 s r l hs hl ha f o p ⟨by omega, by omega⟩ l.length 0 k s (by omega) (by omega)
    have e' : spec_l6Bound.l1 k l f o p s 0 s r = _ := e
    rw [e', spec_l1Most_eq, Option.bind_some, List.drop_zero, wrap64_id (x := o + 1) (by omega) (by omega), wrap64_id (x := p + 1) (by omega) (by omega)]
    have e1 : hi2 f (nearM s r p l s) = if f < nearM s r p l s then nearM s r p l s else f := by unfold hi2; split <;> split <;> omega
    rw [e1]
    by_cases c : nearM s r p l s > 0
    · rw [if_pos c, spec_l6Bound_l0 s r l hs hl hl0 ha d k' _ (o + 1) (p + 1) (by omega) (by omega) (by omega) (by omega) (by omega)]
      simp only [farOth]
      rw [if_pos c]
    · rw [if_neg c, spec_l6Bound_l0 s r l hs hl hl0 ha d k' _ o (p + 1) (by omega) (by omega) (by omega) (by omega) (by omega)]
      simp only [farOth]
      rw [if_neg c]
theorem spec_l6Bound_eq (k : Nat) (s : Int) (r : Bool) (l : List Int) (hs : 2 ≤ s ∧ s ≤ 24) (hl : l.length ≤ 4) (hl0 : 0 < l.length) (ha : allIn l 0 (s - 1) = true) (hk : 200 < k) : spec_l6Bound.f k s r l = some (boundM s r l) := by
  unfold spec_l6Bound.f boundM
  exact spec_l6Bound_l0 s r l hs hl hl0 ha s.toNat k 0 0 0 (by omega) (by omega) (by omega) (by omega) (by omega)
theorem impl_ExploreBound_l1 (s : Int) (r : Bool) (l : List Int) (hs : 2 ≤ s ∧ s ≤ 24) (hl : l.length ≤ 4) (ha : allIn l 0 (s - 1) = true) (f o p : Int) (hp : 0 ≤ p ∧ p ≤ 24) : ∀ (d i k : Nat) (m : Int), i + d = l.length → d < k → ∃ k', k' + d + 1 = k ∧
    impl_ExploreBound.l1 k l f o p m s p l (l.length : Int) (i : Int) s r = if nearM s r p (l.drop i) m > 0 then impl_ExploreBound.l0 k' l (mx f (nearM s r p (l.drop i) m)) (wrap64 (o + 1)) s (wrap64 (p + 1)) s r else impl_ExploreBound.l0 k' l (mx f (nearM s r p (l.drop i) m)) o s (wrap64 (p + 1)) s r
  | 0, i, k, m, h, hk => by
    obtain ⟨k, rfl⟩ := succ_of (k := k) (by omega)
    refine ⟨k, rfl, ?_⟩
    simp only [impl_ExploreBound.l1]
    rw [if_neg (by omega), drop_end l i (by omega)]
    rfl
  | d + 1, i, k, m, h, hk => by
    obtain ⟨k, rfl⟩ := succ_of (k := k) (by omega)
    obtain ⟨k', hk', e⟩ := impl_ExploreBound_l1 s r l hs hl ha f o p hp d (i + 1) k (if gapM s r p (rd l (i : Int)) < m then gapM s r p (rd l (i : Int)) else m) (by omega) (by omega)
    refine ⟨k', by omega, ?_⟩
    simp only [impl_ExploreBound.l1]
    have hb := allIn_rd ha i (by omega)
    have e1 : mn m (gapM s r p (rd l (i : Int))) = if gapM s r p (rd l (i : Int)) < m then gapM s r p (rd l (i : Int)) else m := rfl
    rw [if_pos (by omega), if_pos (by omega), if_pos (by omega), impl_Road_gap_eq s r _ _ (by omega) (by omega) (by omega), Option.bind_some, e1, wrap_succ (n := l.length) (by omega) (by omega), e, drop_rd l i (by omega)]
    rfl
theorem impl_ExploreBound_l0 (s : Int) (r : Bool) (l : List Int) (hs : 2 ≤ s ∧ s ≤ 24) (hl : l.length ≤ 4) (hl0 : 0 < l.length) (ha : allIn l 0 (s - 1) = true) : ∀ (d k : Nat) (f o p : Int), 0 ≤ p → p + d = s → 0 ≤ o → o ≤ p → 7 * d + 1 < k →
    impl_ExploreBound.l0 k l f o s p s r = some (finM l.length (farOth s r l d p f o), true)
  | 0, k, f, o, p, h0, h, ho, ho1, hk => by
    obtain ⟨k, rfl⟩ := succ_of (k := k) (by omega)
    simp only [impl_ExploreBound.l0]
    have hd : -9223372036854775808 ≤ Int.tdiv (o + l.length - 1) l.length ∧ Int.tdiv (o + l.length - 1) l.length ≤ 9223372036854775807 := by
      have h1 : 0 ≤ Int.tdiv (o + l.length - 1) l.length := Int.tdiv_nonneg (by omega) (by omega)
      have h2 : Int.tdiv (o + l.length - 1) l.length ≤ o + l.length - 1 := by
        rw [Int.tdiv_eq_ediv_of_nonneg (by omega)]
        exact Int.ediv_le_self _ (by omega)
      omega
    rw [if_neg (by omega), if_neg (by omega), wrap64_id (x := o + l.length) (by omega) (by omega), wrap64_id (x := o + l.length - 1) (by omega) (by omega), wrap64_id hd.1 hd.2]
    rfl
  | d + 1, k, f, o, p, h0, h, ho, ho1, hk => by
    obtain ⟨k, rfl⟩ := succ_of (k := k) (by omega)
    simp only [impl_ExploreBound.l0]
    rw [if_pos (by omega)]
    obtain ⟨k', hk', e⟩ := impl_ExploreBound_l1 s r l hs hl ha f o p ⟨by omega, by omega⟩ l.length 0 k s (by omega) (by omega)
    have e' : impl_ExploreBound.l1 k l f o p s s p l (l.length : Int) 0 s r = _ := e
    rw [e', List.drop_zero, wrap64_id (x := o + 1) (by omega) (by omega), wrap64_id (x := p + 1) (by omega) (by omega)]
    have e1 : mx f (nearM s r p l s) = if f < nearM s r p l s then nearM s r p l s else f := rfl
    rw [e1]
    by_cases c : nearM s r p l s > 0
    · rw [if_pos c, impl_ExploreBound_l0 s r l hs hl hl0 ha d k' _ (o + 1) (p + 1) (by omega) (by omega) (by omega) (by omega) (by omega)]
      simp only [farOth]
      rw [if_pos c]
    · rw [if_neg c, impl_ExploreBound_l0 s r l hs hl hl0 ha d k' _ o (p + 1) (by omega) (by omega) (by omega) (by omega) (by omega)]
      simp only [farOth]
      rw [if_neg c]

theorem FnExactExploreBound (a0_0 : Int) (a0_1 : Bool) (l1 : List (Int))
    (h0 : ((Lit.int .i64 (a0_0)).wf = true)) (h1 : True) (h2 : (l1.length ≤ maxLen ∧ ∀ y0 ∈ l1, ((Lit.int .i64 (y0)).wf = true))) :
    ∃ k, laws_FnExactExploreBound.f k a0_0 a0_1 l1 = some true := by
  refine ⟨1048590, ?_⟩
  unfold laws_FnExactExploreBound.f
  by_cases c : (l1.length : Int) > 1048576
  · rw [if_pos c]
  rw [if_neg c]
  simp only [laws_toRoad_eq, Option.bind_some, laws_toIntS_eq 1048590 l1 (by omega) (by omega)]
  have hj : laws_FnExactExploreBound.j0 1048590 l1 l1 false = some true := by
    simp only [laws_FnExactExploreBound.j0]
    rw [if_neg (by simp), laws_toIntS_eq 1048589 l1 (by omega) (by omega), Option.bind_some, laws_eqIntS_self 1048589 l1 (by omega) (by omega)]
    simp
  unfold spec_ExploreBound.f impl_ExploreBound.f
  rw [spec_l6Starts_eq 1048590 _ _ l1 (by omega) (by omega), impl_IsRoad_eq, Option.bind_some, Option.bind_some]
  cases hr : road a0_0 a0_1 with
  | false => simp [impl_ExploreBound.j0, hj]
  | true =>
    have hb := road_bd hr
    rw [impl_Road_areExplorers_eq 1048590 _ _ l1 hr (by omega) (by omega)]
    cases hg : (inR (l1.length : Int) 1 4 && allIn l1 0 (a0_0 - 1)) with
    | false =>
      simp only [Bool.true_and, hg]
      simp [impl_ExploreBound.j0, hj]
    | true =>
      simp only [Bool.true_and, hg]
      rw [Bool.and_eq_true, inR_iff] at hg
      simp only [if_true, Option.bind_some, Bool.not_true, impl_ExploreBound.j0]
      rw [if_neg (by simp), spec_l6Bound_eq 1048590 _ _ l1 ⟨hb.1, hb.2.1⟩ (by omega) (by omega) hg.2 (by omega)]
      have e := impl_ExploreBound_l0 a0_0 a0_1 l1 ⟨hb.1, hb.2.1⟩ (by omega) (by omega) hg.2 a0_0.toNat 1048589 0 0 0 (by omega) (by omega) (by omega) (by omega) (by omega)
      rw [e]
      simp only [Option.bind_some]
      rw [if_pos (show finM l1.length (farOth a0_0 a0_1 l1 a0_0.toNat 0 0 0) = boundM a0_0 a0_1 l1 from rfl)]
      simpa using hj

end Go.Proofs.Ytgoapgogdkiooaa.Pure
