/- Plain facts on numbers and lists: what the functions that the law FnExactGatherTime reaches answer, and that the law's own function answers true. No program, no memory. -/
import Derived.Test.YtgoapgogdkiooadPFnExactGatherTimex1
import Derived.Test.YtgoapgogdkiooadPFnExactGatherTimex2
import Derived.Test.YtgoapgogdkiooadPFnExactGatherTimex3
import Derived.Test.YtgoapgogdkiooadPFnExactGatherTimex4
import Derived.Test.YtgoapgogdkiooadPFnExactGatherTimex5
import Derived.Test.YtgoapgogdkiooadPFnExactGatherTimex6
import Derived.Test.YtgoapgogdkiooadPFnExactGatherTimex7
namespace Go.Proofs.Ytgoapgogdkiooad.Pure
open Go.RowKit Go.Proofs.Ytgoapgogdkiooad.PFnExactGatherTime Go.Proofs.YtgoapgogdkiooadW.PrintWords Go.Proofs.YtgoapgogdkiooadW.PrintLast Go.Proofs.YtgoapgogdkiooadW.PrintMore
set_option linter.unusedVariables false
set_option linter.unusedSimpArgs false
theorem wrap64_id {x : Int} (h1 : -9223372036854775808 ≤ x) (h2 : x ≤ 9223372036854775807) : wrap64 x = x := by unfold wrap64; omega
theorem i64_of {x : Int} (h : (Lit.int .i64 x).wf = true) : -9223372036854775808 ≤ x ∧ x ≤ 9223372036854775807 := by
  simp [Lit.wf, IntKind.min, IntKind.max, IntKind.bits, IntKind.signed, IntKind.wrap] at h
  omega
def inR (x a b : Int) : Bool := decide (a ≤ x) && decide (x ≤ b)
theorem inR_iff {x a b : Int} : inR x a b = true ↔ a ≤ x ∧ x ≤ b := by unfold inR; simp
theorem inR_not {x a b : Int} : inR x a b = false ↔ ¬ (a ≤ x ∧ x ≤ b) := by rw [← inR_iff]; simp
def road (s : Int) (r : Bool) : Bool := inR s 2 24 && (!r || decide (3 ≤ s))
theorem road_bd {s : Int} {r : Bool} (h : road s r = true) : 2 ≤ s ∧ s ≤ 24 ∧ (r = true → 3 ≤ s) := by
  unfold road at h
  rw [Bool.and_eq_true, inR_iff] at h
  refine ⟨h.1.1, h.1.2, fun hr => ?_⟩
  have := h.2
  simp [hr] at this
  exact this
theorem spec_l1In_eq (a b c : Int) : spec_l1In.f a b c = some (inR a b c) := by
  unfold spec_l1In.f inR
  by_cases h : a ≥ b
  · have h' : b ≤ a := h
    simp [h, h']
  · have h' : ¬ b ≤ a := h
    simp [h, h']
theorem impl_within_eq (a b c : Int) : impl_within.f a b c = some (inR a b c) := by
  unfold impl_within.f inR
  by_cases h : a ≥ b
  · have h' : b ≤ a := h
    simp [h, h']
  · have h' : ¬ b ≤ a := h
    simp [h, h']
theorem spec_l2Road_eq (s : Int) (r : Bool) : spec_l2Road.f s r = some (road s r) := by
  unfold spec_l2Road.f road
  rw [spec_l1In_eq, Option.bind_some]
  cases inR s 2 24 <;> cases r <;> simp
  omega
theorem impl_IsRoad_eq (s : Int) (r : Bool) : impl_IsRoad.f s r = some (road s r) := by
  unfold impl_IsRoad.f road
  rw [impl_within_eq, Option.bind_some]
  cases inR s 2 24 <;> cases r <;> simp
theorem laws_toRoad_eq (s : Int) (r : Bool) : laws_toRoad.f s r = some (s, r) := rfl
theorem wrap_succ {i n : Nat} (h : i < n) (hn : n ≤ 9223372036854775807) : wrap64 ((i : Int) + 1) = ((i + 1 : Nat) : Int) := by unfold wrap64; omega
theorem drop_rd (l : List Int) (i : Nat) (h : i < l.length) : l.drop i = rd l (i : Int) :: l.drop (i + 1) := by
  rw [List.drop_eq_getElem_cons h]
  unfold rd
  simp [List.getD_eq_getElem?_getD, h]
theorem rd_get (l : List Int) (i : Nat) (h : i < l.length) : rd l (i : Int) = l[i] := by
  unfold rd
  simp [List.getD_eq_getElem?_getD, h]
theorem succ_of {k : Nat} (h : 0 < k) : ∃ m, k = m + 1 := ⟨k - 1, by omega⟩
theorem drop_end {α : Type} (l : List α) (i : Nat) (h : l.length ≤ i) : l.drop i = [] := List.drop_of_length_le h
def allIn (l : List Int) (a b : Int) : Bool := l.all (fun x => inR x a b)
/-- Numbers in line, from a on. -/
def marks (a : Int) : Nat → List Int
  | 0 => []
  | n + 1 => a :: marks (a + 1) n
theorem marks_len (a : Int) (n : Nat) : (marks a n).length = n := by
  induction n generalizing a with
  | zero => rfl
  | succ n ih => simp [marks, ih]
theorem marks_snoc (a : Int) (n : Nat) : marks a (n + 1) = marks a n ++ [a + n] := by
  induction n generalizing a with
  | zero => simp [marks]
  | succ n ih =>
    rw [marks, ih (a + 1)]
    simp [marks]
    omega
theorem marks_rd (a : Int) (n i : Nat) (h : i < n) : rd (marks a n) (i : Int) = a + i := by
  rw [rd_get _ _ (by rw [marks_len]; exact h)]
  induction n generalizing a i with
  | zero => omega
  | succ n ih =>
    cases i with
    | zero => simp [marks]
    | succ i =>
      simp only [marks, List.getElem_cons_succ]
      rw [ih (a + 1) i (by omega)]
      omega
theorem impl_allWithin_l0 (lo hi : Int) (l : List Int) (hl : l.length ≤ 9223372036854775807) : ∀ (d i k : Nat), i + d = l.length → d < k →
    impl_allWithin.l0 k lo hi l (l.length : Int) (i : Int) = some (allIn (l.drop i) lo hi)
  | 0, i, k, h, hk => by
    obtain ⟨k, rfl⟩ := succ_of (k := k) (by omega)
    simp only [impl_allWithin.l0]
    rw [if_neg (by omega), drop_end l i (by omega)]
    rfl
  | d + 1, i, k, h, hk => by
    obtain ⟨k, rfl⟩ := succ_of (k := k) (by omega)
    simp only [impl_allWithin.l0]
    rw [if_pos (by omega), if_pos (by omega), if_pos (by omega), impl_within_eq, Option.bind_some, wrap_succ (n := l.length) (by omega) hl, impl_allWithin_l0 lo hi l hl d (i + 1) k (by omega) (by omega), drop_rd l i (by omega)]
    unfold allIn
    rw [List.all_cons]
    cases inR (rd l (i : Int)) lo hi <;> simp
theorem impl_allWithin_eq (k : Nat) (l : List Int) (a b : Int) (hl : l.length ≤ 9223372036854775807) (hk : l.length < k) : impl_allWithin.f k l a b = some (allIn l a b) := by
  unfold impl_allWithin.f
  have := impl_allWithin_l0 a b l hl l.length 0 k (by omega) hk
  simpa using this
theorem impl_Road_has_eq (k : Nat) (s : Int) (r : Bool) (l : List Int) (hl : l.length ≤ 9223372036854775807) (hk : l.length < k) : impl_Road_has.f k s r l = some (allIn l 0 (wrap64 (s - 1))) := by
  unfold impl_Road_has.f
  rw [impl_allWithin_eq k l _ _ hl hk, Option.bind_some]
theorem impl_Road_has1 (k : Nat) (s : Int) (r : Bool) (x : Int) (hs : road s r = true) (hk : 1 < k) : impl_Road_has.f k s r [x] = some (inR x 0 (s - 1)) := by
  rw [impl_Road_has_eq k s r [x] (by simp) (by simpa using hk)]
  have := road_bd hs
  rw [wrap64_id (by omega) (by omega)]
  simp [allIn]
theorem impl_Road_hasN (k : Nat) (s : Int) (r : Bool) (l : List Int) (hs : road s r = true) (hl : l.length ≤ 9223372036854775807) (hk : l.length < k) : impl_Road_has.f k s r l = some (allIn l 0 (s - 1)) := by
  rw [impl_Road_has_eq k s r l hl hk]
  have := road_bd hs
  rw [wrap64_id (by omega) (by omega)]
theorem laws_eqIntS_l0 (l : List Int) (hl : l.length ≤ 9223372036854775807) : ∀ (d i k : Nat), i + d = l.length → d < k → laws_eqIntS.l0 k l l (i : Int) = some true
  | 0, i, k, h, hk => by
    obtain ⟨k, rfl⟩ := succ_of (k := k) (by omega)
    simp only [laws_eqIntS.l0]
    rw [if_neg (by omega)]
  | d + 1, i, k, h, hk => by
    obtain ⟨k, rfl⟩ := succ_of (k := k) (by omega)
    simp only [laws_eqIntS.l0]
    rw [if_pos (by omega), if_pos (by omega), if_pos (by omega), if_pos trivial, wrap_succ (n := l.length) (by omega) hl]
    exact laws_eqIntS_l0 l hl d (i + 1) k (by omega) (by omega)
theorem laws_eqIntS_self (k : Nat) (l : List Int) (hl : l.length ≤ 9223372036854775807) (hk : l.length < k) : laws_eqIntS.f k l l = some true := by
  unfold laws_eqIntS.f
  rw [if_pos rfl]
  have := laws_eqIntS_l0 l hl l.length 0 k (by omega) hk
  simpa using this
theorem laws_toIntS_l0 (l : List Int) (hl : l.length ≤ 9223372036854775807) : ∀ (d i k : Nat), i + d = l.length → d < k → laws_toIntS.l0 k l (l.take i ++ List.replicate d 0) (i : Int) = some l
  | 0, i, k, h, hk => by
    obtain ⟨k, rfl⟩ := succ_of (k := k) (by omega)
    simp only [laws_toIntS.l0]
    rw [if_neg (by omega), List.take_of_length_le (by omega)]
    simp
  | d + 1, i, k, h, hk => by
    obtain ⟨k, rfl⟩ := succ_of (k := k) (by omega)
    simp only [laws_toIntS.l0]
    rw [if_pos (by omega), if_pos (by omega), if_pos (by simp; omega), wrap_succ (n := l.length) (by omega) hl]
    have e : (l.take i ++ List.replicate (d + 1) 0).set ((i : Int)).toNat (rd l (i : Int)) = l.take (i + 1) ++ List.replicate d 0 := by
      rw [Int.toNat_natCast, List.set_append_right _ _ (by simp; omega)]
      rw [List.length_take, Nat.min_eq_left (by omega), Nat.sub_self, List.replicate_succ, List.set_cons_zero, rd_get l i (by omega)]
      rw [List.take_succ_eq_append_getElem (show i < l.length by omega), List.append_assoc]
      rfl
    rw [e]
    exact laws_toIntS_l0 l hl d (i + 1) k (by omega) (by omega)
theorem laws_toIntS_eq (k : Nat) (l : List Int) (hl : l.length ≤ 35184372088832) (hk : l.length < k) : laws_toIntS.f k l = some l := by
  unfold laws_toIntS.f
  rw [if_pos (by omega), if_pos (by simpa using hl)]
  have := laws_toIntS_l0 l (by omega) l.length 0 k (by omega) hk
  simpa using this
theorem spec_l2Place_eq (s : Int) (r : Bool) (x : Int) : spec_l2Place.f s r x = some (road s r && inR x 0 (s - 1)) := by
  unfold spec_l2Place.f
  rw [spec_l2Road_eq, Option.bind_some]
  cases h : road s r with
  | false => simp
  | true =>
    have := road_bd h
    rw [wrap64_id (by omega) (by omega)]
    simp [spec_l1In_eq]
def runL (s x : Int) (n : Nat) : List Int := (List.range n).map (fun (i : Nat) => Int.tmod (x + i) s)
theorem runL_snoc (s x : Int) (n : Nat) : runL s x (n + 1) = runL s x n ++ [Int.tmod (x + n) s] := by unfold runL; rw [List.range_succ]; simp
theorem runL_len (s x : Int) (n : Nat) : (runL s x n).length = n := by simp [runL]
def fits (s : Int) (r : Bool) (x n : Int) : Bool := inR x 0 (s - 1) && inR n 0 s && (r || decide (x + n ≤ s))
def carrierOk (s f0 f1 f2 : Int) : Bool := inR f0 0 (s - 1) && inR f1 0 48 && inR f2 0 20
def gapM (s : Int) (r : Bool) (a b : Int) : Int :=
  let d := if a - b < b - a then b - a else a - b
  if r = true then (if s - d < d then s - d else d) else d
theorem gapM_bd {s : Int} {r : Bool} {a b : Int} (hs : 2 ≤ s) (ha : 0 ≤ a ∧ a ≤ s - 1) (hb : 0 ≤ b ∧ b ≤ s - 1) : 0 ≤ gapM s r a b ∧ gapM s r a b ≤ s - 1 := by
  unfold gapM
  simp only
  split <;> split <;> (try split) <;> omega
def lo2 (a b : Int) : Int := if a < b then a else b
theorem spec_l1Least_eq (a b : Int) : spec_l1Least.f a b = some (lo2 a b) := by unfold spec_l1Least.f lo2; split <;> rfl
def hi2 (a b : Int) : Int := if b < a then a else b
theorem spec_l1Most_eq (a b : Int) : spec_l1Most.f a b = some (hi2 a b) := by unfold spec_l1Most.f hi2; by_cases h : b < a <;> simp [h]
def legM (s : Int) (r : Bool) (f0 f1 x : Int) : Int := if f1 - gapM s r f0 x < 0 then -1 else (if s - 1 < x + (f1 - gapM s r f0 x) then s - 1 else x + (f1 - gapM s r f0 x))
theorem carrierOk_bd {s a b c : Int} (h : carrierOk s a b c = true) : (0 ≤ a ∧ a ≤ s - 1) ∧ (0 ≤ b ∧ b ≤ 48) ∧ (0 ≤ c ∧ c ≤ 20) := by
  unfold carrierOk at h
  rw [Bool.and_eq_true, Bool.and_eq_true, inR_iff, inR_iff, inR_iff] at h
  exact ⟨h.1.1, h.1.2, h.2⟩
def movesOk (l : List Int) : Bool := inR (l.length : Int) 1 24 && allIn l (-1) 1
def walkerOk (s st f d : Int) (l : List Int) : Bool := inR st 0 (s - 1) && (decide (f = 1) || decide (f = -1)) && inR d 0 60 && movesOk l
theorem spec_l4Moves_l0 (l : List Int) (hl : l.length ≤ 9223372036854775807) : ∀ (d i k : Nat), i + d = min 25 l.length → 2 * d + 1 < k →
    spec_l4Moves.l0 k l (i : Int) = some (inR (l.length : Int) 1 24 && allIn (l.drop i) (-1) 1)
  | 0, i, k, h, hk => by
    obtain ⟨k, rfl⟩ := succ_of (k := k) (by omega)
    obtain ⟨k, rfl⟩ := succ_of (k := k) (by omega)
    have hf : (if (i : Int) < (l.length : Int) then spec_l4Moves.j1 (k + 1) l (i : Int) (decide ((i : Int) ≤ 24)) else spec_l4Moves.j1 (k + 1) l (i : Int) false) = spec_l4Moves.j1 (k + 1) l (i : Int) false := by
      by_cases c : (i : Int) < (l.length : Int)
      · rw [if_pos c, decide_eq_false (by omega)]
      · rw [if_neg c]
    simp only [spec_l4Moves.l0]
    rw [hf]
    simp only [spec_l4Moves.j1]
    rw [if_neg (by simp), spec_l1In_eq, Option.bind_some]
    by_cases c : l.length ≤ 25
    · rw [drop_end l i (by omega)]
      simp [allIn]
    · have : inR (l.length : Int) 1 24 = false := inR_not.2 (by omega)
      simp [this]
  | d + 1, i, k, h, hk => by
    obtain ⟨k, rfl⟩ := succ_of (k := k) (by omega)
    obtain ⟨k, rfl⟩ := succ_of (k := k) (by omega)
    simp only [spec_l4Moves.l0]
    rw [if_pos (by omega), decide_eq_true (by omega)]
    simp only [spec_l4Moves.j1]
    rw [if_pos trivial, if_pos (by omega), if_pos (by omega), spec_l1In_eq, Option.bind_some, drop_rd l i (by omega), wrap_succ (n := l.length) (by omega) hl, spec_l4Moves_l0 l hl d (i + 1) k (by omega) (by omega)]
    unfold allIn
    rw [List.all_cons]
    cases inR (rd l (i : Int)) (-1) 1 <;> simp
theorem spec_l4Moves_eq (k : Nat) (l : List Int) (hl : l.length ≤ 9223372036854775807) (hk : 60 < k) : spec_l4Moves.f k l = some (movesOk l) := by
  unfold spec_l4Moves.f
  have := spec_l4Moves_l0 l hl (min 25 l.length) 0 k (by omega) (by omega)
  unfold movesOk
  simpa using this
theorem spec_l4Walker_eq (k : Nat) (s : Int) (r : Bool) (st f d : Int) (l : List Int) (hl : l.length ≤ 9223372036854775807) (hk : 60 < k) :
    spec_l4Walker.f k s r st f d l = some (road s r && walkerOk s st f d l) := by
  unfold spec_l4Walker.f walkerOk
  rw [spec_l2Place_eq, Option.bind_some]
  simp only [spec_l1In_eq, Option.bind_some, spec_l4Moves_eq k l hl hk]
  cases road s r
  · simp
  · cases inR st 0 (s - 1)
    · simp
    · by_cases h1 : f = 1
      · cases inR d 0 60 <;> simp [h1]
      · by_cases h2 : f = -1
        · cases inR d 0 60 <;> simp [h2]
        · simp [h1, h2]
theorem impl_areMoves_eq (k : Nat) (l : List Int) (hl : l.length ≤ 9223372036854775807) (hk : l.length < k) : impl_areMoves.f k l = some (movesOk l) := by
  unfold impl_areMoves.f movesOk
  rw [impl_within_eq, Option.bind_some, impl_allWithin_eq k l _ _ hl hk]
  cases inR (l.length : Int) 1 24 <;> simp
theorem impl_Road_isWalker_eq (k : Nat) (s : Int) (r : Bool) (st f d : Int) (l : List Int) (hr : road s r = true) (hl : l.length ≤ 9223372036854775807) (hk : l.length + 1 < k) :
    impl_Road_isWalker.f k s r st f d l = some (walkerOk s st f d l) := by
  unfold impl_Road_isWalker.f walkerOk
  rw [impl_Road_has1 k s r st hr (by omega), Option.bind_some]
  simp only [impl_within_eq, Option.bind_some, impl_areMoves_eq k l hl (by omega)]
  cases inR st 0 (s - 1)
  · simp
  · by_cases h1 : f = 1
    · cases inR d 0 60 <;> simp [h1]
    · by_cases h2 : f = -1
      · cases inR d 0 60 <;> simp [h2]
      · simp [h1, h2]
theorem laws_szIntS_eq (l : List Int) (a : Int) (ha : 0 ≤ a) (hA : a ≤ 1048576) (hl : l.length ≤ 9223372036854775807) :
    laws_szIntS.f l a = some (if a < l.length then -1 else a - l.length) := by
  unfold laws_szIntS.f
  rw [wrap64_id (by omega) (by omega)]
  by_cases c : a < (l.length : Int)
  · rw [if_pos (by omega), if_pos c]
  · rw [if_neg (by omega), if_neg c]
theorem laws_szWalker_eq (x y z : Int) (l : List Int) (a : Int) (ha : 0 ≤ a) (hA : a ≤ 1048576) (hl : l.length ≤ 9223372036854775807) :
    laws_szWalker.f x y z l a = some (if a < l.length then -1 else a - l.length) := by
  unfold laws_szWalker.f
  rw [laws_szIntS_eq l a ha hA hl, Option.bind_some]
  by_cases c : a < (l.length : Int)
  · rw [if_pos c, if_pos (by omega)]
  · rw [if_neg c, if_neg (by omega)]
theorem laws_toWalker_eq (k : Nat) (x y z : Int) (l : List Int) (hl : l.length ≤ 35184372088832) (hk : l.length < k) : laws_toWalker.f k x y z l = some (x, y, z, l) := by
  unfold laws_toWalker.f
  rw [laws_toIntS_eq k l hl hk, Option.bind_some]
theorem laws_eqWalker_self (k : Nat) (x y z : Int) (l : List Int) (hl : l.length ≤ 9223372036854775807) (hk : l.length < k) : laws_eqWalker.f k x y z l x y z l = some true := by
  unfold laws_eqWalker.f
  rw [if_pos rfl, if_pos rfl, if_pos rfl, laws_eqIntS_self k l hl hk]
  simp
/-- The least gap of p to a list of places, at most m. -/
def nearM (s : Int) (r : Bool) (p : Int) : List Int → Int → Int
  | [], m => m
  | q :: t, m => nearM s r p t (if gapM s r p q < m then gapM s r p q else m)
def farOth (s : Int) (r : Bool) (l : List Int) : Nat → Int → Int → Int → Int × Int
  | 0, _, f, o => (f, o)
  | d + 1, p, f, o => farOth s r l d (p + 1) (if f < nearM s r p l s then nearM s r p l s else f) (if nearM s r p l s > 0 then o + 1 else o)
def finM (n : Nat) (x : Int × Int) : Int := if x.1 < Int.tdiv (x.2 + n - 1) n then Int.tdiv (x.2 + n - 1) n else x.1
def boundM (s : Int) (r : Bool) (l : List Int) : Int := finM l.length (farOth s r l s.toNat 0 0 0)
theorem allIn_rd {l : List Int} {a b : Int} (h : allIn l a b = true) (i : Nat) (hi : i < l.length) : a ≤ rd l (i : Int) ∧ rd l (i : Int) ≤ b := by
  unfold allIn at h
  rw [List.all_eq_true] at h
  rw [rd_get l i hi]
  exact inR_iff.1 (h _ (List.getElem_mem hi))
/-- Each place of a round, from i on, is near to the next one. -/
def cycM (s : Int) (r : Bool) (l : List Int) (i d : Nat) : Bool := (List.range' i d).all (fun j => decide (gapM s r (rd l (j : Int)) (rd l (((j + 1) % l.length : Nat) : Int)) ≤ 1))
theorem cycM_succ (s : Int) (r : Bool) (l : List Int) (i d : Nat) : cycM s r l i (d + 1) = (decide (gapM s r (rd l (i : Int)) (rd l (((i + 1) % l.length : Nat) : Int)) ≤ 1) && cycM s r l (i + 1) d) := by
  unfold cycM
  rw [List.range'_succ, List.all_cons]
def roundOk (s : Int) (r : Bool) (l : List Int) : Bool := allIn l 0 (s - 1) && cycM s r l 0 l.length
def patrolOk (s : Int) (r : Bool) (ls : List (List Int)) : Bool := inR (ls.length : Int) 1 6 && inR ((ls.headD []).length : Int) 1 60 && ls.all (fun l => decide (l.length = (ls.headD []).length) && roundOk s r l)
theorem tmod_nat (a n : Nat) : Int.tmod (a : Int) (n : Int) = ((a % n : Nat) : Int) := by
  rw [Int.tmod_eq_emod_of_nonneg (by omega)]
  rfl
theorem rd_bd {l : List Int} {a b : Int} (h : allIn l a b = true) (i : Nat) (hi : i < l.length) : a ≤ rd l (i : Int) ∧ rd l (i : Int) ≤ b := allIn_rd h i hi
def tot : List (List Int) → Nat
  | [] => 0
  | x :: t => x.length + tot t
theorem tot_append (a b : List (List Int)) : tot (a ++ b) = tot a + tot b := by induction a with
  | nil => simp [tot]
  | cons x t ih => simp [tot, ih]; omega
def marksSS (a : Int) : List (List Int) → List (List Int)
  | [] => []
  | x :: t => marks a x.length :: marksSS (a + x.length) t
theorem marksSS_len (a : Int) (l : List (List Int)) : (marksSS a l).length = l.length := by
  induction l generalizing a with
  | nil => rfl
  | cons x t ih => simp [marksSS, ih]
theorem marksSS_append (a : Int) (l t : List (List Int)) : marksSS a (l ++ t) = marksSS a l ++ marksSS (a + tot l) t := by
  induction l generalizing a with
  | nil => simp [marksSS, tot]
  | cons x l ih =>
    simp only [List.cons_append, marksSS, tot, ih]
    rw [show a + (x.length : Int) + (tot l : Int) = a + ((x.length + tot l : Nat) : Int) by omega]
def ringM (s : Int) (k : Nat) (n : Nat) : List (List Int) := (List.range n).map (fun (i : Nat) => runL s (Int.tdiv (i * s) k) s.toNat)
theorem ringM_snoc (s : Int) (k n : Nat) : ringM s k (n + 1) = ringM s k n ++ [runL s (Int.tdiv (n * s) k) s.toNat] := by unfold ringM; rw [List.range_succ]; simp
theorem ringM_len (s : Int) (k n : Nat) : (ringM s k n).length = n := by simp [ringM]
theorem ringM_mem {s : Int} {k n : Nat} {x : List Int} (h : x ∈ ringM s k n) : x.length = s.toNat := by
  unfold ringM at h
  obtain ⟨i, _, rfl⟩ := List.mem_map.1 h
  exact runL_len _ _ _
theorem tdiv_bd (a : Int) (k : Nat) (h0 : 0 ≤ a) (h1 : a ≤ 1000) (hk : 0 < k) : 0 ≤ Int.tdiv a k ∧ Int.tdiv a k ≤ 1000 := by
  rw [Int.tdiv_eq_ediv_of_nonneg h0]
  exact ⟨Int.ediv_nonneg h0 (by omega), Int.le_trans (Int.ediv_le_self _ h0) h1⟩
theorem mul_bd {i : Nat} {s : Int} (hi : i ≤ 6) (hs : 2 ≤ s ∧ s ≤ 24) : 0 ≤ (i : Int) * s ∧ (i : Int) * s ≤ 144 := by
  have : (i : Int) * s ≤ 6 * 24 := Int.mul_le_mul (by omega) hs.2 (by omega) (by omega)
  exact ⟨Int.mul_nonneg (by omega) (by omega), by omega⟩
def dn (a : Int) : Nat → List Int
  | 0 => []
  | n + 1 => a :: dn (a - 1) n
theorem dn_len (a : Int) (n : Nat) : (dn a n).length = n := by
  induction n generalizing a with
  | zero => rfl
  | succ n ih => simp [dn, ih]
theorem dn_snoc (a : Int) (n : Nat) : dn a (n + 1) = dn a n ++ [a - n] := by
  induction n generalizing a with
  | zero => simp [dn]
  | succ n ih =>
    rw [dn, ih (a - 1)]
    simp [dn]
    omega
def sweepA (f : Int) (m : Nat) (w : Bool) : List Int := marks f m ++ (if w = true then [f + m - 1] else [])
def sweepM (f : Int) (m : Nat) (w : Bool) : List Int := sweepA f m w ++ dn (f + m - 2) (m - 2) ++ (if (w && decide (1 < m)) = true then [f] else [])
theorem sweepA_len (f : Int) (m : Nat) (w : Bool) : (sweepA f m w).length ≤ m + 1 := by unfold sweepA; cases w <;> simp [marks_len]
theorem sweepM_len (f : Int) (m : Nat) (w : Bool) : (sweepM f m w).length ≤ 2 * m + 2 := by
  unfold sweepM
  have := sweepA_len f m w
  rw [List.length_append, List.length_append, dn_len]
  split <;> simp <;> omega
def partMany (s g i : Nat) : Nat := if i < s % g then s / g + 1 else s / g
def partWait (s g i : Nat) : Bool := decide (0 < s % g) && decide (s % g ≤ i)
def partsL (s g : Nat) : Nat → Nat → Int → List (List Int)
  | 0, _, _ => []
  | d + 1, i, f => sweepM f (partMany s g i) (partWait s g i) :: partsL s g d (i + 1) (f + partMany s g i)
def partsM (s g : Nat) : List (List Int) := partsL s g g 0 0
theorem partMany_bd {s g i : Nat} (hs : 2 ≤ s ∧ s ≤ 24) (hg : 1 ≤ g ∧ g ≤ 6) (hgs : g ≤ s) : 1 ≤ partMany s g i ∧ partMany s g i ≤ 24 := by
  unfold partMany
  have h1 : 0 < s / g := Nat.div_pos hgs (by omega)
  have h2 : s / g ≤ s := Nat.div_le_self s g
  by_cases c : i < s % g
  · rw [if_pos c]
    have h3 : g ≠ 1 := by intro e; subst e; rw [Nat.mod_one] at c; omega
    have h4 : s / g ≤ s / 2 := Nat.div_le_div_left (by omega) (by omega)
    omega
  · rw [if_neg c]; omega
theorem partsL_len (s g d i : Nat) (f : Int) : (partsL s g d i f).length = d := by
  induction d generalizing i f with
  | zero => rfl
  | succ d ih => simp [partsL, ih]
theorem partsL_mem {s g : Nat} (hs : 2 ≤ s ∧ s ≤ 24) (hg : 1 ≤ g ∧ g ≤ 6) (hgs : g ≤ s) {d i : Nat} {f : Int} {x : List Int} (h : x ∈ partsL s g d i f) : x.length ≤ 50 := by
  induction d generalizing i f with
  | zero => simp [partsL] at h
  | succ d ih =>
    rw [partsL] at h
    rcases List.mem_cons.1 h with rfl | h
    · have := sweepM_len f (partMany s g i) (partWait s g i)
      have := partMany_bd (i := i) hs hg hgs
      omega
    · exact ih h
theorem tdiv_nat (a n : Nat) : Int.tdiv (a : Int) (n : Int) = ((a / n : Nat) : Int) := by
  rw [Int.tdiv_eq_ediv_of_nonneg (by omega)]
  rfl
theorem part_wait {s g i : Nat} (hs : 2 ≤ s ∧ s ≤ 24) (hg : 1 ≤ g ∧ g ≤ 6) : decide ((partMany s g i : Int) < (((s + g - 1) / g : Nat) : Int)) = partWait s g i := by
  unfold partMany partWait
  have hd : (s + g - 1) / g = if 0 < s % g then s / g + 1 else s / g := by
    obtain rfl | rfl | rfl | rfl | rfl | rfl : g = 1 ∨ g = 2 ∨ g = 3 ∨ g = 4 ∨ g = 5 ∨ g = 6 := by omega
    all_goals (split <;> omega)
  rw [hd]
  by_cases c : 0 < s % g
  · by_cases c2 : i < s % g
    · rw [if_pos c, if_pos c2, decide_eq_false (by omega), decide_eq_false (show ¬ s % g ≤ i by omega), Bool.and_false]
    · rw [if_pos c, if_neg c2, decide_eq_true (by omega), decide_eq_true c, decide_eq_true (show s % g ≤ i by omega), Bool.and_true]
  · have : ¬ i < s % g := by omega
    rw [if_neg c, if_neg this, decide_eq_false (by omega), decide_eq_false c, Bool.false_and]
theorem allIn_rdZ {l : List Int} {a b : Int} (h : allIn l a b = true) {i : Int} (h0 : 0 ≤ i) (h1 : i < (l.length : Int)) : a ≤ rd l i ∧ rd l i ≤ b := by
  obtain ⟨n, rfl⟩ := Int.eq_ofNat_of_zero_le h0
  have hn : n < l.length := by omega
  have e := rd_get l n hn
  unfold allIn at h
  have := List.all_eq_true.1 h _ (List.getElem_mem hn)
  rw [inR_iff] at this
  rw [e]
  exact this
def stepW (s : Int) (r : Bool) (p x : Int) : Int := if r = true then Int.tmod (p + x + s) s else if inR (p + x) 0 (s - 1) = true then p + x else p
theorem stepW_bd {s : Int} {r : Bool} {p x : Int} (hs : 2 ≤ s) (hp : 0 ≤ p ∧ p ≤ s - 1) (hx : -1 ≤ x ∧ x ≤ 1) : 0 ≤ stepW s r p x ∧ stepW s r p x ≤ s - 1 := by
  unfold stepW
  by_cases c : r = true
  · rw [if_pos c]
    have h1 := Int.tmod_nonneg s (show 0 ≤ p + x + s by omega)
    have h2 := Int.tmod_lt_of_pos (p + x + s) (show 0 < s by omega)
    omega
  · rw [if_neg c]
    by_cases d : inR (p + x) 0 (s - 1) = true
    · rw [if_pos d]
      exact inR_iff.1 d
    · rw [if_neg d]
      exact hp
theorem stepW_zero {s : Int} {r : Bool} {p : Int} (hs : 2 ≤ s) (hp : 0 ≤ p ∧ p ≤ s - 1) : stepW s r p 0 = p := by
  unfold stepW
  by_cases c : r = true
  · rw [if_pos c, Int.add_zero, Int.tmod_eq_emod_of_nonneg (by omega), Int.add_emod_right, Int.emod_eq_of_lt (by omega) (by omega)]
  · rw [if_neg c, Int.add_zero, if_pos (inR_iff.2 hp)]
/-- A walker's move at a time. -/
def mvW (f d : Int) (l : List Int) (t : Nat) : Int := if d ≤ (t : Int) then f * rd l (Int.tmod ((t : Int) - d) (l.length : Int)) else 0
/-- A walker's place at a time. -/
def atW (s : Int) (r : Bool) (st f d : Int) (l : List Int) : Nat → Int
  | 0 => st
  | t + 1 => stepW s r (atW s r st f d l t) (mvW f d l t)
def walkM (s : Int) (r : Bool) (st f d : Int) (l : List Int) (n : Nat) : List Int := (List.range (n + 1)).map (atW s r st f d l)
theorem walkM_len (s : Int) (r : Bool) (st f d : Int) (l : List Int) (n : Nat) : (walkM s r st f d l n).length = n + 1 := by simp [walkM]
theorem walkM_snoc (s : Int) (r : Bool) (st f d : Int) (l : List Int) (n : Nat) : walkM s r st f d l (n + 1) = walkM s r st f d l n ++ [atW s r st f d l (n + 1)] := by
  unfold walkM
  rw [List.range_succ (n := n + 1)]
  simp
theorem walkM_zero (s : Int) (r : Bool) (st f d : Int) (l : List Int) : walkM s r st f d l 0 = [st] := by simp [walkM, atW]
theorem walkM_rd (s : Int) (r : Bool) (st f d : Int) (l : List Int) (n i : Nat) (h : i ≤ n) : rd (walkM s r st f d l n) (i : Int) = atW s r st f d l i := by
  rw [rd_get _ _ (by rw [walkM_len]; omega)]
  simp [walkM]
/-- The facts of a walker that is valid. -/
theorem walkerOk_bd {s st f d : Int} {l : List Int} (h : walkerOk s st f d l = true) : (0 ≤ st ∧ st ≤ s - 1) ∧ (f = 1 ∨ f = -1) ∧ (0 ≤ d ∧ d ≤ 60) ∧ (1 ≤ (l.length : Int) ∧ (l.length : Int) ≤ 24) ∧ allIn l (-1) 1 = true := by
  unfold walkerOk movesOk at h
  simp only [Bool.and_eq_true, Bool.or_eq_true, decide_eq_true_eq, inR_iff] at h
  exact ⟨h.1.1.1, h.1.1.2, h.1.2, h.2.1, h.2.2⟩
theorem mvW_ix {d : Int} {l : List Int} {t : Nat} (hl : 1 ≤ (l.length : Int)) (c : d ≤ (t : Int)) : 0 ≤ Int.tmod ((t : Int) - d) (l.length : Int) ∧ Int.tmod ((t : Int) - d) (l.length : Int) < (l.length : Int) :=
  ⟨Int.tmod_nonneg _ (by omega), Int.tmod_lt_of_pos _ (by omega)⟩
theorem mvW_bd {f d : Int} {l : List Int} {t : Nat} (hf : f = 1 ∨ f = -1) (hl : 1 ≤ (l.length : Int)) (ha : allIn l (-1) 1 = true) : -1 ≤ mvW f d l t ∧ mvW f d l t ≤ 1 := by
  unfold mvW
  by_cases c : d ≤ (t : Int)
  · rw [if_pos c]
    have hi := mvW_ix hl c
    have := allIn_rdZ ha hi.1 hi.2
    rcases hf with rfl | rfl <;> omega
  · rw [if_neg c]; omega
theorem atW_bd {s : Int} {r : Bool} {st f d : Int} {l : List Int} (hs : 2 ≤ s) (h : walkerOk s st f d l = true) : ∀ t, 0 ≤ atW s r st f d l t ∧ atW s r st f d l t ≤ s - 1
  | 0 => (walkerOk_bd h).1
  | t + 1 => stepW_bd hs (atW_bd hs h t) (mvW_bd (walkerOk_bd h).2.1 (walkerOk_bd h).2.2.2.1.1 (walkerOk_bd h).2.2.2.2)
theorem spec_l2Step_eq (s : Int) (r : Bool) (p x : Int) (hs : 2 ≤ s ∧ s ≤ 24) (hp : 0 ≤ p ∧ p ≤ s - 1) (hx : -1 ≤ x ∧ x ≤ 1) : spec_l2Step.f s r p x = some (stepW s r p x) := by
  unfold spec_l2Step.f stepW
  by_cases c : r = true
  · rw [if_pos c, if_pos c, if_neg (by omega), wrap64_id (x := p + x) (by omega) (by omega), wrap64_id (by omega) (by omega)]
  · rw [if_neg c, if_neg c, wrap64_id (x := p + x) (by omega) (by omega), wrap64_id (by omega) (by omega), spec_l1Least_eq, Option.bind_some, spec_l1Most_eq, Option.bind_some]
    congr 1
    unfold inR lo2 hi2
    by_cases d : 0 ≤ p + x <;> by_cases e : p + x ≤ s - 1 <;> simp [d, e] <;> (repeat' split) <;> omega
theorem spec_l4Walk_l0 (s : Int) (r : Bool) (st f d : Int) (l : List Int) (n : Nat) (hs : 2 ≤ s ∧ s ≤ 24) (h : walkerOk s st f d l = true) (hn : n ≤ 1000) : ∀ (e t k : Nat), t + e = n → e < k →
    spec_l4Walk.l0 k (n : Int) (walkM s r st f d l t) (atW s r st f d l t) (t : Int) s r st f d l = some (walkM s r st f d l n)
  | 0, t, k, he, hk => by
    obtain ⟨k, rfl⟩ := succ_of (k := k) (by omega)
    simp only [spec_l4Walk.l0]
    rw [if_neg (by omega), show t = n by omega]
  | e + 1, t, k, he, hk => by
    obtain ⟨k, rfl⟩ := succ_of (k := k) (by omega)
    have hb := walkerOk_bd h
    have hp := atW_bd (r := r) hs.1 h t
    have hm := mvW_bd (t := t) (d := d) hb.2.1 hb.2.2.2.1.1 hb.2.2.2.2
    have ih := spec_l4Walk_l0 s r st f d l n hs h hn e (t + 1) k (by omega) (by omega)
    rw [walkM_snoc] at ih
    have hlen : (walkM s r st f d l t).length < 17592186044416 := by rw [walkM_len]; omega
    simp only [spec_l4Walk.l0]
    rw [if_pos (by omega), wrap_succ (n := n) (by omega) (by omega)]
    by_cases c : d ≤ (t : Int)
    · have hi := mvW_ix hb.2.2.2.1.1 c
      have em : mvW f d l t = f * rd l (Int.tmod ((t : Int) - d) (l.length : Int)) := by unfold mvW; rw [if_pos c]
      rw [if_pos (by omega), wrap64_id (x := (t : Int) - d) (by omega) (by omega), if_neg (by omega), if_pos hi.1, if_pos hi.2]
      by_cases z : rd l (Int.tmod ((t : Int) - d) (l.length : Int)) = 0
      · have ez : atW s r st f d l (t + 1) = atW s r st f d l t := by
          show stepW s r _ (mvW f d l t) = _
          rw [em, z, Int.mul_zero, stepW_zero hs.1 hp]
        rw [if_pos z, if_pos hlen]
        rw [ez] at ih
        exact ih
      · rw [if_neg z, Int.mul_comm, ← em, wrap64_id (x := mvW f d l t) (by omega) (by omega), spec_l2Step_eq s r _ _ hs hp hm, Option.bind_some, if_pos hlen]
        exact ih
    · have ez : atW s r st f d l (t + 1) = atW s r st f d l t := by
        show stepW s r _ (mvW f d l t) = _
        unfold mvW
        rw [if_neg c, stepW_zero hs.1 hp]
      rw [if_neg (by omega), if_pos hlen]
      rw [ez] at ih
      exact ih
theorem spec_l4Walk_eq (k : Nat) (s : Int) (r : Bool) (st f d : Int) (l : List Int) (n : Int) (hs : 2 ≤ s ∧ s ≤ 24) (h : walkerOk s st f d l = true) (hn : 0 ≤ n ∧ n ≤ 1000) (hk : n.toNat < k) :
    spec_l4Walk.f k s r st f d l n = some (walkM s r st f d l n.toNat) := by
  unfold spec_l4Walk.f
  have := spec_l4Walk_l0 s r st f d l n.toNat hs h (by omega) n.toNat 0 k (by omega) hk
  rw [Int.toNat_of_nonneg hn.1, walkM_zero] at this
  exact this
theorem impl_Road_walk_l0 (s : Int) (r : Bool) (st f d : Int) (l : List Int) (n : Nat) (hr : road s r = true) (h : walkerOk s st f d l = true) (hn : n ≤ 1000) : ∀ (e t k : Nat), t + e = n → e + 2 < k →
    impl_Road_walk.l0 k (walkM s r st f d l t) (atW s r st f d l t) (n : Int) (t : Int) s r st f d l = some (walkM s r st f d l n)
  | 0, t, k, he, hk => by
    obtain ⟨k, rfl⟩ := succ_of (k := k) (by omega)
    simp only [impl_Road_walk.l0]
    rw [if_neg (by omega), show t = n by omega]
  | e + 1, t, k, he, hk => by
    obtain ⟨k, rfl⟩ := succ_of (k := k) (by omega)
    have hs := road_bd hr
    have hb := walkerOk_bd h
    have hp := atW_bd (r := r) hs.1 h t
    have hm := mvW_bd (t := t) (d := d) hb.2.1 hb.2.2.2.1.1 hb.2.2.2.2
    have ih := impl_Road_walk_l0 s r st f d l n hr h hn e (t + 1) k (by omega) (by omega)
    rw [walkM_snoc] at ih
    have hlen : (walkM s r st f d l t).length < 17592186044416 := by rw [walkM_len]; omega
    have hq := atW_bd (r := r) hs.1 h (t + 1)
    simp only [impl_Road_walk.l0]
    rw [if_pos (by omega), wrap_succ (n := n) (by omega) (by omega)]
    by_cases c : d ≤ (t : Int)
    · have hi := mvW_ix hb.2.2.2.1.1 c
      have em : mvW f d l t = f * rd l (Int.tmod ((t : Int) - d) (l.length : Int)) := by unfold mvW; rw [if_pos c]
      rw [if_pos (by omega), wrap64_id (x := (t : Int) - d) (by omega) (by omega), if_neg (by omega), if_pos hi.1, if_pos hi.2]
      simp only [← em, wrap64_id (x := mvW f d l t) (by omega) (by omega), wrap64_id (x := atW s r st f d l t + mvW f d l t) (by omega) (by omega)]
      by_cases z : r = true
      · have ez : atW s r st f d l (t + 1) = Int.tmod (atW s r st f d l t + mvW f d l t + s) s := by
          show stepW s r _ (mvW f d l t) = _
          unfold stepW
          rw [if_pos z]
        rw [if_pos z, if_neg (by omega), wrap64_id (by omega) (by omega), ← ez, impl_Road_has1 k s r _ hr (by omega), inR_iff.2 hq, Option.bind_some, if_pos rfl, if_pos hlen]
        exact ih
      · rw [if_neg z, impl_Road_has1 k s r _ hr (by omega), Option.bind_some]
        have ez : atW s r st f d l (t + 1) = if inR (atW s r st f d l t + mvW f d l t) 0 (s - 1) = true then atW s r st f d l t + mvW f d l t else atW s r st f d l t := by
          show stepW s r _ (mvW f d l t) = _
          unfold stepW
          rw [if_neg z]
        rw [ez] at ih
        by_cases y : inR (atW s r st f d l t + mvW f d l t) 0 (s - 1) = true
        · rw [if_pos y] at ih ⊢
          rw [if_pos hlen]
          exact ih
        · rw [if_neg y] at ih ⊢
          rw [if_pos hlen]
          exact ih
    · have ez : atW s r st f d l (t + 1) = atW s r st f d l t := by
        show stepW s r _ (mvW f d l t) = _
        unfold mvW
        rw [if_neg c, stepW_zero hs.1 hp]
      rw [if_neg (by omega), if_pos hlen]
      rw [ez] at ih
      exact ih
theorem impl_Road_walk_eq (k : Nat) (s : Int) (r : Bool) (st f d : Int) (l : List Int) (n : Int) (hr : road s r = true) (h : walkerOk s st f d l = true) (hn : 0 ≤ n ∧ n ≤ 1000) (hk : n.toNat + 2 < k) :
    impl_Road_walk.f k s r st f d l n = some (walkM s r st f d l n.toNat) := by
  unfold impl_Road_walk.f
  have := impl_Road_walk_l0 s r st f d l n.toNat hr h (by omega) n.toNat 0 k (by omega) hk
  rw [Int.toNat_of_nonneg hn.1, walkM_zero] at this
  exact this
open Go.Proofs.Ytgoapgogdkiooad.Own in
theorem anyO_eq {α : Type} {q : α → Option Bool} {p : α → Bool} : ∀ {l : List α}, (∀ x ∈ l, q x = some (p x)) → anyO q l = some (l.any p)
  | [], _ => rfl
  | x :: t, h => by
    simp only [anyO]
    rw [h x (List.mem_cons_self ..), Option.bind_some, anyO_eq (fun y hy => h y (List.mem_cons_of_mem _ hy)), List.any_cons]
    cases p x <;> simp
theorem impl_areWalkers_eq (k : Nat) (s : Int) (r : Bool) (ws : List S53) (hl : ∀ x ∈ ws, x.f3.length ≤ 9223372036854775807 ∧ x.f3.length + 1 < k) :
    impl_areWalkers.f k s r ws = some (road s r && ws.all fun x => walkerOk s x.f0 x.f1 x.f2 x.f3) := by
  unfold impl_areWalkers.f
  rw [impl_IsRoad_eq, Option.bind_some]
  cases hr : road s r with
  | false => simp
  | true =>
    rw [if_pos rfl, anyO_eq (p := fun x => !walkerOk s x.f0 x.f1 x.f2 x.f3)]
    · rw [Option.bind_some, Bool.true_and]
      clear hl
      congr 1
      induction ws with
      | nil => rfl
      | cons x ws ih =>
        rw [List.any_cons, List.all_cons, Bool.not_or, Bool.not_not, ih]
    · intro x hx
      rw [impl_Road_isWalker_eq k s r _ _ _ _ hr (hl x hx).1 (hl x hx).2]
      rfl
/-- The first time, from t on and d times long, at which all walks are at one place, or -1. -/
def meetF (ws : List (List Int)) : Nat → Nat → Int
  | 0, _ => -1
  | d + 1, t => if (ws.all fun w => rd w (t : Int) == rd (ws.headD []) (t : Int)) = true then (t : Int) else meetF ws d (t + 1)
theorem meetF_succ (ws : List (List Int)) (d t : Nat) : meetF ws (d + 1) t = if (ws.all fun w => rd w (t : Int) == rd (ws.headD []) (t : Int)) = true then (t : Int) else meetF ws d (t + 1) := rfl
theorem meetF_bd (ws : List (List Int)) : ∀ d t, meetF ws d t = -1 ∨ ((t : Int) ≤ meetF ws d t ∧ meetF ws d t < (t : Int) + d)
  | 0, t => .inl rfl
  | d + 1, t => by
    unfold meetF
    split
    · right; omega
    · rcases meetF_bd ws d (t + 1) with h | h
      · exact .inl h
      · right; omega
theorem rdLL_get (ws : List (List Int)) (i : Nat) (h : i < ws.length) : rd_L1 ws (i : Int) = ws[i] := by
  unfold rd_L1
  simp [List.getD_eq_getElem?_getD, List.getElem?_eq_getElem h]
theorem drop_rdLL (ws : List (List Int)) (i : Nat) (h : i < ws.length) : ws.drop i = rd_L1 ws (i : Int) :: ws.drop (i + 1) := by
  rw [List.drop_eq_getElem_cons h, rdLL_get ws i h]
theorem rdLL_head (ws : List (List Int)) : rd_L1 ws 0 = ws.headD [] := by unfold rd_L1; cases ws <;> simp
theorem spec_l4Meet_l1 (ws : List (List Int)) (hn : ws.length ≤ 1000) (h0 : 0 < ws.length) (hw : ∀ w ∈ ws, w.length = 61) (t : Nat) (ht : t ≤ 60) : ∀ (d i k : Nat) (b : Bool), i + d = ws.length →
    spec_l4Meet.l1 (k + d + 1) ws (t : Int) b (i : Int) = if (b && (ws.drop i).all fun w => rd w (t : Int) == rd (ws.headD []) (t : Int)) = true then some (t : Int) else spec_l4Meet.l0 k ws ((t + 1 : Nat) : Int)
  | 0, i, k, b, hi => by
    simp only [spec_l4Meet.l1]
    rw [if_neg (by omega), drop_end ws i (by omega), wrap64_id (by omega) (by omega)]
    cases b <;> simp
  | d + 1, i, k, b, hi => by
    have ih := spec_l4Meet_l1 ws hn h0 hw t ht d (i + 1) k
    have hi' : i < ws.length := by omega
    have e1 : (rd_L1 ws (i : Int)).length = 61 := by rw [rdLL_get ws i hi']; exact hw _ (List.getElem_mem hi')
    have e2 : (rd_L1 ws 0).length = 61 := by
      have := rdLL_get ws 0 h0
      rw [show ((0 : Nat) : Int) = 0 from rfl] at this
      rw [this]; exact hw _ (List.getElem_mem h0)
    show spec_l4Meet.l1 ((k + d + 1) + 1) ws (t : Int) b (i : Int) = _
    generalize k + d + 1 = m at ih ⊢
    simp only [spec_l4Meet.l1]
    rw [if_pos (by omega), drop_rdLL ws i hi', List.all_cons, wrap_succ (n := ws.length) hi' (by omega)]
    cases b with
    | true =>
      rw [if_pos rfl, if_pos (by omega), if_pos (by omega), if_pos (by omega), if_pos (by omega), if_pos (by omega), ih _ (by omega), rdLL_head, Bool.true_and]
    | false =>
      rw [if_neg (by simp), ih _ (by omega)]
      simp
theorem spec_l4Meet_l0 (ws : List (List Int)) (hn : ws.length ≤ 1000) (h0 : 0 < ws.length) (hw : ∀ w ∈ ws, w.length = 61) : ∀ (d t k : Nat), t + d = 61 →
    spec_l4Meet.l0 (k + d * (ws.length + 1) + 1) ws (t : Int) = some (meetF ws d t)
  | 0, t, k, h => by
    simp only [spec_l4Meet.l0]
    rw [if_neg (by omega)]
    rfl
  | d + 1, t, k, h => by
    have ih := spec_l4Meet_l0 ws hn h0 hw d (t + 1) k (by omega)
    simp only [spec_l4Meet.l0]
    rw [if_pos (by omega)]
    have e : k + (d + 1) * (ws.length + 1) = (k + d * (ws.length + 1) + 1) + (ws.length - 1) + 1 := by rw [Nat.succ_mul]; omega
    rw [e]
    have := spec_l4Meet_l1 ws hn h0 hw t (by omega) (ws.length - 1) 1 (k + d * (ws.length + 1) + 1) true (by omega)
    rw [show (1 : Int) = ((1 : Nat) : Int) from rfl, this, ih, Bool.true_and]
    rw [meetF_succ]
    have hh : (ws.all fun w => rd w (t : Int) == rd (ws.headD []) (t : Int)) = ((ws.drop 1).all fun w => rd w (t : Int) == rd (ws.headD []) (t : Int)) := by
      cases ws with
      | nil => simp at h0
      | cons x xs => simp
    rw [hh]
    split <;> rfl
theorem spec_l4Meet_eq (k : Nat) (ws : List (List Int)) (hn : ws.length ≤ 1000) (h0 : 0 < ws.length) (hw : ∀ w ∈ ws, w.length = 61) (hk : 61 * (ws.length + 1) < k) : spec_l4Meet.f k ws = some (meetF ws 61 0) := by
  unfold spec_l4Meet.f
  have := spec_l4Meet_l0 ws hn h0 hw 61 0 (k - (61 * (ws.length + 1) + 1)) rfl
  rw [show k - (61 * (ws.length + 1) + 1) + 61 * (ws.length + 1) + 1 = k by omega] at this
  exact this
theorem togO_eq (ws : List (List Int)) (hw : ∀ w ∈ ws, w.length = 61) (row : List Int) (hrow : row = ws.headD []) (hlen : row.length = 61) : ∀ (d t : Nat), t + d = 61 → togO ws (row.drop t) t = some (meetF ws d t)
  | 0, t, h => by
    rw [drop_end row t (by omega)]
    rfl
  | d + 1, t, h => by
    rw [drop_rd row t (by omega)]
    simp only [togO]
    rw [anyO_eq (p := fun w => rd w (t : Int) != rd row (t : Int)) (fun w hm => by unfold togQ; rw [if_pos (by rw [hw w hm]; omega)]), Option.bind_some, togO_eq ws hw row hrow hlen d (t + 1) (by omega)]
    rw [meetF_succ]
    rw [← hrow]
    have e : (ws.any fun w => rd w (t : Int) != rd row (t : Int)) = !(ws.all fun w => rd w (t : Int) == rd row (t : Int)) := by
      rw [List.all_eq_not_any_not]
      simp [bne]
    rw [e]
    cases (ws.all fun w => rd w (t : Int) == rd row (t : Int)) <;> simp
theorem impl_together_eq (k : Nat) (ws : List (List Int)) (h0 : 0 < ws.length) (hw : ∀ w ∈ ws, w.length = 61) : impl_together.f k ws = some (meetF ws 61 0) := by
  unfold impl_together.f
  rw [if_pos (by omega)]
  have e0 : rd_L1 ws 0 = ws.headD [] := by unfold rd_L1; cases ws <;> simp
  have e1 : (ws.headD []).length = 61 := by
    cases ws with
    | nil => simp at h0
    | cons x xs => exact hw x (List.mem_cons_self ..)
  rw [e0]
  have := togO_eq ws hw _ rfl e1 61 0 rfl
  simpa using this
theorem rdW_get (l : List S53) (i : Nat) (h : i < l.length) : rd_T53 l (i : Int) = l[i] := by
  unfold rd_T53
  simp [List.getD_eq_getElem?_getD, List.getElem?_eq_getElem h]
theorem impl_Road_meets_l0 (s : Int) (r : Bool) (hr : road s r = true) (gs : List S53) (h0 : 0 < gs.length) (hn : gs.length ≤ 1000) (hg : ∀ x ∈ gs, walkerOk s x.f0 x.f1 x.f2 x.f3 = true) : ∀ (d i k : Nat), i + d = gs.length → d + 63 < k →
    impl_Road_meets.l0 k ((gs.take i).map fun x => walkM s r x.f0 x.f1 x.f2 x.f3 60) gs (gs.length : Int) (i : Int) s r = some (meetF (gs.map fun x => walkM s r x.f0 x.f1 x.f2 x.f3 60) 61 0)
  | 0, i, k, h, hk => by
    obtain ⟨k, rfl⟩ := succ_of (k := k) (by omega)
    simp only [impl_Road_meets.l0]
    rw [if_neg (by omega), List.take_of_length_le (by omega), impl_together_eq k _ (by simpa using h0) (by intro w hw; obtain ⟨x, _, rfl⟩ := List.mem_map.1 hw; rw [walkM_len])]
    rfl
  | d + 1, i, k, h, hk => by
    obtain ⟨k, rfl⟩ := succ_of (k := k) (by omega)
    have hi : i < gs.length := by omega
    simp only [impl_Road_meets.l0]
    rw [if_pos (by omega), if_pos (by omega), if_pos (by omega), rdW_get gs i hi, impl_Road_walk_eq k s r _ _ _ _ 60 hr (hg _ (List.getElem_mem hi)) (by omega) (by omega), Option.bind_some, if_pos (by simp; omega), wrap_succ (n := gs.length) hi (by omega)]
    have e : (gs.take (i + 1)).map (fun x => walkM s r x.f0 x.f1 x.f2 x.f3 60) = (gs.take i).map (fun x => walkM s r x.f0 x.f1 x.f2 x.f3 60) ++ [walkM s r gs[i].f0 gs[i].f1 gs[i].f2 gs[i].f3 60] := by
      rw [List.take_succ_eq_append_getElem hi, List.map_append]
      rfl
    have ih := impl_Road_meets_l0 s r hr gs h0 hn hg d (i + 1) k (by omega) (by omega)
    rw [e] at ih
    exact ih
theorem impl_Road_meets_eq (k : Nat) (s : Int) (r : Bool) (hr : road s r = true) (gs : List S53) (h0 : 0 < gs.length) (hn : gs.length ≤ 1000) (hg : ∀ x ∈ gs, walkerOk s x.f0 x.f1 x.f2 x.f3 = true) (hk : gs.length + 63 < k) :
    impl_Road_meets.f k s r gs = some (meetF (gs.map fun x => walkM s r x.f0 x.f1 x.f2 x.f3 60) 61 0) := by
  unfold impl_Road_meets.f
  exact impl_Road_meets_l0 s r hr gs h0 hn hg gs.length 0 k (by omega) hk
theorem impl_found_eq (t : Int) : impl_found.f t = some (if t < 0 then (0, false) else (t, true)) := by
  unfold impl_found.f mx
  by_cases c : t < 0
  · rw [if_pos c, if_neg (by omega), decide_eq_false (by omega)]
  · rw [if_neg c, decide_eq_true (by omega)]
    by_cases d : 0 < t
    · rw [if_pos d]
    · rw [if_neg d, show t = 0 by omega]
theorem rdWL_get (l : List S50) (i : Nat) (h : i < l.length) : rd_T50 l (i : Int) = l[i] := by
  unfold rd_T50
  simp [List.getD_eq_getElem?_getD, List.getElem?_eq_getElem h]
theorem laws_szWalkerS_l0 (l : List S50) (hl : l.length ≤ 9223372036854775807) (hx : ∀ x ∈ l, x.f3.length ≤ 9223372036854775807) : ∀ (d i k : Nat) (a : Int), i + d = l.length → d < k → 0 ≤ a → a ≤ 1048576 →
    ∃ s, laws_szWalkerS.l0 k l a (i : Int) = some s ∧ (s < 0 ∨ ∀ x ∈ l.drop i, x.f3.length ≤ 1048576)
  | 0, i, k, a, h, hk, h0, h1 => by
    obtain ⟨k, rfl⟩ := succ_of (k := k) (by omega)
    simp only [laws_szWalkerS.l0]
    rw [if_neg (by omega), drop_end l i (by omega)]
    exact ⟨_, rfl, .inr (by simp)⟩
  | d + 1, i, k, a, h, hk, h0, h1 => by
    obtain ⟨k, rfl⟩ := succ_of (k := k) (by omega)
    have hi : i < l.length := by omega
    simp only [laws_szWalkerS.l0]
    rw [if_pos (by omega), if_pos (by omega), rdWL_get l i hi, laws_szWalker_eq _ _ _ _ _ h0 h1 (hx _ (List.getElem_mem hi)), Option.bind_some]
    by_cases c : a < ((l[i].f3.length : Nat) : Int)
    · rw [if_pos c, if_pos (by omega)]
      exact ⟨_, rfl, .inl (by omega)⟩
    · rw [if_neg c, if_neg (by omega), wrap_succ (n := l.length) hi hl]
      obtain ⟨s, hs, hd⟩ := laws_szWalkerS_l0 l hl hx d (i + 1) k (a - (l[i].f3.length : Nat)) (by omega) (by omega) (by omega) (by omega)
      refine ⟨s, hs, ?_⟩
      rcases hd with hd | hd
      · exact .inl hd
      · right
        rw [List.drop_eq_getElem_cons hi]
        intro x hm
        rcases List.mem_cons.1 hm with rfl | hm
        · omega
        · exact hd x hm
theorem laws_szWalkerS_eq (k : Nat) (l : List S50) (hl : l.length ≤ 9223372036854775807) (hx : ∀ x ∈ l, x.f3.length ≤ 9223372036854775807) (hk : l.length < k) :
    ∃ s, laws_szWalkerS.f k l 1048576 = some s ∧ (s < 0 ∨ l.length ≤ 1048576 ∧ ∀ x ∈ l, x.f3.length ≤ 1048576) := by
  unfold laws_szWalkerS.f
  rw [wrap64_id (by omega) (by omega)]
  by_cases c : (1048576 : Int) - (l.length : Int) < 0
  · rw [if_pos c]
    exact ⟨_, rfl, .inl (by omega)⟩
  · rw [if_neg c]
    obtain ⟨s, hs, hd⟩ := laws_szWalkerS_l0 l hl hx l.length 0 k (1048576 - (l.length : Int)) (by omega) hk (by omega) (by omega)
    refine ⟨s, hs, ?_⟩
    rcases hd with hd | hd
    · exact .inl hd
    · exact .inr ⟨by omega, by simpa using hd⟩
def toW (x : S50) : S53 := ⟨x.f0, x.f1, x.f2, x.f3⟩
theorem laws_toWalkerS_l0 (l : List S50) (hl : l.length ≤ 9223372036854775807) (hx : ∀ x ∈ l, x.f3.length ≤ 1048576) : ∀ (d i k : Nat), i + d = l.length → d + 1048577 < k →
    laws_toWalkerS.l0 k l ((l.map toW).take i ++ List.replicate d z53) (i : Int) = some (l.map toW)
  | 0, i, k, h, hk => by
    obtain ⟨k, rfl⟩ := succ_of (k := k) (by omega)
    simp only [laws_toWalkerS.l0]
    rw [if_neg (by omega), List.take_of_length_le (by simp; omega)]
    simp
  | d + 1, i, k, h, hk => by
    obtain ⟨k, rfl⟩ := succ_of (k := k) (by omega)
    have hi : i < l.length := by omega
    have hb := hx _ (List.getElem_mem hi)
    simp only [laws_toWalkerS.l0]
    rw [if_pos (by omega), if_pos (by omega), rdWL_get l i hi, laws_toWalker_eq _ _ _ _ _ (by omega) (by omega), Option.bind_some, if_pos (by simp; omega), wrap_succ (n := l.length) hi hl]
    have e : ((l.map toW).take i ++ List.replicate (d + 1) z53).set ((i : Int)).toNat (⟨l[i].f0, l[i].f1, l[i].f2, l[i].f3⟩ : S53) = (l.map toW).take (i + 1) ++ List.replicate d z53 := by
      rw [Int.toNat_natCast, List.set_append_right _ _ (by simp; omega)]
      rw [List.length_take, List.length_map, Nat.min_eq_left (by omega), Nat.sub_self, List.replicate_succ, List.set_cons_zero]
      rw [List.take_succ_eq_append_getElem (show i < (l.map toW).length by simp; omega), List.append_assoc, List.getElem_map]
      rfl
    rw [e]
    exact laws_toWalkerS_l0 l hl hx d (i + 1) k (by omega) (by omega)
theorem laws_toWalkerS_eq (k : Nat) (l : List S50) (hl : l.length ≤ 1048576) (hx : ∀ x ∈ l, x.f3.length ≤ 1048576) (hk : 2097160 < k) : laws_toWalkerS.f k l = some (l.map toW) := by
  unfold laws_toWalkerS.f
  rw [if_pos (by omega), if_pos (by simp; omega)]
  have := laws_toWalkerS_l0 l (by omega) hx l.length 0 k (by omega) (by omega)
  simpa using this
theorem laws_eqWalkerS_l0 (l : List S53) (hl : l.length ≤ 1048576) (hx : ∀ x ∈ l, x.f3.length ≤ 1048576) : ∀ (d i k : Nat), i + d = l.length → d + 1048577 < k → laws_eqWalkerS.l0 k l l (i : Int) = some true
  | 0, i, k, h, hk => by
    obtain ⟨k, rfl⟩ := succ_of (k := k) (by omega)
    simp only [laws_eqWalkerS.l0]
    rw [if_neg (by omega)]
  | d + 1, i, k, h, hk => by
    obtain ⟨k, rfl⟩ := succ_of (k := k) (by omega)
    have hi : i < l.length := by omega
    have hb : (rd_T53 l (i : Int)).f3.length ≤ 1048576 := by
      unfold rd_T53
      rw [Int.toNat_natCast, List.getD_eq_getElem?_getD, List.getElem?_eq_getElem hi]
      exact hx _ (List.getElem_mem hi)
    simp only [laws_eqWalkerS.l0]
    rw [if_pos (by omega), if_pos (by omega), if_pos (by omega), laws_eqWalker_self _ _ _ _ _ (by omega) (by omega), Option.bind_some, if_pos rfl, wrap_succ (n := l.length) hi (by omega)]
    exact laws_eqWalkerS_l0 l hl hx d (i + 1) k (by omega) (by omega)
theorem laws_eqWalkerS_self (k : Nat) (l : List S53) (hl : l.length ≤ 1048576) (hx : ∀ x ∈ l, x.f3.length ≤ 1048576) (hk : 2097160 < k) : laws_eqWalkerS.f k l l = some true := by
  unfold laws_eqWalkerS.f
  rw [if_pos rfl]
  exact laws_eqWalkerS_l0 l hl hx l.length 0 k (by omega) (by omega)
theorem spec_GatherTime_l0 (s : Int) (r : Bool) (gs : List S53) (h0 : 0 < gs.length) (hn : gs.length ≤ 4) (hx : ∀ x ∈ gs, x.f3.length ≤ 1048576) : ∀ (d i k : Nat), i + d = gs.length → d + 400 < k →
    (∀ x ∈ gs.take i, (road s r && walkerOk s x.f0 x.f1 x.f2 x.f3) = true) →
    spec_GatherTime.l0 k gs ((gs.take i).map fun x => walkM s r x.f0 x.f1 x.f2 x.f3 60) (i : Int) s r = some (if (gs.all fun x => road s r && walkerOk s x.f0 x.f1 x.f2 x.f3) = true then (if meetF (gs.map fun x => walkM s r x.f0 x.f1 x.f2 x.f3 60) 61 0 < 0 then (0, false) else (meetF (gs.map fun x => walkM s r x.f0 x.f1 x.f2 x.f3 60) 61 0, true)) else (0, false))
  | 0, i, k, h, hk, ho => by
    obtain ⟨k, rfl⟩ := succ_of (k := k) (by omega)
    have hall : (gs.all fun x => road s r && walkerOk s x.f0 x.f1 x.f2 x.f3) = true := by
      rw [List.take_of_length_le (by omega)] at ho
      exact List.all_eq_true.2 ho
    simp only [spec_GatherTime.l0]
    rw [if_neg (by omega), if_pos hall, List.take_of_length_le (by omega), spec_l4Meet_eq k _ (by simp; omega) (by simpa using h0) (by intro w hw; obtain ⟨x, _, rfl⟩ := List.mem_map.1 hw; rw [walkM_len]) (by simp; omega), Option.bind_some]
    split <;> rfl
  | d + 1, i, k, h, hk, ho => by
    obtain ⟨k, rfl⟩ := succ_of (k := k) (by omega)
    have hi : i < gs.length := by omega
    have hb := hx _ (List.getElem_mem hi)
    simp only [spec_GatherTime.l0]
    rw [if_pos (by omega), if_pos (by omega), rdW_get gs i hi, spec_l4Walker_eq k _ _ _ _ _ _ (by omega) (by omega), Option.bind_some]
    by_cases c : (road s r && walkerOk s gs[i].f0 gs[i].f1 gs[i].f2 gs[i].f3) = true
    · have c' := c
      rw [Bool.and_eq_true] at c'
      have hr := road_bd c'.1
      rw [if_pos c, spec_l4Walk_eq k s r _ _ _ _ 60 ⟨hr.1, hr.2.1⟩ c'.2 (by omega) (by omega), Option.bind_some, if_pos (by simp; omega), wrap_succ (n := gs.length) hi (by omega)]
      have e : (gs.take (i + 1)).map (fun x => walkM s r x.f0 x.f1 x.f2 x.f3 60) = (gs.take i).map (fun x => walkM s r x.f0 x.f1 x.f2 x.f3 60) ++ [walkM s r gs[i].f0 gs[i].f1 gs[i].f2 gs[i].f3 60] := by
        rw [List.take_succ_eq_append_getElem hi, List.map_append]
        rfl
      have ih := spec_GatherTime_l0 s r gs h0 hn hx d (i + 1) k (by omega) (by omega) (by
        intro x hm
        rw [List.take_succ_eq_append_getElem hi] at hm
        rcases List.mem_append.1 hm with hm | hm
        · exact ho x hm
        · rw [List.mem_singleton.1 hm]; exact c)
      rw [e] at ih
      exact ih
    · have hall : ¬ (gs.all fun x => road s r && walkerOk s x.f0 x.f1 x.f2 x.f3) = true := by
        intro hh
        exact c (List.all_eq_true.1 hh _ (List.getElem_mem hi))
      rw [if_neg c, if_neg hall]
/-- From place i on, d places long: each is at most one away from the one ahead of it. -/
def chnM (s : Int) (r : Bool) (l : List Int) : Nat → Nat → Bool
  | _, 0 => true
  | i, d + 1 => decide (gapM s r (rd l ((i : Int) - 1)) (rd l (i : Int)) ≤ 1) && chnM s r l (i + 1) d
theorem chnM_succ (s : Int) (r : Bool) (l : List Int) (i d : Nat) : chnM s r l i (d + 1) = (decide (gapM s r (rd l ((i : Int) - 1)) (rd l (i : Int)) ≤ 1) && chnM s r l (i + 1) d) := rfl
def walkOkM (s : Int) (r : Bool) (l : List Int) : Bool := inR (l.length : Int) 1 61 && allIn l 0 (s - 1) && chnM s r l 1 (l.length - 1)
def leaversOk (s : Int) (r : Bool) (ls : List (List Int)) : Bool := inR (ls.length : Int) 1 4 && ls.all (walkOkM s r)
/-- The place of the first x in a list whose places begin with i, or -1. -/
def firstM (x : Int) : List Int → Nat → Int
  | [], _ => -1
  | y :: t, i => if y = x then (i : Int) else firstM x t (i + 1)
theorem firstM_bd (x : Int) : ∀ (l : List Int) (i : Nat), firstM x l i = -1 ∨ ((i : Int) ≤ firstM x l i ∧ firstM x l i < (i : Int) + l.length)
  | [], i => .inl rfl
  | y :: t, i => by
    simp only [firstM, List.length_cons]
    split
    · right; omega
    · rcases firstM_bd x t (i + 1) with h | h
      · exact .inl h
      · right; omega
/-- The better of the time held and a list's first. -/
def betM (x b : Int) (l : List Int) : Int := if 0 ≤ firstM x l 0 ∧ (b < 0 ∨ firstM x l 0 < b) then firstM x l 0 else b
def bestM (x : Int) (b : Int) (ls : List (List Int)) : Int := ls.foldl (betM x) b
/-- The place at a time; the last one where the list has ended. -/
def atM (l : List Int) (t : Int) : Int := rd l (if (l.length : Int) - 1 < t then (l.length : Int) - 1 else t)
def farM (s : Int) (r : Bool) (x t : Int) (m : Int) (ls : List (List Int)) : Int := ls.foldl (fun m l => if m < gapM s r (atM l t) x then gapM s r (atM l t) x else m) m
def leaveM (s : Int) (r : Bool) (ls : List (List Int)) (x : Int) : Int := if bestM x (-1) ls < 0 then -1 else bestM x (-1) ls + farM s r x (bestM x (-1) ls) 0 ls
theorem betM_bd (x b : Int) (l : List Int) (n : Int) (hl : (l.length : Int) ≤ n) (hb : -1 ≤ b ∧ b ≤ n) : -1 ≤ betM x b l ∧ betM x b l ≤ n := by
  unfold betM
  have := firstM_bd x l 0
  split <;> omega
theorem bestM_bd (x : Int) (n : Int) : ∀ (ls : List (List Int)) (b : Int), (∀ l ∈ ls, (l.length : Int) ≤ n) → -1 ≤ b ∧ b ≤ n → -1 ≤ bestM x b ls ∧ bestM x b ls ≤ n
  | [], b, _, hb => hb
  | l :: t, b, h, hb => bestM_bd x n t _ (fun y hy => h y (List.mem_cons_of_mem _ hy)) (betM_bd x b l n (h l (List.mem_cons_self ..)) hb)
theorem atM_bd {s : Int} {l : List Int} {t : Int} (hl : 1 ≤ l.length) (ha : allIn l 0 (s - 1) = true) (ht : 0 ≤ t) : 0 ≤ atM l t ∧ atM l t ≤ s - 1 := by
  unfold atM
  have : ∃ n : Nat, n < l.length ∧ (if (l.length : Int) - 1 < t then (l.length : Int) - 1 else t) = (n : Int) := by
    by_cases c : (l.length : Int) - 1 < t
    · exact ⟨l.length - 1, by omega, by rw [if_pos c]; omega⟩
    · exact ⟨t.toNat, by omega, by rw [if_neg c]; omega⟩
  obtain ⟨n, hn, e⟩ := this
  rw [e]
  exact rd_bd ha n hn
theorem farM_bd (s : Int) (r : Bool) (x t n : Int) : ∀ (ls : List (List Int)) (m : Int), (∀ l ∈ ls, gapM s r (atM l t) x ≤ n) → m ≤ n → m ≤ farM s r x t m ls ∧ farM s r x t m ls ≤ n
  | [], m, _, hm => ⟨Int.le_refl _, hm⟩
  | l :: q, m, h, hm => by
    have hl := h l (List.mem_cons_self ..)
    have := farM_bd s r x t n q (if m < gapM s r (atM l t) x then gapM s r (atM l t) x else m) (fun y hy => h y (List.mem_cons_of_mem _ hy)) (by split <;> omega)
    refine ⟨?_, this.2⟩
    refine Int.le_trans ?_ this.1
    split <;> omega
theorem FnExactGatherTime (a0_0 : Int) (a0_1 : Bool) (l1 : List (S50))
    (h0 : ((Lit.int .i64 (a0_0)).wf = true)) (h1 : True) (h2 : (l1.length ≤ maxLen ∧ ∀ y0 ∈ l1, (((Lit.int .i64 ((y0).f0)).wf = true) ∧ ((Lit.int .i64 ((y0).f1)).wf = true) ∧ ((Lit.int .i64 ((y0).f2)).wf = true) ∧ ((y0).f3.length ≤ maxLen ∧ ∀ y1 ∈ (y0).f3, ((Lit.int .i64 (y1)).wf = true))))) :
    ∃ k, laws_FnExactGatherTime.f k a0_0 a0_1 l1 = some true := by
  have hm : l1.length ≤ 9223372036854775807 := by have := h2.1; unfold maxLen at this; omega
  have hm2 : ∀ x ∈ l1, x.f3.length ≤ 9223372036854775807 := fun x hx => by have := (h2.2 x hx).2.2.2.1; unfold maxLen at this; omega
  refine ⟨2097200 + l1.length, ?_⟩
  unfold laws_FnExactGatherTime.f
  obtain ⟨s, hs, hd⟩ := laws_szWalkerS_eq (2097200 + l1.length) l1 hm hm2 (by omega)
  rw [hs, Option.bind_some]
  by_cases c : s < 0
  · rw [if_pos c]
  rw [if_neg c]
  obtain ⟨hl, hx⟩ := hd.resolve_left c
  have hw : ∀ k, 2097160 < k → laws_toWalkerS.f k l1 = some (l1.map toW) := fun k hk => laws_toWalkerS_eq k l1 hl hx hk
  have hl' : (l1.map toW).length ≤ 1048576 := by simpa using hl
  have hx' : ∀ x ∈ l1.map toW, x.f3.length ≤ 1048576 := by
    intro x hm
    obtain ⟨y, hy, rfl⟩ := List.mem_map.1 hm
    exact hx y hy
  simp only [laws_toRoad_eq, Option.bind_some, hw (2097200 + l1.length) (by omega)]
  have e1 : 2097190 < 2097200 + l1.length := by omega
  generalize 2097200 + l1.length = k at e1 hw ⊢
  generalize l1.map toW = gs at hl' hx' hw ⊢
  have key : ∃ v : Int × Bool, spec_GatherTime.f k a0_0 a0_1 gs = some v ∧ impl_GatherTime.f k a0_0 a0_1 gs = some v := by
    obtain ⟨k, rfl⟩ := succ_of (k := k) (by omega)
    unfold spec_GatherTime.f impl_GatherTime.f
    rw [spec_l1In_eq, Option.bind_some, impl_areWalkers_eq _ _ _ _ (fun x hm => by have := hx' x hm; omega), Option.bind_some, impl_within_eq, Option.bind_some]
    cases hn : inR (gs.length : Int) 2 4 with
    | false =>
      refine ⟨(0, false), by rw [if_neg (by simp)], ?_⟩
      simp [impl_GatherTime.j0]
    | true =>
      have hn' := inR_iff.1 hn
      rw [if_pos rfl]
      have := spec_GatherTime_l0 a0_0 a0_1 gs (by omega) (by omega) hx' gs.length 0 (k + 1) (by omega) (by omega) (by simp)
      refine ⟨_, this, ?_⟩
      have ha : (gs.all fun x => road a0_0 a0_1 && walkerOk a0_0 x.f0 x.f1 x.f2 x.f3) = (road a0_0 a0_1 && gs.all fun x => walkerOk a0_0 x.f0 x.f1 x.f2 x.f3) := by
        cases hr : road a0_0 a0_1 with
        | true => simp
        | false =>
          cases gs with
          | nil => simp at hn'
          | cons x xs => simp
      rw [ha]
      by_cases h : (road a0_0 a0_1 && gs.all fun x => walkerOk a0_0 x.f0 x.f1 x.f2 x.f3) = true
      · have h' := h
        rw [Bool.and_eq_true] at h'
        rw [if_pos h, if_pos h]
        simp only [impl_GatherTime.j0]
        rw [if_neg (by simp), impl_Road_meets_eq k _ _ h'.1 gs (by omega) (by omega) (List.all_eq_true.1 h'.2) (by omega), Option.bind_some, impl_found_eq, Option.bind_some]
      · rw [if_neg h, if_neg h]
        simp only [impl_GatherTime.j0]
        rw [if_pos trivial]
  obtain ⟨⟨v, b⟩, hv1, hv2⟩ := key
  rw [hv1, hv2]
  obtain ⟨k, rfl⟩ := succ_of (k := k) (by omega)
  simp only [Option.bind_some, if_true, bne_self_eq_false, laws_FnExactGatherTime.j0]
  rw [if_neg (by simp), hw k (by omega)]
  simp only [Option.bind_some]
  rw [laws_eqWalkerS_self k gs hl' hx' (by omega)]
  simp only [Option.bind_some, if_true]

end Go.Proofs.Ytgoapgogdkiooad.Pure
