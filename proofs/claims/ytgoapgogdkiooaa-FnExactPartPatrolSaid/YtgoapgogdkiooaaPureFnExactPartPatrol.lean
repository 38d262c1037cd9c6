/- Plain facts on numbers and lists: what the functions that the law FnExactPartPatrol reaches answer, and that the law's own function answers true. No program, no memory. -/
import Derived.Test.YtgoapgogdkiooaaPFnExactPartPatrolx1
import Derived.Test.YtgoapgogdkiooaaPFnExactPartPatrolx2
import Derived.Test.YtgoapgogdkiooaaPFnExactPartPatrolx3
import Derived.Test.YtgoapgogdkiooaaHFnExactPartPatrol
import Derived.Test.YtgoapgogdkiooaaGFnExactPartPatrol
namespace Go.Proofs.Ytgoapgogdkiooaa.Pure
open Go.RowKit Go.Proofs.Ytgoapgogdkiooaa.PFnExactPartPatrol Go.Proofs.YtgoapgogdkiooaaW.PrintWords Go.Proofs.YtgoapgogdkiooaaW.PrintLast Go.Proofs.YtgoapgogdkiooaaW.PrintMore
set_option linter.unusedVariables false
set_option linter.unusedSimpArgs false
theorem wrap64_id {x : Int} (h1 : -9223372036854775808 ≤ x) (h2 : x ≤ 9223372036854775807) : wrap64 x = x := by unfold wrap64; omega
theorem i64_of {x : Int} (h : (Lit.int .i64 x).wf = true) : -9223372036854775808 ≤ x ∧ x ≤ 9223372036854775807 := by
  simp [Lit.wf, IntKind.min, IntKind.max, IntKind.bits, IntKind.signed, IntKind.wrap] at h
  omega
def inR (x a b : Int) : Bool := decide (a ≤ x) && decide (x ≤ b)
theorem inR_iff {x a b : Int} : inR x a b = true ↔ a ≤ x ∧ x ≤ b := by unfold inR; simp
theorem inR_not {x a b : Int} : inR x a b = false ↔ ¬ (a ≤ x ∧ x ≤ b) := by rw [← inR_iff]; simp
def road (s : Int) (r : Bool) : Bool := inR s 2 24 && (!r || decide (3 ≤ s))
theorem road_bd {s : Int} {r : Bool} (h : road s r = true) : 2 ≤ s ∧ s ≤ 24 ∧ (r = true → 3 ≤ s) := by
  unfold road at h
  rw [Bool.and_eq_true, inR_iff] at h
  refine ⟨h.1.1, h.1.2, fun hr => ?_⟩
  have := h.2
  simp [hr] at this
  exact this
theorem spec_l1In_eq (a b c : Int) : spec_l1In.f a b c = some (inR a b c) := by
  unfold spec_l1In.f inR
  by_cases h : a ≥ b
  · have h' : b ≤ a := h
    simp [h, h']
  · have h' : ¬ b ≤ a := h
    simp [h, h']
theorem impl_within_eq (a b c : Int) : impl_within.f a b c = some (inR a b c) := by
  unfold impl_within.f inR
  by_cases h : a ≥ b
  · have h' : b ≤ a := h
    simp [h, h']
  · have h' : ¬ b ≤ a := h
    simp [h, h']
theorem spec_l2Road_eq (s : Int) (r : Bool) : spec_l2Road.f s r = some (road s r) := by
  unfold spec_l2Road.f road
  rw [spec_l1In_eq, Option.bind_some]
  cases inR s 2 24 <;> cases r <;> simp
  omega
theorem impl_IsRoad_eq (s : Int) (r : Bool) : impl_IsRoad.f s r = some (road s r) := by
  unfold impl_IsRoad.f road
  rw [impl_within_eq, Option.bind_some]
  cases inR s 2 24 <;> cases r <;> simp
theorem laws_toRoad_eq (s : Int) (r : Bool) : laws_toRoad.f s r = some (s, r) := rfl
theorem spec_l5Number_eq (s : Int) (r : Bool) (k : Int) : spec_l5Number.f s r k = some (road s r && inR k 1 6) := by
  unfold spec_l5Number.f
  rw [spec_l2Road_eq, Option.bind_some]
  cases road s r <;> simp [spec_l1In_eq]
theorem impl_isGuards_eq (k : Int) : impl_isGuards.f k = some (inR k 1 6) := by
  unfold impl_isGuards.f
  rw [impl_within_eq, Option.bind_some]
theorem wrap_succ {i n : Nat} (h : i < n) (hn : n ≤ 9223372036854775807) : wrap64 ((i : Int) + 1) = ((i + 1 : Nat) : Int) := by unfold wrap64; omega
theorem drop_rd (l : List Int) (i : Nat) (h : i < l.length) : l.drop i = rd l (i : Int) :: l.drop (i + 1) := by
  rw [List.drop_eq_getElem_cons h]
  unfold rd
  simp [List.getD_eq_getElem?_getD, h]
theorem rd_get (l : List Int) (i : Nat) (h : i < l.length) : rd l (i : Int) = l[i] := by
  unfold rd
  simp [List.getD_eq_getElem?_getD, h]
theorem succ_of {k : Nat} (h : 0 < k) : ∃ m, k = m + 1 := ⟨k - 1, by omega⟩
theorem drop_end {α : Type} (l : List α) (i : Nat) (h : l.length ≤ i) : l.drop i = [] := List.drop_of_length_le h
def allIn (l : List Int) (a b : Int) : Bool := l.all (fun x => inR x a b)
/-- Numbers in line, from a on. -/
def marks (a : Int) : Nat → List Int
  | 0 => []
  | n + 1 => a :: marks (a + 1) n
theorem marks_len (a : Int) (n : Nat) : (marks a n).length = n := by
  induction n generalizing a with
  | zero => rfl
  | succ n ih => simp [marks, ih]
theorem marks_snoc (a : Int) (n : Nat) : marks a (n + 1) = marks a n ++ [a + n] := by
  induction n generalizing a with
  | zero => simp [marks]
  | succ n ih =>
    rw [marks, ih (a + 1)]
    simp [marks]
    omega
theorem marks_rd (a : Int) (n i : Nat) (h : i < n) : rd (marks a n) (i : Int) = a + i := by
  rw [rd_get _ _ (by rw [marks_len]; exact h)]
  induction n generalizing a i with
  | zero => omega
  | succ n ih =>
    cases i with
    | zero => simp [marks]
    | succ i =>
      simp only [marks, List.getElem_cons_succ]
      rw [ih (a + 1) i (by omega)]
      omega
theorem laws_eqIntS_l0 (l : List Int) (hl : l.length ≤ 9223372036854775807) : ∀ (d i k : Nat), i + d = l.length → d < k → laws_eqIntS.l0 k l l (i : Int) = some true
  | 0, i, k, h, hk => by
    obtain ⟨k, rfl⟩ := succ_of (k := k) (by omega)
    simp only [laws_eqIntS.l0]
    rw [if_neg (by omega)]
  | d + 1, i, k, h, hk => by
    obtain ⟨k, rfl⟩ := succ_of (k := k) (by omega)
    simp only [laws_eqIntS.l0]
    rw [if_pos (by omega), if_pos (by omega), if_pos (by omega), if_pos trivial, wrap_succ (n := l.length) (by omega) hl]
    exact laws_eqIntS_l0 l hl d (i + 1) k (by omega) (by omega)
theorem laws_eqIntS_self (k : Nat) (l : List Int) (hl : l.length ≤ 9223372036854775807) (hk : l.length < k) : laws_eqIntS.f k l l = some true := by
  unfold laws_eqIntS.f
  rw [if_pos rfl]
  have := laws_eqIntS_l0 l hl l.length 0 k (by omega) hk
  simpa using this
theorem laws_markIntS_l0 (l : List Int) (a : Int) (h0 : 0 ≤ a) (h1 : a + l.length ≤ 9223372036854775806) : ∀ (d i k : Nat), i + d = l.length → d < k →
    laws_markIntS.l0 k (marks a i ++ l.drop i) (a + i) (i : Int) = some (a + l.length, marks a l.length)
  | 0, i, k, h, hk => by
    obtain ⟨k, rfl⟩ := succ_of (k := k) (by omega)
    simp only [laws_markIntS.l0]
    rw [if_neg (by simp [marks_len]; omega), drop_end l i (by omega)]
    have : i = l.length := by omega
    subst this
    simp
  | d + 1, i, k, h, hk => by
    obtain ⟨k, rfl⟩ := succ_of (k := k) (by omega)
    simp only [laws_markIntS.l0]
    rw [if_pos (by simp [marks_len]; omega), if_pos (by omega), wrap_succ (n := l.length) (by omega) (by omega)]
    have e : (marks a i ++ l.drop i).set ((i : Int)).toNat (a + i) = marks a (i + 1) ++ l.drop (i + 1) := by
      rw [Int.toNat_natCast, List.set_append_right _ _ (by simp [marks_len])]
      rw [marks_len, Nat.sub_self, drop_rd l i (by omega), List.set_cons_zero, marks_snoc]
      simp
    rw [e, wrap64_id (by omega) (by omega), show a + (i : Int) + 1 = a + ((i + 1 : Nat) : Int) by omega]
    exact laws_markIntS_l0 l a h0 h1 d (i + 1) k (by omega) (by omega)
theorem laws_markIntS_eq (k : Nat) (l : List Int) (a : Int) (h0 : 0 ≤ a) (h1 : a + l.length ≤ 9223372036854775806) (hk : l.length < k) : laws_markIntS.f k l a = some (a + l.length, marks a l.length) := by
  unfold laws_markIntS.f
  have := laws_markIntS_l0 l a h0 h1 l.length 0 k (by omega) hk
  simpa [marks] using this
theorem laws_heldIntS_l0 (n : Nat) (a : Int) (h0 : 0 ≤ a) (h1 : a + n ≤ 9223372036854775806) : ∀ (d i k : Nat), i + d = n → d < k →
    laws_heldIntS.l0 k (marks a n) (a + i) (i : Int) = some (a + n)
  | 0, i, k, h, hk => by
    obtain ⟨k, rfl⟩ := succ_of (k := k) (by omega)
    simp only [laws_heldIntS.l0]
    rw [if_neg (by rw [marks_len]; omega)]
    congr 1
    omega
  | d + 1, i, k, h, hk => by
    obtain ⟨k, rfl⟩ := succ_of (k := k) (by omega)
    simp only [laws_heldIntS.l0]
    rw [if_pos (by rw [marks_len]; omega), if_pos (by omega), if_pos (marks_rd a n i (by omega)), wrap_succ (n := n) (by omega) (by omega), wrap64_id (by omega) (by omega), show a + (i : Int) + 1 = a + ((i + 1 : Nat) : Int) by omega]
    exact laws_heldIntS_l0 n a h0 h1 d (i + 1) k (by omega) (by omega)
theorem laws_heldIntS_eq (k : Nat) (n : Nat) (a : Int) (h0 : 0 ≤ a) (h1 : a + n ≤ 9223372036854775806) (hk : n < k) : laws_heldIntS.f k (marks a n) a = some (a + n) := by
  unfold laws_heldIntS.f
  have := laws_heldIntS_l0 n a h0 h1 n 0 k (by omega) hk
  simpa using this
def runL (s x : Int) (n : Nat) : List Int := (List.range n).map (fun (i : Nat) => Int.tmod (x + i) s)
theorem runL_snoc (s x : Int) (n : Nat) : runL s x (n + 1) = runL s x n ++ [Int.tmod (x + n) s] := by unfold runL; rw [List.range_succ]; simp
theorem runL_len (s x : Int) (n : Nat) : (runL s x n).length = n := by simp [runL]
def fits (s : Int) (r : Bool) (x n : Int) : Bool := inR x 0 (s - 1) && inR n 0 s && (r || decide (x + n ≤ s))
def carrierOk (s f0 f1 f2 : Int) : Bool := inR f0 0 (s - 1) && inR f1 0 48 && inR f2 0 20
def gapM (s : Int) (r : Bool) (a b : Int) : Int :=
  let d := if a - b < b - a then b - a else a - b
  if r = true then (if s - d < d then s - d else d) else d
theorem gapM_bd {s : Int} {r : Bool} {a b : Int} (hs : 2 ≤ s) (ha : 0 ≤ a ∧ a ≤ s - 1) (hb : 0 ≤ b ∧ b ≤ s - 1) : 0 ≤ gapM s r a b ∧ gapM s r a b ≤ s - 1 := by
  unfold gapM
  simp only
  split <;> split <;> (try split) <;> omega
def legM (s : Int) (r : Bool) (f0 f1 x : Int) : Int := if f1 - gapM s r f0 x < 0 then -1 else (if s - 1 < x + (f1 - gapM s r f0 x) then s - 1 else x + (f1 - gapM s r f0 x))
theorem carrierOk_bd {s a b c : Int} (h : carrierOk s a b c = true) : (0 ≤ a ∧ a ≤ s - 1) ∧ (0 ≤ b ∧ b ≤ 48) ∧ (0 ≤ c ∧ c ≤ 20) := by
  unfold carrierOk at h
  rw [Bool.and_eq_true, Bool.and_eq_true, inR_iff, inR_iff, inR_iff] at h
  exact ⟨h.1.1, h.1.2, h.2⟩
def movesOk (l : List Int) : Bool := inR (l.length : Int) 1 24 && allIn l (-1) 1
def walkerOk (s st f d : Int) (l : List Int) : Bool := inR st 0 (s - 1) && (decide (f = 1) || decide (f = -1)) && inR d 0 60 && movesOk l
theorem laws_eqIntSS_l0 (l : List (List Int)) (hl : l.length ≤ 9223372036854775807) (hx : ∀ x ∈ l, x.length ≤ 1048576) : ∀ (d i k : Nat), i + d = l.length → d + 1048577 < k → laws_eqIntSS.l0 k l l (i : Int) = some true
  | 0, i, k, h, hk => by
    obtain ⟨k, rfl⟩ := succ_of (k := k) (by omega)
    simp only [laws_eqIntSS.l0]
    rw [if_neg (by omega)]
  | d + 1, i, k, h, hk => by
    obtain ⟨k, rfl⟩ := succ_of (k := k) (by omega)
    simp only [laws_eqIntSS.l0]
    have hg : rd_L1 l (i : Int) = l[i] := by unfold rd_L1; simp [List.getD_eq_getElem?_getD]; rw [List.getElem?_eq_getElem (by omega)]; rfl
    have hxi := hx l[i] (List.getElem_mem _)
    rw [if_pos (by omega), if_pos (by omega), if_pos (by omega), hg, laws_eqIntS_self k _ (by omega) (by omega), Option.bind_some, if_pos rfl, wrap_succ (n := l.length) (by omega) hl]
    exact laws_eqIntSS_l0 l hl hx d (i + 1) k (by omega) (by omega)
theorem laws_eqIntSS_self (k : Nat) (l : List (List Int)) (hl : l.length ≤ 1048576) (hx : ∀ x ∈ l, x.length ≤ 1048576) (hk : 2097160 < k) : laws_eqIntSS.f k l l = some true := by
  unfold laws_eqIntSS.f
  rw [if_pos rfl]
  have := laws_eqIntSS_l0 l (by omega) hx l.length 0 k (by omega) (by omega)
  simpa using this
/-- The least gap of p to a list of places, at most m. -/
def nearM (s : Int) (r : Bool) (p : Int) : List Int → Int → Int
  | [], m => m
  | q :: t, m => nearM s r p t (if gapM s r p q < m then gapM s r p q else m)
def farOth (s : Int) (r : Bool) (l : List Int) : Nat → Int → Int → Int → Int × Int
  | 0, _, f, o => (f, o)
  | d + 1, p, f, o => farOth s r l d (p + 1) (if f < nearM s r p l s then nearM s r p l s else f) (if nearM s r p l s > 0 then o + 1 else o)
def finM (n : Nat) (x : Int × Int) : Int := if x.1 < Int.tdiv (x.2 + n - 1) n then Int.tdiv (x.2 + n - 1) n else x.1
def boundM (s : Int) (r : Bool) (l : List Int) : Int := finM l.length (farOth s r l s.toNat 0 0 0)
theorem allIn_rd {l : List Int} {a b : Int} (h : allIn l a b = true) (i : Nat) (hi : i < l.length) : a ≤ rd l (i : Int) ∧ rd l (i : Int) ≤ b := by
  unfold allIn at h
  rw [List.all_eq_true] at h
  rw [rd_get l i hi]
  exact inR_iff.1 (h _ (List.getElem_mem hi))
/-- Each place of a round, from i on, is near to the next one. -/
def cycM (s : Int) (r : Bool) (l : List Int) (i d : Nat) : Bool := (List.range' i d).all (fun j => decide (gapM s r (rd l (j : Int)) (rd l (((j + 1) % l.length : Nat) : Int)) ≤ 1))
theorem cycM_succ (s : Int) (r : Bool) (l : List Int) (i d : Nat) : cycM s r l i (d + 1) = (decide (gapM s r (rd l (i : Int)) (rd l (((i + 1) % l.length : Nat) : Int)) ≤ 1) && cycM s r l (i + 1) d) := by
  unfold cycM
  rw [List.range'_succ, List.all_cons]
def roundOk (s : Int) (r : Bool) (l : List Int) : Bool := allIn l 0 (s - 1) && cycM s r l 0 l.length
def patrolOk (s : Int) (r : Bool) (ls : List (List Int)) : Bool := inR (ls.length : Int) 1 6 && inR ((ls.headD []).length : Int) 1 60 && ls.all (fun l => decide (l.length = (ls.headD []).length) && roundOk s r l)
theorem tmod_nat (a n : Nat) : Int.tmod (a : Int) (n : Int) = ((a % n : Nat) : Int) := by
  rw [Int.tmod_eq_emod_of_nonneg (by omega)]
  rfl
theorem rd_bd {l : List Int} {a b : Int} (h : allIn l a b = true) (i : Nat) (hi : i < l.length) : a ≤ rd l (i : Int) ∧ rd l (i : Int) ≤ b := allIn_rd h i hi
def tot : List (List Int) → Nat
  | [] => 0
  | x :: t => x.length + tot t
theorem tot_append (a b : List (List Int)) : tot (a ++ b) = tot a + tot b := by induction a with
  | nil => simp [tot]
  | cons x t ih => simp [tot, ih]; omega
def marksSS (a : Int) : List (List Int) → List (List Int)
  | [] => []
  | x :: t => marks a x.length :: marksSS (a + x.length) t
theorem marksSS_len (a : Int) (l : List (List Int)) : (marksSS a l).length = l.length := by
  induction l generalizing a with
  | nil => rfl
  | cons x t ih => simp [marksSS, ih]
theorem marksSS_append (a : Int) (l t : List (List Int)) : marksSS a (l ++ t) = marksSS a l ++ marksSS (a + tot l) t := by
  induction l generalizing a with
  | nil => simp [marksSS, tot]
  | cons x l ih =>
    simp only [List.cons_append, marksSS, tot, ih]
    rw [show a + (x.length : Int) + (tot l : Int) = a + ((x.length + tot l : Nat) : Int) by omega]
theorem laws_markIntSS_l0 (a : Int) (h0 : 0 ≤ a) (ha : a ≤ 2) : ∀ (rest pre : List (List Int)) (k : Nat), (pre ++ rest).length ≤ 1048576 → (∀ x ∈ rest, x.length ≤ 1048576) → tot (pre ++ rest) ≤ 1099511627776 → rest.length + 1048577 < k →
    laws_markIntSS.l0 k (marksSS a pre ++ rest) (a + tot pre) (pre.length : Int) = some (a + tot (pre ++ rest), marksSS a (pre ++ rest))
  | [], pre, k, hl, hx, ht, hk => by
    obtain ⟨k, rfl⟩ := succ_of (k := k) (by omega)
    simp only [laws_markIntSS.l0]
    rw [if_neg (by simp [marksSS_len])]
    simp
  | x :: rest, pre, k, hl, hx, ht, hk => by
    obtain ⟨k, rfl⟩ := succ_of (k := k) (by simp at hk; omega)
    simp only [List.length_cons] at hk
    have hxl := hx x (by simp)
    have htt := ht
    rw [tot_append, tot] at htt
    simp only [List.length_append, List.length_cons] at hl
    simp only [laws_markIntSS.l0]
    have hg : rd_L1 (marksSS a pre ++ x :: rest) (pre.length : Int) = x := by
      unfold rd_L1
      rw [Int.toNat_natCast, List.getD_eq_getElem?_getD, List.getElem?_append_right (by rw [marksSS_len]; exact Nat.le_refl _)]
      simp [marksSS_len]
    rw [if_pos (by simp [marksSS_len]; omega), if_pos (by omega), hg, laws_markIntS_eq k x (a + tot pre) (by omega) (by omega) (by omega), Option.bind_some, wrap_succ (n := (pre ++ x :: rest).length) (by simp) (by simp; omega)]
    have e : (marksSS a pre ++ x :: rest).set ((pre.length : Int)).toNat (marks (a + tot pre) x.length) = marksSS a (pre ++ [x]) ++ rest := by
      rw [Int.toNat_natCast, List.set_append_right _ _ (by rw [marksSS_len]; exact Nat.le_refl _), marksSS_len, Nat.sub_self, List.set_cons_zero, marksSS_append]
      simp [marksSS]
    have := laws_markIntSS_l0 a h0 ha rest (pre ++ [x]) k (by simp; omega) (fun y hy => hx y (by simp [hy])) (by simpa using ht) (by omega)
    rw [e, show a + (tot pre : Int) + (x.length : Int) = a + ((tot (pre ++ [x]) : Nat) : Int) by rw [tot_append]; simp [tot]; omega]
    simpa using this
theorem laws_markIntSS_eq (k : Nat) (l : List (List Int)) (hl : l.length ≤ 1048576) (hx : ∀ x ∈ l, x.length ≤ 1048576) (ht : tot l ≤ 1099511627776) (hk : 2097160 < k) :
    laws_markIntSS.f k l 1 = some (1 + (tot l : Int), marksSS 1 l) := by
  unfold laws_markIntSS.f
  have := laws_markIntSS_l0 1 (by omega) (by omega) l [] k (by simpa using hl) hx (by simpa using ht) (by omega)
  simpa [marksSS, tot] using this
theorem laws_heldIntSS_l0 (a : Int) (h0 : 0 ≤ a) (ha : a ≤ 2) : ∀ (rest pre : List (List Int)) (k : Nat), (pre ++ rest).length ≤ 1048576 → (∀ x ∈ rest, x.length ≤ 1048576) → tot (pre ++ rest) ≤ 1099511627776 → rest.length + 1048577 < k →
    laws_heldIntSS.l0 k (marksSS a (pre ++ rest)) (a + tot pre) (pre.length : Int) = some (a + tot (pre ++ rest))
  | [], pre, k, hl, hx, ht, hk => by
    obtain ⟨k, rfl⟩ := succ_of (k := k) (by omega)
    simp only [laws_heldIntSS.l0]
    rw [if_neg (by simp [marksSS_len])]
    simp
  | x :: rest, pre, k, hl, hx, ht, hk => by
    obtain ⟨k, rfl⟩ := succ_of (k := k) (by simp at hk; omega)
    simp only [List.length_cons] at hk
    have hxl := hx x (by simp)
    have htt := ht
    rw [tot_append, tot] at htt
    simp only [List.length_append, List.length_cons] at hl
    simp only [laws_heldIntSS.l0]
    have hg : rd_L1 (marksSS a (pre ++ x :: rest)) (pre.length : Int) = marks (a + tot pre) x.length := by
      unfold rd_L1
      rw [Int.toNat_natCast, List.getD_eq_getElem?_getD, marksSS_append, List.getElem?_append_right (by rw [marksSS_len]; exact Nat.le_refl _)]
      simp [marksSS_len, marksSS]
    rw [if_pos (by simp [marksSS_len]; omega), if_pos (by omega), hg, laws_heldIntS_eq k x.length (a + tot pre) (by omega) (by omega) (by omega), Option.bind_some, if_neg (by omega), wrap_succ (n := (pre ++ x :: rest).length) (by simp) (by simp; omega)]
    have := laws_heldIntSS_l0 a h0 ha rest (pre ++ [x]) k (by simp; omega) (fun y hy => hx y (by simp [hy])) (by simpa using ht) (by omega)
    rw [show a + (tot pre : Int) + (x.length : Int) = a + ((tot (pre ++ [x]) : Nat) : Int) by rw [tot_append]; simp [tot]; omega]
    simpa using this
theorem laws_heldIntSS_eq (k : Nat) (l : List (List Int)) (hl : l.length ≤ 1048576) (hx : ∀ x ∈ l, x.length ≤ 1048576) (ht : tot l ≤ 1099511627776) (hk : 2097160 < k) :
    laws_heldIntSS.f k (marksSS 1 l) 1 = some (1 + (tot l : Int)) := by
  unfold laws_heldIntSS.f
  have := laws_heldIntSS_l0 1 (by omega) (by omega) l [] k (by simpa using hl) hx (by simpa using ht) (by omega)
  simpa [tot] using this
theorem tot_le {l : List (List Int)} {n : Nat} (h : ∀ x ∈ l, x.length ≤ n) : tot l ≤ l.length * n := by
  induction l with
  | nil => simp [tot]
  | cons x t ih =>
    have h1 := h x (by simp)
    have h2 := ih (fun y hy => h y (by simp [hy]))
    simp only [tot, List.length_cons, Nat.add_mul, Nat.one_mul]
    omega
def ringM (s : Int) (k : Nat) (n : Nat) : List (List Int) := (List.range n).map (fun (i : Nat) => runL s (Int.tdiv (i * s) k) s.toNat)
theorem ringM_snoc (s : Int) (k n : Nat) : ringM s k (n + 1) = ringM s k n ++ [runL s (Int.tdiv (n * s) k) s.toNat] := by unfold ringM; rw [List.range_succ]; simp
theorem ringM_len (s : Int) (k n : Nat) : (ringM s k n).length = n := by simp [ringM]
theorem ringM_mem {s : Int} {k n : Nat} {x : List Int} (h : x ∈ ringM s k n) : x.length = s.toNat := by
  unfold ringM at h
  obtain ⟨i, _, rfl⟩ := List.mem_map.1 h
  exact runL_len _ _ _
theorem tdiv_bd (a : Int) (k : Nat) (h0 : 0 ≤ a) (h1 : a ≤ 1000) (hk : 0 < k) : 0 ≤ Int.tdiv a k ∧ Int.tdiv a k ≤ 1000 := by
  rw [Int.tdiv_eq_ediv_of_nonneg h0]
  exact ⟨Int.ediv_nonneg h0 (by omega), Int.le_trans (Int.ediv_le_self _ h0) h1⟩
theorem mul_bd {i : Nat} {s : Int} (hi : i ≤ 6) (hs : 2 ≤ s ∧ s ≤ 24) : 0 ≤ (i : Int) * s ∧ (i : Int) * s ≤ 144 := by
  have : (i : Int) * s ≤ 6 * 24 := Int.mul_le_mul (by omega) hs.2 (by omega) (by omega)
  exact ⟨Int.mul_nonneg (by omega) (by omega), by omega⟩
def dn (a : Int) : Nat → List Int
  | 0 => []
  | n + 1 => a :: dn (a - 1) n
theorem dn_len (a : Int) (n : Nat) : (dn a n).length = n := by
  induction n generalizing a with
  | zero => rfl
  | succ n ih => simp [dn, ih]
theorem dn_snoc (a : Int) (n : Nat) : dn a (n + 1) = dn a n ++ [a - n] := by
  induction n generalizing a with
  | zero => simp [dn]
  | succ n ih =>
    rw [dn, ih (a - 1)]
    simp [dn]
    omega
def sweepA (f : Int) (m : Nat) (w : Bool) : List Int := marks f m ++ (if w = true then [f + m - 1] else [])
def sweepM (f : Int) (m : Nat) (w : Bool) : List Int := sweepA f m w ++ dn (f + m - 2) (m - 2) ++ (if (w && decide (1 < m)) = true then [f] else [])
theorem sweepA_len (f : Int) (m : Nat) (w : Bool) : (sweepA f m w).length ≤ m + 1 := by unfold sweepA; cases w <;> simp [marks_len]
theorem sweepM_len (f : Int) (m : Nat) (w : Bool) : (sweepM f m w).length ≤ 2 * m + 2 := by
  unfold sweepM
  have := sweepA_len f m w
  rw [List.length_append, List.length_append, dn_len]
  split <;> simp <;> omega
theorem spec_l5Sweep_l1 (f : Int) (m : Nat) (w : Bool) (hf : 0 ≤ f ∧ f ≤ 200) (hm : 1 ≤ m ∧ m ≤ 24) : ∀ (d t k : Nat), t + d = m - 2 → d < k →
    spec_l5Sweep.l1 k f (m : Int) w (sweepA f m w ++ dn (f + m - 2) t) (f + m - 2 - t) = some (sweepM f m w)
  | 0, t, k, h, hk => by
    obtain ⟨k, rfl⟩ := succ_of (k := k) (by omega)
    have hA := sweepA_len f m w
    simp only [spec_l5Sweep.l1]
    rw [if_neg (by omega), show t = m - 2 by omega]
    unfold sweepM
    cases w with
    | false => simp
    | true =>
      by_cases c : 1 < m
      · rw [if_pos rfl, if_pos (by omega), if_pos (by rw [List.length_append, dn_len]; omega)]
        simp [c]
      · rw [if_pos rfl, if_neg (by omega)]
        simp [c]
  | d + 1, t, k, h, hk => by
    obtain ⟨k, rfl⟩ := succ_of (k := k) (by omega)
    have hA := sweepA_len f m w
    simp only [spec_l5Sweep.l1]
    rw [if_pos (by omega), if_pos (by rw [List.length_append, dn_len]; omega), wrap64_id (by omega) (by omega), List.append_assoc, ← dn_snoc, show f + (m : Int) - 2 - (t : Int) - 1 = f + m - 2 - ((t + 1 : Nat) : Int) by omega]
    exact spec_l5Sweep_l1 f m w hf hm d (t + 1) k (by omega) (by omega)
theorem spec_l5Sweep_l0 (f : Int) (m : Nat) (w : Bool) (hf : 0 ≤ f ∧ f ≤ 200) (hm : 1 ≤ m ∧ m ≤ 24) : ∀ (d t k : Nat), t + d = m → d + 40 < k →
    spec_l5Sweep.l0 k f (m : Int) w (marks f t) (f + t) = some (sweepM f m w)
  | 0, t, k, h, hk => by
    obtain ⟨k, rfl⟩ := succ_of (k := k) (by omega)
    obtain ⟨k, rfl⟩ := succ_of (k := k) (by omega)
    have e := spec_l5Sweep_l1 f m w hf hm (m - 2) 0 k (by omega) (by omega)
    simp only [dn, List.append_nil, Int.natCast_zero, Int.sub_zero] at e
    simp only [spec_l5Sweep.l0, spec_l5Sweep.j1]
    rw [wrap64_id (x := f + m) (by omega) (by omega), wrap64_id (x := f + m - 2) (by omega) (by omega), wrap64_id (x := f + m - 1) (by omega) (by omega), if_neg (by omega), show t = m by omega]
    cases w with
    | true =>
      rw [if_pos rfl, if_pos (by rw [marks_len]; omega)]
      simpa [sweepA] using e
    | false =>
      rw [if_neg (by simp)]
      simpa [sweepA] using e
  | d + 1, t, k, h, hk => by
    obtain ⟨k, rfl⟩ := succ_of (k := k) (by omega)
    simp only [spec_l5Sweep.l0]
    rw [wrap64_id (x := f + m) (by omega) (by omega), if_pos (by omega), if_pos (by rw [marks_len]; omega), wrap64_id (by omega) (by omega), ← marks_snoc, show f + (t : Int) + 1 = f + ((t + 1 : Nat) : Int) by omega]
    exact spec_l5Sweep_l0 f m w hf hm d (t + 1) k (by omega) (by omega)
theorem spec_l5Sweep_eq (k : Nat) (f m : Int) (w : Bool) (hf : 0 ≤ f ∧ f ≤ 200) (hm : 1 ≤ m ∧ m ≤ 24) (hk : 100 < k) : spec_l5Sweep.f k f m w = some (sweepM f m.toNat w) := by
  have e := spec_l5Sweep_l0 f m.toNat w hf (by omega) m.toNat 0 k (by omega) (by omega)
  rw [Int.toNat_of_nonneg (by omega)] at e
  unfold spec_l5Sweep.f
  simpa [marks] using e
theorem impl_partRound_l1 (f : Int) (m : Nat) (lo : Int) (w : Bool) (hw : w = decide ((m : Int) < lo)) (hf : 0 ≤ f ∧ f ≤ 200) (hm : 1 ≤ m ∧ m ≤ 24) (h1 : (w && decide (m = 1)) = false) : ∀ (d t k : Nat), t + d = m - 2 → d < k →
    impl_partRound.l1 k f (m : Int) lo (sweepA f m w ++ dn (f + m - 2) t) (m - 2 - t) = some (sweepM f m w)
  | 0, t, k, h, hk => by
    obtain ⟨k, rfl⟩ := succ_of (k := k) (by omega)
    have hA := sweepA_len f m w
    simp only [impl_partRound.l1]
    rw [if_neg (by omega), show t = m - 2 by omega]
    unfold sweepM
    by_cases c : (m : Int) < lo
    · have : w = true := by rw [hw]; simp [c]
      subst this
      simp at h1
      rw [if_pos c, if_pos (by rw [List.length_append, dn_len]; omega)]
      have : 1 < m := by omega
      simp [this]
    · have : w = false := by rw [hw]; simp [c]
      subst this
      rw [if_neg c]
      simp
  | d + 1, t, k, h, hk => by
    obtain ⟨k, rfl⟩ := succ_of (k := k) (by omega)
    have hA := sweepA_len f m w
    simp only [impl_partRound.l1]
    rw [if_pos (by omega), if_pos (by rw [List.length_append, dn_len]; omega), wrap64_id (x := f + ((m : Int) - 2 - t)) (by omega) (by omega), wrap64_id (by omega) (by omega), List.append_assoc, show f + ((m : Int) - 2 - t) = f + m - 2 - t by omega, ← dn_snoc, show (m : Int) - 2 - (t : Int) - 1 = m - 2 - ((t + 1 : Nat) : Int) by omega]
    exact impl_partRound_l1 f m lo w hw hf hm h1 d (t + 1) k (by omega) (by omega)
theorem impl_partRound_l0 (f : Int) (m : Nat) (lo : Int) (w : Bool) (hw : w = decide ((m : Int) < lo)) (hf : 0 ≤ f ∧ f ≤ 200) (hm : 1 ≤ m ∧ m ≤ 24) : ∀ (d t k : Nat), t + d = m → d + 40 < k →
    impl_partRound.l0 k f (m : Int) lo (marks f t) (m : Int) (t : Int) = some (sweepM f m w)
  | 0, t, k, h, hk => by
    obtain ⟨k, rfl⟩ := succ_of (k := k) (by omega)
    obtain ⟨k, rfl⟩ := succ_of (k := k) (by omega)
    simp only [impl_partRound.l0, impl_partRound.j1]
    rw [wrap64_id (x := f + m) (by omega) (by omega), wrap64_id (x := f + m - 1) (by omega) (by omega), wrap64_id (x := (m : Int) - 2) (by omega) (by omega), if_neg (by omega), show t = m by omega]
    by_cases c : (m : Int) < lo
    · have hw' : w = true := by rw [hw]; simp [c]
      subst hw'
      rw [if_pos c]
      by_cases c1 : (m : Int) = 1
      · rw [if_pos c1, if_pos (by rw [marks_len]; omega)]
        have : m = 1 := by omega
        subst this
        simp [sweepM, sweepA, marks, dn]
      · have e := impl_partRound_l1 f m lo true hw hf hm (by simp; omega) (m - 2) 0 k (by omega) (by omega)
        simp only [dn, List.append_nil, Int.natCast_zero, Int.sub_zero] at e
        rw [if_neg c1, if_pos (by rw [marks_len]; omega)]
        simpa [sweepA] using e
    · have hw' : w = false := by rw [hw]; simp [c]
      subst hw'
      have e := impl_partRound_l1 f m lo false hw hf hm (by simp) (m - 2) 0 k (by omega) (by omega)
      simp only [dn, List.append_nil, Int.natCast_zero, Int.sub_zero] at e
      rw [if_neg c]
      simpa [sweepA] using e
  | d + 1, t, k, h, hk => by
    obtain ⟨k, rfl⟩ := succ_of (k := k) (by omega)
    simp only [impl_partRound.l0]
    rw [if_pos (by omega), if_pos (by rw [marks_len]; omega), wrap64_id (x := f + (t : Int)) (by omega) (by omega), ← marks_snoc, wrap_succ (n := m) (by omega) (by omega)]
    exact impl_partRound_l0 f m lo w hw hf hm d (t + 1) k (by omega) (by omega)
theorem impl_partRound_eq (k : Nat) (f m lo : Int) (hf : 0 ≤ f ∧ f ≤ 200) (hm : 1 ≤ m ∧ m ≤ 24) (hk : 100 < k) : impl_partRound.f k f m lo = some (sweepM f m.toNat (decide (m < lo))) := by
  have e := impl_partRound_l0 f m.toNat lo _ rfl hf (by omega) m.toNat 0 k (by omega) (by omega)
  rw [Int.toNat_of_nonneg (by omega)] at e
  unfold impl_partRound.f
  simpa [marks] using e
def partMany (s g i : Nat) : Nat := if i < s % g then s / g + 1 else s / g
def partWait (s g i : Nat) : Bool := decide (0 < s % g) && decide (s % g ≤ i)
def partsL (s g : Nat) : Nat → Nat → Int → List (List Int)
  | 0, _, _ => []
  | d + 1, i, f => sweepM f (partMany s g i) (partWait s g i) :: partsL s g d (i + 1) (f + partMany s g i)
def partsM (s g : Nat) : List (List Int) := partsL s g g 0 0
theorem partMany_bd {s g i : Nat} (hs : 2 ≤ s ∧ s ≤ 24) (hg : 1 ≤ g ∧ g ≤ 6) (hgs : g ≤ s) : 1 ≤ partMany s g i ∧ partMany s g i ≤ 24 := by
  unfold partMany
  have h1 : 0 < s / g := Nat.div_pos hgs (by omega)
  have h2 : s / g ≤ s := Nat.div_le_self s g
  by_cases c : i < s % g
  · rw [if_pos c]
    have h3 : g ≠ 1 := by intro e; subst e; rw [Nat.mod_one] at c; omega
    have h4 : s / g ≤ s / 2 := Nat.div_le_div_left (by omega) (by omega)
    omega
  · rw [if_neg c]; omega
theorem partsL_len (s g d i : Nat) (f : Int) : (partsL s g d i f).length = d := by
  induction d generalizing i f with
  | zero => rfl
  | succ d ih => simp [partsL, ih]
theorem partsL_mem {s g : Nat} (hs : 2 ≤ s ∧ s ≤ 24) (hg : 1 ≤ g ∧ g ≤ 6) (hgs : g ≤ s) {d i : Nat} {f : Int} {x : List Int} (h : x ∈ partsL s g d i f) : x.length ≤ 50 := by
  induction d generalizing i f with
  | zero => simp [partsL] at h
  | succ d ih =>
    rw [partsL] at h
    rcases List.mem_cons.1 h with rfl | h
    · have := sweepM_len f (partMany s g i) (partWait s g i)
      have := partMany_bd (i := i) hs hg hgs
      omega
    · exact ih h
theorem tdiv_nat (a n : Nat) : Int.tdiv (a : Int) (n : Int) = ((a / n : Nat) : Int) := by
  rw [Int.tdiv_eq_ediv_of_nonneg (by omega)]
  rfl
theorem part_wait {s g i : Nat} (hs : 2 ≤ s ∧ s ≤ 24) (hg : 1 ≤ g ∧ g ≤ 6) : decide ((partMany s g i : Int) < (((s + g - 1) / g : Nat) : Int)) = partWait s g i := by
  unfold partMany partWait
  have hd : (s + g - 1) / g = if 0 < s % g then s / g + 1 else s / g := by
    obtain rfl | rfl | rfl | rfl | rfl | rfl : g = 1 ∨ g = 2 ∨ g = 3 ∨ g = 4 ∨ g = 5 ∨ g = 6 := by omega
    all_goals (split <;> omega)
  rw [hd]
  by_cases c : 0 < s % g
  · by_cases c2 : i < s % g
    · rw [if_pos c, if_pos c2, decide_eq_false (by omega), decide_eq_false (show ¬ s % g ≤ i by omega), Bool.and_false]
    · rw [if_pos c, if_neg c2, decide_eq_true (by omega), decide_eq_true c, decide_eq_true (show s % g ≤ i by omega), Bool.and_true]
  · have : ¬ i < s % g := by omega
    rw [if_neg c, if_neg this, decide_eq_false (by omega), decide_eq_false c, Bool.false_and]
theorem spec_l5Parts_l0 (s g : Nat) (r : Bool) (hs : 2 ≤ s ∧ s ≤ 24) (hg : 1 ≤ g ∧ g ≤ 6) (hgs : g ≤ s) : ∀ (d i k : Nat) (f : Int) (acc : List (List Int)), i + d = g → d + 120 < k → 0 ≤ f → f ≤ 24 * i → acc.length ≤ i →
    spec_l5Parts.l0 k (g : Int) acc f ((s % g : Nat) : Int) (i : Int) (s : Int) r = some (acc ++ partsL s g d i f)
  | 0, i, k, f, acc, h, hk, h0, h1, h2 => by
    obtain ⟨k, rfl⟩ := succ_of (k := k) (by omega)
    simp only [spec_l5Parts.l0]
    rw [if_neg (by omega)]
    simp [partsL]
  | d + 1, i, k, f, acc, h, hk, h0, h1, h2 => by
    obtain ⟨k, rfl⟩ := succ_of (k := k) (by omega)
    have hm := partMany_bd (i := i) hs hg hgs
    have hq : s / g ≤ 24 := Nat.le_trans (Nat.div_le_self s g) hs.2
    have w1 : wrap64 ((s / g : Nat) : Int) = ((s / g : Nat) : Int) := by generalize s / g = q at hq; exact wrap64_id (by omega) (by omega)
    have w2 : wrap64 (((s / g : Nat) : Int) + 1) = ((s / g : Nat) : Int) + 1 := by generalize s / g = q at hq; exact wrap64_id (by omega) (by omega)
    simp only [spec_l5Parts.l0]
    rw [if_pos (by omega), if_neg (by omega), tdiv_nat, w1, w2]
    have key : ∀ (m : Int) (w : Bool), m = partMany s g i → w = partWait s g i → ((spec_l5Sweep.f k f m w).bind fun t => if acc.length < 5864062014805 then spec_l5Parts.l0 k (g : Int) (acc ++ [t]) (wrap64 (f + m)) ((s % g : Nat) : Int) (wrap64 ((i : Int) + 1)) (s : Int) r else none) = some (acc ++ partsL s g (d + 1) i f) := by
      intro m w em ew
      subst em ew
      rw [spec_l5Sweep_eq k f _ _ (by omega) (by omega) (by omega), Option.bind_some, if_pos (by omega), wrap64_id (x := f + ((partMany s g i : Nat) : Int)) (by omega) (by omega), wrap_succ (n := g) (by omega) (by omega), Int.toNat_natCast, spec_l5Parts_l0 s g r hs hg hgs d (i + 1) k _ _ (by omega) (by omega) (by omega) (by omega) (by simp; omega)]
      simp [partsL]
    by_cases c : ((s % g : Nat) : Int) > 0
    · rw [if_pos c]
      by_cases c2 : (i : Int) < ((s % g : Nat) : Int)
      · rw [if_pos c2]
        have c3 : i < s % g := by omega
        exact key _ _ (by unfold partMany; rw [if_pos c3]; omega) (by unfold partWait; rw [decide_eq_false (show ¬ (i : Int) ≥ ((s % g : Nat) : Int) by omega), decide_eq_false (show ¬ s % g ≤ i by omega), Bool.and_false])
      · rw [if_neg c2]
        have c3 : ¬ i < s % g := by omega
        exact key _ _ (by unfold partMany; rw [if_neg c3]) (by unfold partWait; rw [decide_eq_true (show (i : Int) ≥ ((s % g : Nat) : Int) by omega), decide_eq_true (show 0 < s % g by omega), decide_eq_true (show s % g ≤ i by omega), Bool.true_and])
    · rw [if_neg c]
      have c3 : ¬ i < s % g := by omega
      rw [if_neg (by omega)]
      exact key _ _ (by unfold partMany; rw [if_neg c3]) (by unfold partWait; rw [decide_eq_false (show ¬ 0 < s % g by omega), Bool.false_and])
theorem spec_l5Parts_eq (k : Nat) (s g : Nat) (r : Bool) (hs : 2 ≤ s ∧ s ≤ 24) (hg : 1 ≤ g ∧ g ≤ 6) (hgs : g ≤ s) (hk : 200 < k) : spec_l5Parts.f k (s : Int) r (g : Int) = some (partsM s g) := by
  unfold spec_l5Parts.f partsM
  have e := spec_l5Parts_l0 s g r hs hg hgs g 0 k 0 [] (by omega) (by omega) (by omega) (by omega) (by simp)
  rw [if_neg (by omega), tmod_nat]
  simpa using e
theorem spec_PartPatrol_eq (k : Nat) (s : Int) (r : Bool) (g : Int) (hk : 300 < k) : spec_PartPatrol.f k s r g = some (if (road s r && !r && inR g 1 6 && decide (g ≤ s)) = true then (partsM s.toNat g.toNat, true) else ([], false)) := by
  unfold spec_PartPatrol.f
  rw [spec_l5Number_eq, Option.bind_some]
  cases hr : road s r with
  | false => simp
  | true =>
    have hb := road_bd hr
    cases r with
    | true => cases inR g 1 6 <;> simp
    | false =>
      cases hg : inR g 1 6 with
      | false => simp
      | true =>
        have hg := inR_iff.1 hg
        by_cases c : g ≤ s
        · have e := spec_l5Parts_eq k s.toNat g.toNat false (by omega) (by omega) (by omega) (by omega)
          rw [Int.toNat_of_nonneg (by omega), Int.toNat_of_nonneg (by omega)] at e
          have c' : ¬ g > s := by omega
          simp [e, c, c']
        · have c' : g > s := by omega
          simp [c, c']
theorem impl_PartPatrol_l0 (s g : Nat) (r : Bool) (hs : 2 ≤ s ∧ s ≤ 24) (hg : 1 ≤ g ∧ g ≤ 6) (hgs : g ≤ s) : ∀ (d i k : Nat) (f : Int) (acc : List (List Int)), i + d = g → d + 120 < k → 0 ≤ f → f ≤ 24 * i → acc.length ≤ i →
    impl_PartPatrol.l0 k (g : Int) acc f (((s + g - 1) / g : Nat) : Int) (g : Int) (i : Int) (s : Int) r = some (acc ++ partsL s g d i f, true)
  | 0, i, k, f, acc, h, hk, h0, h1, h2 => by
    obtain ⟨k, rfl⟩ := succ_of (k := k) (by omega)
    simp only [impl_PartPatrol.l0]
    rw [if_neg (by omega)]
    simp [partsL]
  | d + 1, i, k, f, acc, h, hk, h0, h1, h2 => by
    obtain ⟨k, rfl⟩ := succ_of (k := k) (by omega)
    have hm := partMany_bd (i := i) hs hg hgs
    have hq : s / g ≤ 24 := Nat.le_trans (Nat.div_le_self s g) hs.2
    have w1 : wrap64 ((s / g : Nat) : Int) = ((s / g : Nat) : Int) := by generalize s / g = q at hq; exact wrap64_id (by omega) (by omega)
    have w2 : wrap64 (((s / g : Nat) : Int) + 1) = ((s / g : Nat) : Int) + 1 := by generalize s / g = q at hq; exact wrap64_id (by omega) (by omega)
    simp only [impl_PartPatrol.l0]
    rw [if_pos (by omega), if_neg (by omega), tdiv_nat, tmod_nat, w1, w2]
    have key : ∀ (m : Int), m = partMany s g i → ((impl_partRound.f k f m (((s + g - 1) / g : Nat) : Int)).bind fun t => if acc.length < 5864062014805 then impl_PartPatrol.l0 k (g : Int) (acc ++ [t]) (wrap64 (f + m)) (((s + g - 1) / g : Nat) : Int) (g : Int) (wrap64 ((i : Int) + 1)) (s : Int) r else none) = some (acc ++ partsL s g (d + 1) i f, true) := by
      intro m em
      subst em
      rw [impl_partRound_eq k f _ _ (by omega) (by omega) (by omega), Option.bind_some, if_pos (by omega), wrap64_id (x := f + ((partMany s g i : Nat) : Int)) (by omega) (by omega), wrap_succ (n := g) (by omega) (by omega), Int.toNat_natCast, part_wait hs hg, impl_PartPatrol_l0 s g r hs hg hgs d (i + 1) k _ _ (by omega) (by omega) (by omega) (by omega) (by simp; omega)]
      simp [partsL]
    by_cases c2 : (i : Int) < ((s % g : Nat) : Int)
    · rw [if_pos c2]
      have c3 : i < s % g := by omega
      exact key _ (by unfold partMany; rw [if_pos c3]; omega)
    · rw [if_neg c2]
      have c3 : ¬ i < s % g := by omega
      exact key _ (by unfold partMany; rw [if_neg c3])
theorem impl_PartPatrol_eq (k : Nat) (s : Int) (r : Bool) (g : Int) (hk : 300 < k) : impl_PartPatrol.f k s r g = some (if (road s r && !r && inR g 1 6 && decide (g ≤ s)) = true then (partsM s.toNat g.toNat, true) else ([], false)) := by
  obtain ⟨k, rfl⟩ := succ_of (k := k) (by omega)
  unfold impl_PartPatrol.f
  rw [impl_IsRoad_eq, Option.bind_some, impl_isGuards_eq]
  cases hr : road s r with
  | false => simp [impl_PartPatrol.j0]
  | true =>
    have hb := road_bd hr
    cases r with
    | true => simp [impl_PartPatrol.j0]
    | false =>
      cases hg : inR g 1 6 with
      | false => simp [impl_PartPatrol.j0]
      | true =>
        have hg := inR_iff.1 hg
        by_cases c : g ≤ s
        · have e := impl_PartPatrol_l0 s.toNat g.toNat false (by omega) (by omega) (by omega) g.toNat 0 k 0 [] (by omega) (by omega) (by omega) (by omega) (by simp)
          rw [← tdiv_nat, show ((s.toNat + g.toNat - 1 : Nat) : Int) = s + g - 1 by omega, Int.toNat_of_nonneg (by omega), Int.toNat_of_nonneg (by omega)] at e
          have c' : ¬ g > s := by omega
          have hd := tdiv_bd (s + g - 1) g.toNat (by omega) (by omega) (by omega)
          rw [Int.toNat_of_nonneg (by omega)] at hd
          simp only [impl_PartPatrol.j0, if_true, Option.bind_some]
          rw [if_neg (by simp), if_neg (by simp; omega), if_neg (by omega), wrap64_id (x := s + g) (by omega) (by omega), wrap64_id (x := s + g - 1) (by omega) (by omega), wrap64_id (x := Int.tdiv (s + g - 1) g) (by omega) (by omega)]
          have e0 : impl_PartPatrol.l0 k g [] 0 (Int.tdiv (s + g - 1) g) g 0 s false = _ := e
          rw [e0]
          simp [c, partsM]
        · have c' : g > s := by omega
          simp [c, c', impl_PartPatrol.j0]

theorem FnExactPartPatrol (a0_0 : Int) (a0_1 : Bool) (a1 : Int)
    (h0 : ((Lit.int .i64 (a0_0)).wf = true)) (h1 : True) (h2 : ((Lit.int .i64 (a1)).wf = true)) :
    ∃ k, laws_FnExactPartPatrol.Ok k a0_0 a0_1 a1 := by
  refine ⟨2097200, ?_⟩
  unfold laws_FnExactPartPatrol.Ok
  have hb : ∀ v : List (List Int) × Bool, v = (if (road a0_0 a0_1 && !a0_1 && inR a1 1 6 && decide (a1 ≤ a0_0)) = true then (partsM a0_0.toNat a1.toNat, true) else ([], false)) → v.1.length ≤ 6 ∧ ∀ x ∈ v.1, x.length ≤ 50 := by
    intro v hv
    cases hc : (road a0_0 a0_1 && !a0_1 && inR a1 1 6 && decide (a1 ≤ a0_0)) with
    | false => rw [hc] at hv; simp at hv; subst hv; simp
    | true =>
      rw [hc] at hv
      rw [Bool.and_eq_true, Bool.and_eq_true, Bool.and_eq_true, inR_iff, decide_eq_true_eq] at hc
      have := road_bd hc.1.1.1
      simp at hv
      subst hv
      refine ⟨by simp [partsM, partsL_len]; omega, fun x hx => partsL_mem (by omega) (by omega) (by omega) hx⟩
  have hs := spec_PartPatrol_eq 2097200 a0_0 a0_1 a1 (by omega)
  have hi := impl_PartPatrol_eq 2097200 a0_0 a0_1 a1 (by omega)
  have hb := hb _ rfl
  generalize (if (road a0_0 a0_1 && !a0_1 && inR a1 1 6 && decide (a1 ≤ a0_0)) = true then (partsM a0_0.toNat a1.toNat, true) else (([] : List (List Int)), false)) = v at hs hi hb
  obtain ⟨v, b⟩ := v
  have hx : ∀ x ∈ v, x.length ≤ 1048576 := fun x hx => by have := hb.2 x hx; omega
  have ht : tot v ≤ 1099511627776 := Nat.le_trans (tot_le hb.2) (by have := hb.1; simp only at this; omega)
  exact ⟨a0_0, a0_1, v, b, 1 + tot v, marksSS 1 v, rfl, hs, hi, laws_eqIntSS_self 2097200 v (by have := hb.1; simp only at this; omega) hx (by omega), laws_markIntSS_eq 2097200 v (by have := hb.1; simp only at this; omega) hx ht (by omega), laws_heldIntSS_eq 2097200 v (by have := hb.1; simp only at this; omega) hx ht (by omega), by omega⟩

end Go.Proofs.Ytgoapgogdkiooaa.Pure
