/- Plain facts on numbers and lists: what the functions that the law FnExactBestPlans reaches answer, and that the law's own function answers true. No program, no memory. -/
import Derived.Test.YthgbkekfekcfaaaPFnExactBestPlansx1
import Derived.Test.YthgbkekfekcfaaaPFnExactBestPlansx2
import Derived.Test.YthgbkekfekcfaaaPFnExactBestPlansx3
import Derived.Test.YthgbkekfekcfaaaPFnExactBestPlansx4
import Derived.Test.YthgbkekfekcfaaaPFnExactBestPlansx5
import Derived.Test.YthgbkekfekcfaaaPFnExactBestPlansx6
import Derived.Test.YthgbkekfekcfaaaPFnExactBestPlansx7
import Derived.Test.YthgbkekfekcfaaaPFnExactBestPlansx8
import Derived.Test.YthgbkekfekcfaaaPFnExactBestPlansx9
namespace Go.Proofs.Ythgbkekfekcfaaa.Pure
open Go.RowKit Go.Proofs.Ythgbkekfekcfaaa.PFnExactBestPlans Go.Proofs.YthgbkekfekcfaaaW.PrintWords Go.Proofs.YthgbkekfekcfaaaW.PrintLast Go.Proofs.YthgbkekfekcfaaaW.PrintMore
set_option linter.unusedVariables false
set_option linter.unusedSimpArgs false
theorem wrap64_id {x : Int} (h1 : -9223372036854775808 ≤ x) (h2 : x ≤ 9223372036854775807) : wrap64 x = x := by unfold wrap64; omega
theorem i64_of {x : Int} (h : (Lit.int .i64 x).wf = true) : -9223372036854775808 ≤ x ∧ x ≤ 9223372036854775807 := by
  simp [Lit.wf, IntKind.min, IntKind.max, IntKind.bits, IntKind.signed, IntKind.wrap] at h
  omega
def inR (x a b : Int) : Bool := decide (a ≤ x) && decide (x ≤ b)
theorem inR_iff {x a b : Int} : inR x a b = true ↔ a ≤ x ∧ x ≤ b := by unfold inR; simp
theorem inR_not {x a b : Int} : inR x a b = false ↔ ¬ (a ≤ x ∧ x ≤ b) := by rw [← inR_iff]; simp
def road (s : Int) (r : Bool) : Bool := inR s 2 24 && (!r || decide (3 ≤ s))
theorem road_bd {s : Int} {r : Bool} (h : road s r = true) : 2 ≤ s ∧ s ≤ 24 ∧ (r = true → 3 ≤ s) := by
  unfold road at h
  rw [Bool.and_eq_true, inR_iff] at h
  refine ⟨h.1.1, h.1.2, fun hr => ?_⟩
  have := h.2
  simp [hr] at this
  exact this
theorem spec_l1In_eq (a b c : Int) : spec_l1In.f a b c = some (inR a b c) := by
  unfold spec_l1In.f inR
  by_cases h : a ≥ b
  · have h' : b ≤ a := h
    simp [h, h']
  · have h' : ¬ b ≤ a := h
    simp [h, h']
theorem impl_within_eq (a b c : Int) : impl_within.f a b c = some (inR a b c) := by
  unfold impl_within.f inR
  by_cases h : a ≥ b
  · have h' : b ≤ a := h
    simp [h, h']
  · have h' : ¬ b ≤ a := h
    simp [h, h']
theorem spec_l2Road_eq (s : Int) (r : Bool) : spec_l2Road.f s r = some (road s r) := by
  unfold spec_l2Road.f road
  rw [spec_l1In_eq, Option.bind_some]
  cases inR s 2 24 <;> cases r <;> simp
  omega
theorem impl_IsRoad_eq (s : Int) (r : Bool) : impl_IsRoad.f s r = some (road s r) := by
  unfold impl_IsRoad.f road
  rw [impl_within_eq, Option.bind_some]
  cases inR s 2 24 <;> cases r <;> simp
theorem laws_toRoad_eq (s : Int) (r : Bool) : laws_toRoad.f s r = some (s, r) := rfl
theorem wrap_succ {i n : Nat} (h : i < n) (hn : n ≤ 9223372036854775807) : wrap64 ((i : Int) + 1) = ((i + 1 : Nat) : Int) := by unfold wrap64; omega
theorem drop_rd (l : List Int) (i : Nat) (h : i < l.length) : l.drop i = rd l (i : Int) :: l.drop (i + 1) := by
  rw [List.drop_eq_getElem_cons h]
  unfold rd
  simp [List.getD_eq_getElem?_getD, h]
theorem rd_get (l : List Int) (i : Nat) (h : i < l.length) : rd l (i : Int) = l[i] := by
  unfold rd
  simp [List.getD_eq_getElem?_getD, h]
theorem succ_of {k : Nat} (h : 0 < k) : ∃ m, k = m + 1 := ⟨k - 1, by omega⟩
theorem headD_mem {α : Type} (ls : List α) (z : α) (h : 0 < ls.length) : ls.headD z ∈ ls := by cases ls <;> simp_all
theorem drop_end {α : Type} (l : List α) (i : Nat) (h : l.length ≤ i) : l.drop i = [] := List.drop_of_length_le h
def allIn (l : List Int) (a b : Int) : Bool := l.all (fun x => inR x a b)
/-- Numbers in line, from a on. -/
def marks (a : Int) : Nat → List Int
  | 0 => []
  | n + 1 => a :: marks (a + 1) n
theorem marks_len (a : Int) (n : Nat) : (marks a n).length = n := by
  induction n generalizing a with
  | zero => rfl
  | succ n ih => simp [marks, ih]
theorem marks_snoc (a : Int) (n : Nat) : marks a (n + 1) = marks a n ++ [a + n] := by
  induction n generalizing a with
  | zero => simp [marks]
  | succ n ih =>
    rw [marks, ih (a + 1)]
    simp [marks]
    omega
theorem marks_rd (a : Int) (n i : Nat) (h : i < n) : rd (marks a n) (i : Int) = a + i := by
  rw [rd_get _ _ (by rw [marks_len]; exact h)]
  induction n generalizing a i with
  | zero => omega
  | succ n ih =>
    cases i with
    | zero => simp [marks]
    | succ i =>
      simp only [marks, List.getElem_cons_succ]
      rw [ih (a + 1) i (by omega)]
      omega
theorem impl_allWithin_l0 (lo hi : Int) (l : List Int) (hl : l.length ≤ 9223372036854775807) : ∀ (d i k : Nat), i + d = l.length → d < k →
    impl_allWithin.l0 k lo hi l (l.length : Int) (i : Int) = some (allIn (l.drop i) lo hi)
  | 0, i, k, h, hk => by
    obtain ⟨k, rfl⟩ := succ_of (k := k) (by omega)
    simp only [impl_allWithin.l0]
    rw [if_neg (by omega), drop_end l i (by omega)]
    rfl
  | d + 1, i, k, h, hk => by
    obtain ⟨k, rfl⟩ := succ_of (k := k) (by omega)
    simp only [impl_allWithin.l0]
    rw [if_pos (by omega), if_pos (by omega), if_pos (by omega), impl_within_eq, Option.bind_some, wrap_succ (n := l.length) (by omega) hl, impl_allWithin_l0 lo hi l hl d (i + 1) k (by omega) (by omega), drop_rd l i (by omega)]
    unfold allIn
    rw [List.all_cons]
    cases inR (rd l (i : Int)) lo hi <;> simp
theorem impl_allWithin_eq (k : Nat) (l : List Int) (a b : Int) (hl : l.length ≤ 9223372036854775807) (hk : l.length < k) : impl_allWithin.f k l a b = some (allIn l a b) := by
  unfold impl_allWithin.f
  have := impl_allWithin_l0 a b l hl l.length 0 k (by omega) hk
  simpa using this
theorem impl_Road_has_eq (k : Nat) (s : Int) (r : Bool) (l : List Int) (hl : l.length ≤ 9223372036854775807) (hk : l.length < k) : impl_Road_has.f k s r l = some (allIn l 0 (wrap64 (s - 1))) := by
  unfold impl_Road_has.f
  rw [impl_allWithin_eq k l _ _ hl hk, Option.bind_some]
theorem impl_Road_has1 (k : Nat) (s : Int) (r : Bool) (x : Int) (hs : road s r = true) (hk : 1 < k) : impl_Road_has.f k s r [x] = some (inR x 0 (s - 1)) := by
  rw [impl_Road_has_eq k s r [x] (by simp) (by simpa using hk)]
  have := road_bd hs
  rw [wrap64_id (by omega) (by omega)]
  simp [allIn]
theorem impl_Road_hasN (k : Nat) (s : Int) (r : Bool) (l : List Int) (hs : road s r = true) (hl : l.length ≤ 9223372036854775807) (hk : l.length < k) : impl_Road_has.f k s r l = some (allIn l 0 (s - 1)) := by
  rw [impl_Road_has_eq k s r l hl hk]
  have := road_bd hs
  rw [wrap64_id (by omega) (by omega)]
theorem laws_eqIntS_l0 (l : List Int) (hl : l.length ≤ 9223372036854775807) : ∀ (d i k : Nat), i + d = l.length → d < k → laws_eqIntS.l0 k l l (i : Int) = some true
  | 0, i, k, h, hk => by
    obtain ⟨k, rfl⟩ := succ_of (k := k) (by omega)
    simp only [laws_eqIntS.l0]
    rw [if_neg (by omega)]
  | d + 1, i, k, h, hk => by
    obtain ⟨k, rfl⟩ := succ_of (k := k) (by omega)
    simp only [laws_eqIntS.l0]
    rw [if_pos (by omega), if_pos (by omega), if_pos (by omega), if_pos trivial, wrap_succ (n := l.length) (by omega) hl]
    exact laws_eqIntS_l0 l hl d (i + 1) k (by omega) (by omega)
theorem laws_eqIntS_self (k : Nat) (l : List Int) (hl : l.length ≤ 9223372036854775807) (hk : l.length < k) : laws_eqIntS.f k l l = some true := by
  unfold laws_eqIntS.f
  rw [if_pos rfl]
  have := laws_eqIntS_l0 l hl l.length 0 k (by omega) hk
  simpa using this
theorem laws_markIntS_l0 (l : List Int) (a : Int) (h0 : 0 ≤ a) (h1 : a + l.length ≤ 9223372036854775806) : ∀ (d i k : Nat), i + d = l.length → d < k →
    laws_markIntS.l0 k (marks a i ++ l.drop i) (a + i) (i : Int) = some (a + l.length, marks a l.length)
  | 0, i, k, h, hk => by
    obtain ⟨k, rfl⟩ := succ_of (k := k) (by omega)
    simp only [laws_markIntS.l0]
    rw [if_neg (by simp [marks_len]; omega), drop_end l i (by omega)]
    have : i = l.length := by omega
    subst this
    simp
  | d + 1, i, k, h, hk => by
    obtain ⟨k, rfl⟩ := succ_of (k := k) (by omega)
    simp only [laws_markIntS.l0]
    rw [if_pos (by simp [marks_len]; omega), if_pos (by omega), wrap_succ (n := l.length) (by omega) (by omega)]
    have e : (marks a i ++ l.drop i).set ((i : Int)).toNat (a + i) = marks a (i + 1) ++ l.drop (i + 1) := by
      rw [Int.toNat_natCast, List.set_append_right _ _ (by simp [marks_len])]
      rw [marks_len, Nat.sub_self, drop_rd l i (by omega), List.set_cons_zero, marks_snoc]
      simp
    rw [e, wrap64_id (by omega) (by omega), show a + (i : Int) + 1 = a + ((i + 1 : Nat) : Int) by omega]
    exact laws_markIntS_l0 l a h0 h1 d (i + 1) k (by omega) (by omega)
theorem laws_markIntS_eq (k : Nat) (l : List Int) (a : Int) (h0 : 0 ≤ a) (h1 : a + l.length ≤ 9223372036854775806) (hk : l.length < k) : laws_markIntS.f k l a = some (a + l.length, marks a l.length) := by
  unfold laws_markIntS.f
  have := laws_markIntS_l0 l a h0 h1 l.length 0 k (by omega) hk
  simpa [marks] using this
theorem laws_heldIntS_l0 (n : Nat) (a : Int) (h0 : 0 ≤ a) (h1 : a + n ≤ 9223372036854775806) : ∀ (d i k : Nat), i + d = n → d < k →
    laws_heldIntS.l0 k (marks a n) (a + i) (i : Int) = some (a + n)
  | 0, i, k, h, hk => by
    obtain ⟨k, rfl⟩ := succ_of (k := k) (by omega)
    simp only [laws_heldIntS.l0]
    rw [if_neg (by rw [marks_len]; omega)]
    congr 1
    omega
  | d + 1, i, k, h, hk => by
    obtain ⟨k, rfl⟩ := succ_of (k := k) (by omega)
    simp only [laws_heldIntS.l0]
    rw [if_pos (by rw [marks_len]; omega), if_pos (by omega), if_pos (marks_rd a n i (by omega)), wrap_succ (n := n) (by omega) (by omega), wrap64_id (by omega) (by omega), show a + (i : Int) + 1 = a + ((i + 1 : Nat) : Int) by omega]
    exact laws_heldIntS_l0 n a h0 h1 d (i + 1) k (by omega) (by omega)
theorem laws_heldIntS_eq (k : Nat) (n : Nat) (a : Int) (h0 : 0 ≤ a) (h1 : a + n ≤ 9223372036854775806) (hk : n < k) : laws_heldIntS.f k (marks a n) a = some (a + n) := by
  unfold laws_heldIntS.f
  have := laws_heldIntS_l0 n a h0 h1 n 0 k (by omega) hk
  simpa using this
def runL (s x : Int) (n : Nat) : List Int := (List.range n).map (fun (i : Nat) => Int.tmod (x + i) s)
theorem runL_snoc (s x : Int) (n : Nat) : runL s x (n + 1) = runL s x n ++ [Int.tmod (x + n) s] := by unfold runL; rw [List.range_succ]; simp
theorem runL_len (s x : Int) (n : Nat) : (runL s x n).length = n := by simp [runL]
def fits (s : Int) (r : Bool) (x n : Int) : Bool := inR x 0 (s - 1) && inR n 0 s && (r || decide (x + n ≤ s))
def carrierOk (s f0 f1 f2 : Int) : Bool := inR f0 0 (s - 1) && inR f1 0 48 && inR f2 0 20
def gapM (s : Int) (r : Bool) (a b : Int) : Int :=
  let d := if a - b < b - a then b - a else a - b
  if r = true then (if s - d < d then s - d else d) else d
theorem gapM_bd {s : Int} {r : Bool} {a b : Int} (hs : 2 ≤ s) (ha : 0 ≤ a ∧ a ≤ s - 1) (hb : 0 ≤ b ∧ b ≤ s - 1) : 0 ≤ gapM s r a b ∧ gapM s r a b ≤ s - 1 := by
  unfold gapM
  simp only
  split <;> split <;> (try split) <;> omega
def lo2 (a b : Int) : Int := if a < b then a else b
theorem spec_l1Least_eq (a b : Int) : spec_l1Least.f a b = some (lo2 a b) := by unfold spec_l1Least.f lo2; split <;> rfl
def hi2 (a b : Int) : Int := if b < a then a else b
theorem spec_l1Most_eq (a b : Int) : spec_l1Most.f a b = some (hi2 a b) := by unfold spec_l1Most.f hi2; by_cases h : b < a <;> simp [h]
def legM (s : Int) (r : Bool) (f0 f1 x : Int) : Int := if f1 - gapM s r f0 x < 0 then -1 else (if s - 1 < x + (f1 - gapM s r f0 x) then s - 1 else x + (f1 - gapM s r f0 x))
theorem carrierOk_bd {s a b c : Int} (h : carrierOk s a b c = true) : (0 ≤ a ∧ a ≤ s - 1) ∧ (0 ≤ b ∧ b ≤ 48) ∧ (0 ≤ c ∧ c ≤ 20) := by
  unfold carrierOk at h
  rw [Bool.and_eq_true, Bool.and_eq_true, inR_iff, inR_iff, inR_iff] at h
  exact ⟨h.1.1, h.1.2, h.2⟩
def movesOk (l : List Int) : Bool := inR (l.length : Int) 1 24 && allIn l (-1) 1
def walkerOk (s st f d : Int) (l : List Int) : Bool := inR st 0 (s - 1) && (decide (f = 1) || decide (f = -1)) && inR d 0 60 && movesOk l
/-- The least gap of p to a list of places, at most m. -/
def nearM (s : Int) (r : Bool) (p : Int) : List Int → Int → Int
  | [], m => m
  | q :: t, m => nearM s r p t (if gapM s r p q < m then gapM s r p q else m)
def farOth (s : Int) (r : Bool) (l : List Int) : Nat → Int → Int → Int → Int × Int
  | 0, _, f, o => (f, o)
  | d + 1, p, f, o => farOth s r l d (p + 1) (if f < nearM s r p l s then nearM s r p l s else f) (if nearM s r p l s > 0 then o + 1 else o)
def finM (n : Nat) (x : Int × Int) : Int := if x.1 < Int.tdiv (x.2 + n - 1) n then Int.tdiv (x.2 + n - 1) n else x.1
def boundM (s : Int) (r : Bool) (l : List Int) : Int := finM l.length (farOth s r l s.toNat 0 0 0)
theorem allIn_rd {l : List Int} {a b : Int} (h : allIn l a b = true) (i : Nat) (hi : i < l.length) : a ≤ rd l (i : Int) ∧ rd l (i : Int) ≤ b := by
  unfold allIn at h
  rw [List.all_eq_true] at h
  rw [rd_get l i hi]
  exact inR_iff.1 (h _ (List.getElem_mem hi))
/-- Each place of a round, from i on, is near to the next one. -/
def cycM (s : Int) (r : Bool) (l : List Int) (i d : Nat) : Bool := (List.range' i d).all (fun j => decide (gapM s r (rd l (j : Int)) (rd l (((j + 1) % l.length : Nat) : Int)) ≤ 1))
theorem cycM_succ (s : Int) (r : Bool) (l : List Int) (i d : Nat) : cycM s r l i (d + 1) = (decide (gapM s r (rd l (i : Int)) (rd l (((i + 1) % l.length : Nat) : Int)) ≤ 1) && cycM s r l (i + 1) d) := by
  unfold cycM
  rw [List.range'_succ, List.all_cons]
def roundOk (s : Int) (r : Bool) (l : List Int) : Bool := allIn l 0 (s - 1) && cycM s r l 0 l.length
def patrolOk (s : Int) (r : Bool) (ls : List (List Int)) : Bool := inR (ls.length : Int) 1 6 && inR ((ls.headD []).length : Int) 1 60 && ls.all (fun l => decide (l.length = (ls.headD []).length) && roundOk s r l)
theorem tmod_nat (a n : Nat) : Int.tmod (a : Int) (n : Int) = ((a % n : Nat) : Int) := by
  rw [Int.tmod_eq_emod_of_nonneg (by omega)]
  rfl
theorem rd_bd {l : List Int} {a b : Int} (h : allIn l a b = true) (i : Nat) (hi : i < l.length) : a ≤ rd l (i : Int) ∧ rd l (i : Int) ≤ b := allIn_rd h i hi
def tot : List (List Int) → Nat
  | [] => 0
  | x :: t => x.length + tot t
theorem tot_append (a b : List (List Int)) : tot (a ++ b) = tot a + tot b := by induction a with
  | nil => simp [tot]
  | cons x t ih => simp [tot, ih]; omega
def marksSS (a : Int) : List (List Int) → List (List Int)
  | [] => []
  | x :: t => marks a x.length :: marksSS (a + x.length) t
theorem marksSS_len (a : Int) (l : List (List Int)) : (marksSS a l).length = l.length := by
  induction l generalizing a with
  | nil => rfl
  | cons x t ih => simp [marksSS, ih]
theorem marksSS_append (a : Int) (l t : List (List Int)) : marksSS a (l ++ t) = marksSS a l ++ marksSS (a + tot l) t := by
  induction l generalizing a with
  | nil => simp [marksSS, tot]
  | cons x l ih =>
    simp only [List.cons_append, marksSS, tot, ih]
    rw [show a + (x.length : Int) + (tot l : Int) = a + ((x.length + tot l : Nat) : Int) by omega]
def ringM (s : Int) (k : Nat) (n : Nat) : List (List Int) := (List.range n).map (fun (i : Nat) => runL s (Int.tdiv (i * s) k) s.toNat)
theorem ringM_snoc (s : Int) (k n : Nat) : ringM s k (n + 1) = ringM s k n ++ [runL s (Int.tdiv (n * s) k) s.toNat] := by unfold ringM; rw [List.range_succ]; simp
theorem ringM_len (s : Int) (k n : Nat) : (ringM s k n).length = n := by simp [ringM]
theorem ringM_mem {s : Int} {k n : Nat} {x : List Int} (h : x ∈ ringM s k n) : x.length = s.toNat := by
  unfold ringM at h
  obtain ⟨i, _, rfl⟩ := List.mem_map.1 h
  exact runL_len _ _ _
theorem tdiv_bd (a : Int) (k : Nat) (h0 : 0 ≤ a) (h1 : a ≤ 1000) (hk : 0 < k) : 0 ≤ Int.tdiv a k ∧ Int.tdiv a k ≤ 1000 := by
  rw [Int.tdiv_eq_ediv_of_nonneg h0]
  exact ⟨Int.ediv_nonneg h0 (by omega), Int.le_trans (Int.ediv_le_self _ h0) h1⟩
theorem mul_bd {i : Nat} {s : Int} (hi : i ≤ 6) (hs : 2 ≤ s ∧ s ≤ 24) : 0 ≤ (i : Int) * s ∧ (i : Int) * s ≤ 144 := by
  have : (i : Int) * s ≤ 6 * 24 := Int.mul_le_mul (by omega) hs.2 (by omega) (by omega)
  exact ⟨Int.mul_nonneg (by omega) (by omega), by omega⟩
def dn (a : Int) : Nat → List Int
  | 0 => []
  | n + 1 => a :: dn (a - 1) n
theorem dn_len (a : Int) (n : Nat) : (dn a n).length = n := by
  induction n generalizing a with
  | zero => rfl
  | succ n ih => simp [dn, ih]
theorem dn_snoc (a : Int) (n : Nat) : dn a (n + 1) = dn a n ++ [a - n] := by
  induction n generalizing a with
  | zero => simp [dn]
  | succ n ih =>
    rw [dn, ih (a - 1)]
    simp [dn]
    omega
def sweepA (f : Int) (m : Nat) (w : Bool) : List Int := marks f m ++ (if w = true then [f + m - 1] else [])
def sweepM (f : Int) (m : Nat) (w : Bool) : List Int := sweepA f m w ++ dn (f + m - 2) (m - 2) ++ (if (w && decide (1 < m)) = true then [f] else [])
theorem sweepA_len (f : Int) (m : Nat) (w : Bool) : (sweepA f m w).length ≤ m + 1 := by unfold sweepA; cases w <;> simp [marks_len]
theorem sweepM_len (f : Int) (m : Nat) (w : Bool) : (sweepM f m w).length ≤ 2 * m + 2 := by
  unfold sweepM
  have := sweepA_len f m w
  rw [List.length_append, List.length_append, dn_len]
  split <;> simp <;> omega
def partMany (s g i : Nat) : Nat := if i < s % g then s / g + 1 else s / g
def partWait (s g i : Nat) : Bool := decide (0 < s % g) && decide (s % g ≤ i)
def partsL (s g : Nat) : Nat → Nat → Int → List (List Int)
  | 0, _, _ => []
  | d + 1, i, f => sweepM f (partMany s g i) (partWait s g i) :: partsL s g d (i + 1) (f + partMany s g i)
def partsM (s g : Nat) : List (List Int) := partsL s g g 0 0
theorem partMany_bd {s g i : Nat} (hs : 2 ≤ s ∧ s ≤ 24) (hg : 1 ≤ g ∧ g ≤ 6) (hgs : g ≤ s) : 1 ≤ partMany s g i ∧ partMany s g i ≤ 24 := by
  unfold partMany
  have h1 : 0 < s / g := Nat.div_pos hgs (by omega)
  have h2 : s / g ≤ s := Nat.div_le_self s g
  by_cases c : i < s % g
  · rw [if_pos c]
    have h3 : g ≠ 1 := by intro e; subst e; rw [Nat.mod_one] at c; omega
    have h4 : s / g ≤ s / 2 := Nat.div_le_div_left (by omega) (by omega)
    omega
  · rw [if_neg c]; omega
theorem partsL_len (s g d i : Nat) (f : Int) : (partsL s g d i f).length = d := by
  induction d generalizing i f with
  | zero => rfl
  | succ d ih => simp [partsL, ih]
theorem partsL_mem {s g : Nat} (hs : 2 ≤ s ∧ s ≤ 24) (hg : 1 ≤ g ∧ g ≤ 6) (hgs : g ≤ s) {d i : Nat} {f : Int} {x : List Int} (h : x ∈ partsL s g d i f) : x.length ≤ 50 := by
  induction d generalizing i f with
  | zero => simp [partsL] at h
  | succ d ih =>
    rw [partsL] at h
    rcases List.mem_cons.1 h with rfl | h
    · have := sweepM_len f (partMany s g i) (partWait s g i)
      have := partMany_bd (i := i) hs hg hgs
      omega
    · exact ih h
theorem tdiv_nat (a n : Nat) : Int.tdiv (a : Int) (n : Int) = ((a / n : Nat) : Int) := by
  rw [Int.tdiv_eq_ediv_of_nonneg (by omega)]
  rfl
theorem part_wait {s g i : Nat} (hs : 2 ≤ s ∧ s ≤ 24) (hg : 1 ≤ g ∧ g ≤ 6) : decide ((partMany s g i : Int) < (((s + g - 1) / g : Nat) : Int)) = partWait s g i := by
  unfold partMany partWait
  have hd : (s + g - 1) / g = if 0 < s % g then s / g + 1 else s / g := by
    obtain rfl | rfl | rfl | rfl | rfl | rfl : g = 1 ∨ g = 2 ∨ g = 3 ∨ g = 4 ∨ g = 5 ∨ g = 6 := by omega
    all_goals (split <;> omega)
  rw [hd]
  by_cases c : 0 < s % g
  · by_cases c2 : i < s % g
    · rw [if_pos c, if_pos c2, decide_eq_false (by omega), decide_eq_false (show ¬ s % g ≤ i by omega), Bool.and_false]
    · rw [if_pos c, if_neg c2, decide_eq_true (by omega), decide_eq_true c, decide_eq_true (show s % g ≤ i by omega), Bool.and_true]
  · have : ¬ i < s % g := by omega
    rw [if_neg c, if_neg this, decide_eq_false (by omega), decide_eq_false c, Bool.false_and]
theorem allIn_rdZ {l : List Int} {a b : Int} (h : allIn l a b = true) {i : Int} (h0 : 0 ≤ i) (h1 : i < (l.length : Int)) : a ≤ rd l i ∧ rd l i ≤ b := by
  obtain ⟨n, rfl⟩ := Int.eq_ofNat_of_zero_le h0
  have hn : n < l.length := by omega
  have e := rd_get l n hn
  unfold allIn at h
  have := List.all_eq_true.1 h _ (List.getElem_mem hn)
  rw [inR_iff] at this
  rw [e]
  exact this
def stepW (s : Int) (r : Bool) (p x : Int) : Int := if r = true then Int.tmod (p + x + s) s else if inR (p + x) 0 (s - 1) = true then p + x else p
theorem stepW_bd {s : Int} {r : Bool} {p x : Int} (hs : 2 ≤ s) (hp : 0 ≤ p ∧ p ≤ s - 1) (hx : -1 ≤ x ∧ x ≤ 1) : 0 ≤ stepW s r p x ∧ stepW s r p x ≤ s - 1 := by
  unfold stepW
  by_cases c : r = true
  · rw [if_pos c]
    have h1 := Int.tmod_nonneg s (show 0 ≤ p + x + s by omega)
    have h2 := Int.tmod_lt_of_pos (p + x + s) (show 0 < s by omega)
    omega
  · rw [if_neg c]
    by_cases d : inR (p + x) 0 (s - 1) = true
    · rw [if_pos d]
      exact inR_iff.1 d
    · rw [if_neg d]
      exact hp
theorem stepW_zero {s : Int} {r : Bool} {p : Int} (hs : 2 ≤ s) (hp : 0 ≤ p ∧ p ≤ s - 1) : stepW s r p 0 = p := by
  unfold stepW
  by_cases c : r = true
  · rw [if_pos c, Int.add_zero, Int.tmod_eq_emod_of_nonneg (by omega), Int.add_emod_right, Int.emod_eq_of_lt (by omega) (by omega)]
  · rw [if_neg c, Int.add_zero, if_pos (inR_iff.2 hp)]
/-- A walker's move at a time. -/
def mvW (f d : Int) (l : List Int) (t : Nat) : Int := if d ≤ (t : Int) then f * rd l (Int.tmod ((t : Int) - d) (l.length : Int)) else 0
/-- A walker's place at a time. -/
def atW (s : Int) (r : Bool) (st f d : Int) (l : List Int) : Nat → Int
  | 0 => st
  | t + 1 => stepW s r (atW s r st f d l t) (mvW f d l t)
def walkM (s : Int) (r : Bool) (st f d : Int) (l : List Int) (n : Nat) : List Int := (List.range (n + 1)).map (atW s r st f d l)
theorem walkM_len (s : Int) (r : Bool) (st f d : Int) (l : List Int) (n : Nat) : (walkM s r st f d l n).length = n + 1 := by simp [walkM]
theorem walkM_snoc (s : Int) (r : Bool) (st f d : Int) (l : List Int) (n : Nat) : walkM s r st f d l (n + 1) = walkM s r st f d l n ++ [atW s r st f d l (n + 1)] := by
  unfold walkM
  rw [List.range_succ (n := n + 1)]
  simp
theorem walkM_zero (s : Int) (r : Bool) (st f d : Int) (l : List Int) : walkM s r st f d l 0 = [st] := by simp [walkM, atW]
theorem walkM_rd (s : Int) (r : Bool) (st f d : Int) (l : List Int) (n i : Nat) (h : i ≤ n) : rd (walkM s r st f d l n) (i : Int) = atW s r st f d l i := by
  rw [rd_get _ _ (by rw [walkM_len]; omega)]
  simp [walkM]
/-- The facts of a walker that is valid. -/
theorem walkerOk_bd {s st f d : Int} {l : List Int} (h : walkerOk s st f d l = true) : (0 ≤ st ∧ st ≤ s - 1) ∧ (f = 1 ∨ f = -1) ∧ (0 ≤ d ∧ d ≤ 60) ∧ (1 ≤ (l.length : Int) ∧ (l.length : Int) ≤ 24) ∧ allIn l (-1) 1 = true := by
  unfold walkerOk movesOk at h
  simp only [Bool.and_eq_true, Bool.or_eq_true, decide_eq_true_eq, inR_iff] at h
  exact ⟨h.1.1.1, h.1.1.2, h.1.2, h.2.1, h.2.2⟩
theorem mvW_ix {d : Int} {l : List Int} {t : Nat} (hl : 1 ≤ (l.length : Int)) (c : d ≤ (t : Int)) : 0 ≤ Int.tmod ((t : Int) - d) (l.length : Int) ∧ Int.tmod ((t : Int) - d) (l.length : Int) < (l.length : Int) :=
  ⟨Int.tmod_nonneg _ (by omega), Int.tmod_lt_of_pos _ (by omega)⟩
theorem mvW_bd {f d : Int} {l : List Int} {t : Nat} (hf : f = 1 ∨ f = -1) (hl : 1 ≤ (l.length : Int)) (ha : allIn l (-1) 1 = true) : -1 ≤ mvW f d l t ∧ mvW f d l t ≤ 1 := by
  unfold mvW
  by_cases c : d ≤ (t : Int)
  · rw [if_pos c]
    have hi := mvW_ix hl c
    have := allIn_rdZ ha hi.1 hi.2
    rcases hf with rfl | rfl <;> omega
  · rw [if_neg c]; omega
theorem atW_bd {s : Int} {r : Bool} {st f d : Int} {l : List Int} (hs : 2 ≤ s) (h : walkerOk s st f d l = true) : ∀ t, 0 ≤ atW s r st f d l t ∧ atW s r st f d l t ≤ s - 1
  | 0 => (walkerOk_bd h).1
  | t + 1 => stepW_bd hs (atW_bd hs h t) (mvW_bd (walkerOk_bd h).2.1 (walkerOk_bd h).2.2.2.1.1 (walkerOk_bd h).2.2.2.2)
theorem spec_l2Step_eq (s : Int) (r : Bool) (p x : Int) (hs : 2 ≤ s ∧ s ≤ 24) (hp : 0 ≤ p ∧ p ≤ s - 1) (hx : -1 ≤ x ∧ x ≤ 1) : spec_l2Step.f s r p x = some (stepW s r p x) := by
  unfold spec_l2Step.f stepW
  by_cases c : r = true
  · rw [if_pos c, if_pos c, if_neg (by omega), wrap64_id (x := p + x) (by omega) (by omega), wrap64_id (by omega) (by omega)]
  · rw [if_neg c, if_neg c, wrap64_id (x := p + x) (by omega) (by omega), wrap64_id (by omega) (by omega), spec_l1Least_eq, Option.bind_some, spec_l1Most_eq, Option.bind_some]
    congr 1
    unfold inR lo2 hi2
    by_cases d : 0 ≤ p + x <;> by_cases e : p + x ≤ s - 1 <;> simp [d, e] <;> (repeat' split) <;> omega
theorem spec_l4Walk_l0 (s : Int) (r : Bool) (st f d : Int) (l : List Int) (n : Nat) (hs : 2 ≤ s ∧ s ≤ 24) (h : walkerOk s st f d l = true) (hn : n ≤ 1000) : ∀ (e t k : Nat), t + e = n → e < k →
    spec_l4Walk.l0 k (n : Int) (walkM s r st f d l t) (atW s r st f d l t) (t : Int) s r st f d l = some (walkM s r st f d l n)
  | 0, t, k, he, hk => by
    obtain ⟨k, rfl⟩ := succ_of (k := k) (by omega)
    simp only [spec_l4Walk.l0]
    rw [if_neg (by omega), show t = n by omega]
  | e + 1, t, k, he, hk => by
    obtain ⟨k, rfl⟩ := succ_of (k := k) (by omega)
    have hb := walkerOk_bd h
    have hp := atW_bd (r := r) hs.1 h t
    have hm := mvW_bd (t := t) (d := d) hb.2.1 hb.2.2.2.1.1 hb.2.2.2.2
    have ih := spec_l4Walk_l0 s r st f d l n hs h hn e (t + 1) k (by omega) (by omega)
    rw [walkM_snoc] at ih
    have hlen : (walkM s r st f d l t).length < 17592186044416 := by rw [walkM_len]; omega
    simp only [spec_l4Walk.l0]
    rw [if_pos (by omega), wrap_succ (n := n) (by omega) (by omega)]
    by_cases c : d ≤ (t : Int)
    · have hi := mvW_ix hb.2.2.2.1.1 c
      have em : mvW f d l t = f * rd l (Int.tmod ((t : Int) - d) (l.length : Int)) := by unfold mvW; rw [if_pos c]
      rw [if_pos (by omega), wrap64_id (x := (t : Int) - d) (by omega) (by omega), if_neg (by omega), if_pos hi.1, if_pos hi.2]
      by_cases z : rd l (Int.tmod ((t : Int) - d) (l.length : Int)) = 0
      · have ez : atW s r st f d l (t + 1) = atW s r st f d l t := by
          show stepW s r _ (mvW f d l t) = _
          rw [em, z, Int.mul_zero, stepW_zero hs.1 hp]
        rw [if_pos z, if_pos hlen]
        rw [ez] at ih
        exact ih
      · rw [if_neg z, Int.mul_comm, ← em, wrap64_id (x := mvW f d l t) (by omega) (by omega), spec_l2Step_eq s r _ _ hs hp hm, Option.bind_some, if_pos hlen]
        exact ih
    · have ez : atW s r st f d l (t + 1) = atW s r st f d l t := by
        show stepW s r _ (mvW f d l t) = _
        unfold mvW
        rw [if_neg c, stepW_zero hs.1 hp]
      rw [if_neg (by omega), if_pos hlen]
      rw [ez] at ih
      exact ih
theorem spec_l4Walk_eq (k : Nat) (s : Int) (r : Bool) (st f d : Int) (l : List Int) (n : Int) (hs : 2 ≤ s ∧ s ≤ 24) (h : walkerOk s st f d l = true) (hn : 0 ≤ n ∧ n ≤ 1000) (hk : n.toNat < k) :
    spec_l4Walk.f k s r st f d l n = some (walkM s r st f d l n.toNat) := by
  unfold spec_l4Walk.f
  have := spec_l4Walk_l0 s r st f d l n.toNat hs h (by omega) n.toNat 0 k (by omega) hk
  rw [Int.toNat_of_nonneg hn.1, walkM_zero] at this
  exact this
theorem impl_Road_walk_l0 (s : Int) (r : Bool) (st f d : Int) (l : List Int) (n : Nat) (hr : road s r = true) (h : walkerOk s st f d l = true) (hn : n ≤ 1000) : ∀ (e t k : Nat), t + e = n → e + 2 < k →
    impl_Road_walk.l0 k (walkM s r st f d l t) (atW s r st f d l t) (n : Int) (t : Int) s r st f d l = some (walkM s r st f d l n)
  | 0, t, k, he, hk => by
    obtain ⟨k, rfl⟩ := succ_of (k := k) (by omega)
    simp only [impl_Road_walk.l0]
    rw [if_neg (by omega), show t = n by omega]
  | e + 1, t, k, he, hk => by
    obtain ⟨k, rfl⟩ := succ_of (k := k) (by omega)
    have hs := road_bd hr
    have hb := walkerOk_bd h
    have hp := atW_bd (r := r) hs.1 h t
    have hm := mvW_bd (t := t) (d := d) hb.2.1 hb.2.2.2.1.1 hb.2.2.2.2
    have ih := impl_Road_walk_l0 s r st f d l n hr h hn e (t + 1) k (by omega) (by omega)
    rw [walkM_snoc] at ih
    have hlen : (walkM s r st f d l t).length < 17592186044416 := by rw [walkM_len]; omega
    have hq := atW_bd (r := r) hs.1 h (t + 1)
    simp only [impl_Road_walk.l0]
    rw [if_pos (by omega), wrap_succ (n := n) (by omega) (by omega)]
    by_cases c : d ≤ (t : Int)
    · have hi := mvW_ix hb.2.2.2.1.1 c
      have em : mvW f d l t = f * rd l (Int.tmod ((t : Int) - d) (l.length : Int)) := by unfold mvW; rw [if_pos c]
      rw [if_pos (by omega), wrap64_id (x := (t : Int) - d) (by omega) (by omega), if_neg (by omega), if_pos hi.1, if_pos hi.2]
      simp only [← em, wrap64_id (x := mvW f d l t) (by omega) (by omega), wrap64_id (x := atW s r st f d l t + mvW f d l t) (by omega) (by omega)]
      by_cases z : r = true
      · have ez : atW s r st f d l (t + 1) = Int.tmod (atW s r st f d l t + mvW f d l t + s) s := by
          show stepW s r _ (mvW f d l t) = _
          unfold stepW
          rw [if_pos z]
        rw [if_pos z, if_neg (by omega), wrap64_id (by omega) (by omega), ← ez, impl_Road_has1 k s r _ hr (by omega), inR_iff.2 hq, Option.bind_some, if_pos rfl, if_pos hlen]
        exact ih
      · rw [if_neg z, impl_Road_has1 k s r _ hr (by omega), Option.bind_some]
        have ez : atW s r st f d l (t + 1) = if inR (atW s r st f d l t + mvW f d l t) 0 (s - 1) = true then atW s r st f d l t + mvW f d l t else atW s r st f d l t := by
          show stepW s r _ (mvW f d l t) = _
          unfold stepW
          rw [if_neg z]
        rw [ez] at ih
        by_cases y : inR (atW s r st f d l t + mvW f d l t) 0 (s - 1) = true
        · rw [if_pos y] at ih ⊢
          rw [if_pos hlen]
          exact ih
        · rw [if_neg y] at ih ⊢
          rw [if_pos hlen]
          exact ih
    · have ez : atW s r st f d l (t + 1) = atW s r st f d l t := by
        show stepW s r _ (mvW f d l t) = _
        unfold mvW
        rw [if_neg c, stepW_zero hs.1 hp]
      rw [if_neg (by omega), if_pos hlen]
      rw [ez] at ih
      exact ih
theorem impl_Road_walk_eq (k : Nat) (s : Int) (r : Bool) (st f d : Int) (l : List Int) (n : Int) (hr : road s r = true) (h : walkerOk s st f d l = true) (hn : 0 ≤ n ∧ n ≤ 1000) (hk : n.toNat + 2 < k) :
    impl_Road_walk.f k s r st f d l n = some (walkM s r st f d l n.toNat) := by
  unfold impl_Road_walk.f
  have := impl_Road_walk_l0 s r st f d l n.toNat hr h (by omega) n.toNat 0 k (by omega) hk
  rw [Int.toNat_of_nonneg hn.1, walkM_zero] at this
  exact this
/-- The first time, from t on and d times long, at which all walks are at one place, or -1. -/
def meetF (ws : List (List Int)) : Nat → Nat → Int
  | 0, _ => -1
  | d + 1, t => if (ws.all fun w => rd w (t : Int) == rd (ws.headD []) (t : Int)) = true then (t : Int) else meetF ws d (t + 1)
theorem meetF_succ (ws : List (List Int)) (d t : Nat) : meetF ws (d + 1) t = if (ws.all fun w => rd w (t : Int) == rd (ws.headD []) (t : Int)) = true then (t : Int) else meetF ws d (t + 1) := rfl
theorem meetF_bd (ws : List (List Int)) : ∀ d t, meetF ws d t = -1 ∨ ((t : Int) ≤ meetF ws d t ∧ meetF ws d t < (t : Int) + d)
  | 0, t => .inl rfl
  | d + 1, t => by
    unfold meetF
    split
    · right; omega
    · rcases meetF_bd ws d (t + 1) with h | h
      · exact .inl h
      · right; omega
theorem rdLL_get (ws : List (List Int)) (i : Nat) (h : i < ws.length) : rd_L1 ws (i : Int) = ws[i] := by
  unfold rd_L1
  simp [List.getD_eq_getElem?_getD, List.getElem?_eq_getElem h]
theorem drop_rdLL (ws : List (List Int)) (i : Nat) (h : i < ws.length) : ws.drop i = rd_L1 ws (i : Int) :: ws.drop (i + 1) := by
  rw [List.drop_eq_getElem_cons h, rdLL_get ws i h]
theorem rdLL_head (ws : List (List Int)) : rd_L1 ws 0 = ws.headD [] := by unfold rd_L1; cases ws <;> simp
theorem spec_l4Meet_l1 (ws : List (List Int)) (hn : ws.length ≤ 1000) (h0 : 0 < ws.length) (hw : ∀ w ∈ ws, w.length = 61) (t : Nat) (ht : t ≤ 60) : ∀ (d i k : Nat) (b : Bool), i + d = ws.length →
    spec_l4Meet.l1 (k + d + 1) ws (t : Int) b (i : Int) = if (b && (ws.drop i).all fun w => rd w (t : Int) == rd (ws.headD []) (t : Int)) = true then some (t : Int) else spec_l4Meet.l0 k ws ((t + 1 : Nat) : Int)
  | 0, i, k, b, hi => by
    simp only [spec_l4Meet.l1]
    rw [if_neg (by omega), drop_end ws i (by omega), wrap64_id (by omega) (by omega)]
    cases b <;> simp
  | d + 1, i, k, b, hi => by
    have ih := spec_l4Meet_l1 ws hn h0 hw t ht d (i + 1) k
    have hi' : i < ws.length := by omega
    have e1 : (rd_L1 ws (i : Int)).length = 61 := by rw [rdLL_get ws i hi']; exact hw _ (List.getElem_mem hi')
    have e2 : (rd_L1 ws 0).length = 61 := by
      have := rdLL_get ws 0 h0
      rw [show ((0 : Nat) : Int) = 0 from rfl] at this
      rw [this]; exact hw _ (List.getElem_mem h0)
    show spec_l4Meet.l1 ((k + d + 1) + 1) ws (t : Int) b (i : Int) = _
    generalize k + d + 1 = m at ih ⊢
    simp only [spec_l4Meet.l1]
    rw [if_pos (by omega), drop_rdLL ws i hi', List.all_cons, wrap_succ (n := ws.length) hi' (by omega)]
    cases b with
    | true =>
      rw [if_pos rfl, if_pos (by omega), if_pos (by omega), if_pos (by omega), if_pos (by omega), if_pos (by omega), ih _ (by omega), rdLL_head, Bool.true_and]
    | false =>
      rw [if_neg (by simp), ih _ (by omega)]
      simp
theorem spec_l4Meet_l0 (ws : List (List Int)) (hn : ws.length ≤ 1000) (h0 : 0 < ws.length) (hw : ∀ w ∈ ws, w.length = 61) : ∀ (d t k : Nat), t + d = 61 →
    spec_l4Meet.l0 (k + d * (ws.length + 1) + 1) ws (t : Int) = some (meetF ws d t)
  | 0, t, k, h => by
    simp only [spec_l4Meet.l0]
    rw [if_neg (by omega)]
    rfl
  | d + 1, t, k, h => by
    have ih := spec_l4Meet_l0 ws hn h0 hw d (t + 1) k (by omega)
    simp only [spec_l4Meet.l0]
    rw [if_pos (by omega)]
    have e : k + (d + 1) * (ws.length + 1) = (k + d * (ws.length + 1) + 1) + (ws.length - 1) + 1 := by rw [Nat.succ_mul]; omega
    rw [e]
    have := spec_l4Meet_l1 ws hn h0 hw t (by omega) (ws.length - 1) 1 (k + d * (ws.length + 1) + 1) true (by omega)
    rw [show (1 : Int) = ((1 : Nat) : Int) from rfl, this, ih, Bool.true_and]
    rw [meetF_succ]
    have hh : (ws.all fun w => rd w (t : Int) == rd (ws.headD []) (t : Int)) = ((ws.drop 1).all fun w => rd w (t : Int) == rd (ws.headD []) (t : Int)) := by
      cases ws with
      | nil => simp at h0
      | cons x xs => simp
    rw [hh]
    split <;> rfl
theorem spec_l4Meet_eq (k : Nat) (ws : List (List Int)) (hn : ws.length ≤ 1000) (h0 : 0 < ws.length) (hw : ∀ w ∈ ws, w.length = 61) (hk : 61 * (ws.length + 1) < k) : spec_l4Meet.f k ws = some (meetF ws 61 0) := by
  unfold spec_l4Meet.f
  have := spec_l4Meet_l0 ws hn h0 hw 61 0 (k - (61 * (ws.length + 1) + 1)) rfl
  rw [show k - (61 * (ws.length + 1) + 1) + 61 * (ws.length + 1) + 1 = k by omega] at this
  exact this
open Go.Proofs.Ythgbkekfekcfaaa.Own in
theorem anyO_eqT {α : Type} {q : α → Option Bool} {p : α → Bool} : ∀ {l : List α}, (∀ x ∈ l, q x = some (p x)) → anyO q l = some (l.any p)
  | [], _ => rfl
  | x :: t, h => by
    simp only [anyO]
    rw [h x (List.mem_cons_self ..), Option.bind_some, anyO_eqT (fun y hy => h y (List.mem_cons_of_mem _ hy)), List.any_cons]
    cases p x <;> simp
theorem togO_eq (ws : List (List Int)) (hw : ∀ w ∈ ws, w.length = 61) (row : List Int) (hrow : row = ws.headD []) (hlen : row.length = 61) : ∀ (d t : Nat), t + d = 61 → togO ws (row.drop t) t = some (meetF ws d t)
  | 0, t, h => by
    rw [drop_end row t (by omega)]
    rfl
  | d + 1, t, h => by
    rw [drop_rd row t (by omega)]
    simp only [togO]
    rw [anyO_eqT (p := fun w => rd w (t : Int) != rd row (t : Int)) (fun w hm => by unfold togQ; rw [if_pos (by rw [hw w hm]; omega)]), Option.bind_some, togO_eq ws hw row hrow hlen d (t + 1) (by omega)]
    rw [meetF_succ]
    rw [← hrow]
    have e : (ws.any fun w => rd w (t : Int) != rd row (t : Int)) = !(ws.all fun w => rd w (t : Int) == rd row (t : Int)) := by
      rw [List.all_eq_not_any_not]
      simp [bne]
    rw [e]
    cases (ws.all fun w => rd w (t : Int) == rd row (t : Int)) <;> simp
theorem impl_together_eq (k : Nat) (ws : List (List Int)) (h0 : 0 < ws.length) (hw : ∀ w ∈ ws, w.length = 61) : impl_together.f k ws = some (meetF ws 61 0) := by
  unfold impl_together.f
  rw [if_pos (by omega)]
  have e0 : rd_L1 ws 0 = ws.headD [] := by unfold rd_L1; cases ws <;> simp
  have e1 : (ws.headD []).length = 61 := by
    cases ws with
    | nil => simp at h0
    | cons x xs => exact hw x (List.mem_cons_self ..)
  rw [e0]
  have := togO_eq ws hw _ rfl e1 61 0 rfl
  simpa using this
/-- From place i on, d places long: each is at most one away from the one ahead of it. -/
def chnM (s : Int) (r : Bool) (l : List Int) : Nat → Nat → Bool
  | _, 0 => true
  | i, d + 1 => decide (gapM s r (rd l ((i : Int) - 1)) (rd l (i : Int)) ≤ 1) && chnM s r l (i + 1) d
theorem chnM_succ (s : Int) (r : Bool) (l : List Int) (i d : Nat) : chnM s r l i (d + 1) = (decide (gapM s r (rd l ((i : Int) - 1)) (rd l (i : Int)) ≤ 1) && chnM s r l (i + 1) d) := rfl
def walkOkM (s : Int) (r : Bool) (l : List Int) : Bool := inR (l.length : Int) 1 61 && allIn l 0 (s - 1) && chnM s r l 1 (l.length - 1)
def leaversOk (s : Int) (r : Bool) (ls : List (List Int)) : Bool := inR (ls.length : Int) 1 4 && ls.all (walkOkM s r)
/-- The place of the first x in a list whose places begin with i, or -1. -/
def firstM (x : Int) : List Int → Nat → Int
  | [], _ => -1
  | y :: t, i => if y = x then (i : Int) else firstM x t (i + 1)
theorem firstM_bd (x : Int) : ∀ (l : List Int) (i : Nat), firstM x l i = -1 ∨ ((i : Int) ≤ firstM x l i ∧ firstM x l i < (i : Int) + l.length)
  | [], i => .inl rfl
  | y :: t, i => by
    simp only [firstM, List.length_cons]
    split
    · right; omega
    · rcases firstM_bd x t (i + 1) with h | h
      · exact .inl h
      · right; omega
theorem slices_Index_l0 (x : Int) (l : List Int) (hl : l.length ≤ 9223372036854775807) : ∀ (d i k : Nat), i + d = l.length → d < k → slices_Index_int_int.l0 k l x (l.length : Int) (i : Int) = some (firstM x (l.drop i) i)
  | 0, i, k, h, hk => by
    obtain ⟨k, rfl⟩ := succ_of (k := k) (by omega)
    simp only [slices_Index_int_int.l0]
    rw [if_neg (by omega), drop_end l i (by omega)]
    rfl
  | d + 1, i, k, h, hk => by
    obtain ⟨k, rfl⟩ := succ_of (k := k) (by omega)
    simp only [slices_Index_int_int.l0]
    rw [if_pos (by omega), if_pos (by omega), if_pos (by omega), wrap_succ (n := l.length) (by omega) hl, slices_Index_l0 x l hl d (i + 1) k (by omega) (by omega), drop_rd l i (by omega)]
    simp only [firstM]
    by_cases c : x = rd l (i : Int)
    · rw [if_pos c, if_pos c.symm]
    · rw [if_neg c, if_neg (fun h => c h.symm)]
theorem slices_Index_eq (k : Nat) (x : Int) (l : List Int) (hl : l.length ≤ 9223372036854775807) (hk : l.length < k) : slices_Index_int_int.f k l x = some (firstM x l 0) := by
  unfold slices_Index_int_int.f
  exact slices_Index_l0 x l hl l.length 0 k (by omega) hk
/-- The better of the time held and a list's first. -/
def betM (x b : Int) (l : List Int) : Int := if 0 ≤ firstM x l 0 ∧ (b < 0 ∨ firstM x l 0 < b) then firstM x l 0 else b
def bestM (x : Int) (b : Int) (ls : List (List Int)) : Int := ls.foldl (betM x) b
/-- The place at a time; the last one where the list has ended. -/
def atM (l : List Int) (t : Int) : Int := rd l (if (l.length : Int) - 1 < t then (l.length : Int) - 1 else t)
def farM (s : Int) (r : Bool) (x t : Int) (m : Int) (ls : List (List Int)) : Int := ls.foldl (fun m l => if m < gapM s r (atM l t) x then gapM s r (atM l t) x else m) m
def leaveM (s : Int) (r : Bool) (ls : List (List Int)) (x : Int) : Int := if bestM x (-1) ls < 0 then -1 else bestM x (-1) ls + farM s r x (bestM x (-1) ls) 0 ls
theorem betM_bd (x b : Int) (l : List Int) (n : Int) (hl : (l.length : Int) ≤ n) (hb : -1 ≤ b ∧ b ≤ n) : -1 ≤ betM x b l ∧ betM x b l ≤ n := by
  unfold betM
  have := firstM_bd x l 0
  split <;> omega
theorem bestM_bd (x : Int) (n : Int) : ∀ (ls : List (List Int)) (b : Int), (∀ l ∈ ls, (l.length : Int) ≤ n) → -1 ≤ b ∧ b ≤ n → -1 ≤ bestM x b ls ∧ bestM x b ls ≤ n
  | [], b, _, hb => hb
  | l :: t, b, h, hb => bestM_bd x n t _ (fun y hy => h y (List.mem_cons_of_mem _ hy)) (betM_bd x b l n (h l (List.mem_cons_self ..)) hb)
theorem atM_bd {s : Int} {l : List Int} {t : Int} (hl : 1 ≤ l.length) (ha : allIn l 0 (s - 1) = true) (ht : 0 ≤ t) : 0 ≤ atM l t ∧ atM l t ≤ s - 1 := by
  unfold atM
  have : ∃ n : Nat, n < l.length ∧ (if (l.length : Int) - 1 < t then (l.length : Int) - 1 else t) = (n : Int) := by
    by_cases c : (l.length : Int) - 1 < t
    · exact ⟨l.length - 1, by omega, by rw [if_pos c]; omega⟩
    · exact ⟨t.toNat, by omega, by rw [if_neg c]; omega⟩
  obtain ⟨n, hn, e⟩ := this
  rw [e]
  exact rd_bd ha n hn
theorem farM_bd (s : Int) (r : Bool) (x t n : Int) : ∀ (ls : List (List Int)) (m : Int), (∀ l ∈ ls, gapM s r (atM l t) x ≤ n) → m ≤ n → m ≤ farM s r x t m ls ∧ farM s r x t m ls ≤ n
  | [], m, _, hm => ⟨Int.le_refl _, hm⟩
  | l :: q, m, h, hm => by
    have hl := h l (List.mem_cons_self ..)
    have := farM_bd s r x t n q (if m < gapM s r (atM l t) x then gapM s r (atM l t) x else m) (fun y hy => h y (List.mem_cons_of_mem _ hy)) (by split <;> omega)
    refine ⟨?_, this.2⟩
    refine Int.le_trans ?_ this.1
    split <;> omega
def leavesM (s : Int) (r : Bool) (ls : List (List Int)) (n : Nat) : List Int := (List.range n).map fun (i : Nat) => leaveM s r ls (i : Int)
theorem leavesM_snoc (s : Int) (r : Bool) (ls : List (List Int)) (n : Nat) : leavesM s r ls (n + 1) = leavesM s r ls n ++ [leaveM s r ls (n : Int)] := by unfold leavesM; rw [List.range_succ]; simp
theorem leavesM_len (s : Int) (r : Bool) (ls : List (List Int)) (n : Nat) : (leavesM s r ls n).length = n := by simp [leavesM]
def worstM (L : List Int) : Int × Bool := if (L.any fun x => decide (x < 0)) = true then (0, false) else (L.foldl mx 0, true)
/-- A place is visited at a time by one of some rounds; the times from t on, d of them, at which it is. -/
def visQM (ls : List (List Int)) (p : Int) (t : Nat) : Bool := ls.any (fun l => rd l (t : Int) == p)
def visM (ls : List (List Int)) (p : Int) : Nat → Nat → List Int
  | 0, _ => []
  | d + 1, t => if visQM ls p t = true then (t : Int) :: visM ls p d (t + 1) else visM ls p d (t + 1)
theorem visM_succ (ls : List (List Int)) (p : Int) (d t : Nat) : visM ls p (d + 1) t = if visQM ls p t = true then (t : Int) :: visM ls p d (t + 1) else visM ls p d (t + 1) := rfl
theorem visM_len (ls : List (List Int)) (p : Int) : ∀ d t, (visM ls p d t).length ≤ d
  | 0, _ => by simp [visM]
  | d + 1, t => by
    rw [visM_succ]
    have := visM_len ls p d (t + 1)
    split
    · rw [List.length_cons]; omega
    · omega
theorem patrolOk_bd {s : Int} {r : Bool} {ls : List (List Int)} (h : patrolOk s r ls = true) : (1 ≤ ls.length ∧ ls.length ≤ 6) ∧ (1 ≤ (ls.headD []).length ∧ (ls.headD []).length ≤ 60) ∧ ∀ l ∈ ls, l.length = (ls.headD []).length ∧ roundOk s r l = true := by
  unfold patrolOk at h
  rw [Bool.and_eq_true, Bool.and_eq_true, List.all_eq_true] at h
  have h1 := inR_iff.1 h.1.1
  have h2 := inR_iff.1 h.1.2
  refine ⟨⟨by omega, by omega⟩, ⟨by omega, by omega⟩, fun l hl => ?_⟩
  have := h.2 l hl
  rw [Bool.and_eq_true, decide_eq_true_eq] at this
  exact this
/-- The time between a visit and the next one; the greatest of them from the i-th on; the idle times of places. -/
def gapT (L : Nat) (T : List Int) (i : Nat) : Int := (if i + 1 < T.length then rd T ((i + 1 : Nat) : Int) else (L : Int) + rd T 0) - rd T (i : Int)
def idleF (L : Nat) (T : List Int) : Nat → Nat → Int → Int
  | 0, _, m => m
  | d + 1, i, m => idleF L T d (i + 1) (mx m (gapT L T i))
theorem idleF_succ (L : Nat) (T : List Int) (d i : Nat) (m : Int) : idleF L T (d + 1) i m = idleF L T d (i + 1) (mx m (gapT L T i)) := rfl
def idleM (ls : List (List Int)) (L : Nat) (p : Nat) : Int := idleF L (visM ls (p : Int) L 0) (visM ls (p : Int) L 0).length 0 (-1)
def idlesM (ls : List (List Int)) (L : Nat) : Nat → Nat → List Int
  | 0, _ => []
  | d + 1, p => idleM ls L p :: idlesM ls L d (p + 1)
theorem idlesM_len (ls : List (List Int)) (L : Nat) : ∀ d p, (idlesM ls L d p).length = d
  | 0, _ => rfl
  | d + 1, p => by simp [idlesM, idlesM_len ls L d (p + 1)]
theorem visM_bd (ls : List (List Int)) (p : Int) : ∀ d t, ∀ x ∈ visM ls p d t, (t : Int) ≤ x ∧ x < (t : Int) + d
  | 0, t => by simp [visM]
  | d + 1, t => by
    intro x hx
    rw [visM_succ] at hx
    have ih := visM_bd ls p d (t + 1)
    split at hx
    · rcases List.mem_cons.1 hx with rfl | hx
      · omega
      · have := ih x hx; omega
    · have := ih x hx; omega
theorem rdT_bd {L : Nat} {T : List Int} (hT : ∀ x ∈ T, 0 ≤ x ∧ x < (L : Int)) (i : Nat) (hi : i < T.length) : 0 ≤ rd T (i : Int) ∧ rd T (i : Int) < (L : Int) := by
  rw [rd_get T i hi]
  exact hT _ (List.getElem_mem hi)
theorem gapT_bd {L : Nat} {T : List Int} (hT : ∀ x ∈ T, 0 ≤ x ∧ x < (L : Int)) (i : Nat) (hi : i < T.length) : -(L : Int) ≤ gapT L T i ∧ gapT L T i ≤ 2 * (L : Int) := by
  have h1 := rdT_bd hT i hi
  have h2 := rdT_bd hT 0 (by omega)
  rw [Int.natCast_zero] at h2
  unfold gapT
  split
  · rename_i h
    have h3 := rdT_bd hT (i + 1) h
    omega
  · omega
theorem mx_bd (a b : Int) : a ≤ mx a b ∧ b ≤ mx a b ∧ (mx a b = a ∨ mx a b = b) := by unfold mx; split <;> omega
theorem idleF_bd {L : Nat} {T : List Int} (hT : ∀ x ∈ T, 0 ≤ x ∧ x < (L : Int)) : ∀ (d i : Nat) (m : Int), i + d = T.length → m ≤ 2 * (L : Int) → m ≤ idleF L T d i m ∧ idleF L T d i m ≤ 2 * (L : Int)
  | 0, i, m, _, hm => ⟨Int.le_refl _, hm⟩
  | d + 1, i, m, h, hm => by
    have h1 := gapT_bd hT i (by omega)
    have h2 := mx_bd m (gapT L T i)
    have := idleF_bd hT d (i + 1) (mx m (gapT L T i)) (by omega) (by omega)
    rw [idleF_succ]
    omega
theorem visM_T (ls : List (List Int)) (p : Int) (L : Nat) : ∀ x ∈ visM ls p L 0, 0 ≤ x ∧ x < (L : Int) := fun x hx => by have := visM_bd ls p L 0 x hx; omega
theorem idleM_bd (ls : List (List Int)) (L p : Nat) : -1 ≤ idleM ls L p ∧ idleM ls L p ≤ 2 * (L : Int) := by
  have := idleF_bd (visM_T ls (p : Int) L) (visM ls (p : Int) L 0).length 0 (-1) (by omega) (by omega)
  exact this
theorem hi2_mx5 (a b : Int) : (if b < a then a else b) = mx a b := by unfold mx; split <;> split <;> omega
/-- The greatest of some numbers, or -1 if one is less than 0. -/
def pauseM (T : List Int) : Int := if (T.any fun x => decide (x < 0)) = true then -1 else T.foldl mx 0
theorem foldl_mx_le (T : List Int) : ∀ m : Int, m ≤ T.foldl mx m := by
  induction T with
  | nil => intro m; simp
  | cons x t ih => intro m; have := ih (mx m x); have := mx_bd m x; rw [List.foldl_cons]; omega
theorem pauseM_pos {T : List Int} (h : (T.any fun x => decide (x < 0)) = false) : 0 ≤ pauseM T := by
  unfold pauseM
  rw [h, if_neg (by simp)]
  exact foldl_mx_le T 0
theorem idlesM_bd (ls : List (List Int)) (L : Nat) : ∀ d p, ∀ x ∈ idlesM ls L d p, -1 ≤ x ∧ x ≤ 2 * (L : Int)
  | 0, _ => by simp [idlesM]
  | d + 1, p => by
    intro x hx
    rcases List.mem_cons.1 hx with rfl | hx
    · exact idleM_bd ls L p
    · exact idlesM_bd ls L d (p + 1) x hx
theorem idlesM_neg (ls : List (List Int)) (L d p : Nat) : ((idlesM ls L d p).any fun y => decide (y = -1)) = ((idlesM ls L d p).any fun y => decide (y < 0)) := by
  rw [Bool.eq_iff_iff]
  simp only [List.any_eq_true, decide_eq_true_eq]
  constructor
  · rintro ⟨y, hy, rfl⟩; exact ⟨-1, hy, by omega⟩
  · rintro ⟨y, hy, h⟩; exact ⟨y, hy, by have := idlesM_bd ls L d p y hy; omega⟩
theorem slices_Max_pause (k : Nat) (T : List Int) (h0 : 0 < T.length) (h : (T.any fun x => decide (x < 0)) = false) : slices_Max_int_int.f k T = some (pauseM T) := by
  unfold slices_Max_int_int.f pauseM
  rw [if_pos (by omega), h, if_neg (by simp)]
  congr 1
  cases T with
  | nil => simp at h0
  | cons x t =>
    simp only [List.any_cons, Bool.or_eq_false_iff, decide_eq_false_iff_not] at h
    have e2 : mx 0 x = x := by unfold mx; split <;> omega
    simp only [List.foldl_cons, e2, List.drop_succ_cons, List.drop_zero]
    rfl
/-- The patrol of g guards; its pause. -/
def patM (s : Nat) (r : Bool) (g : Nat) : List (List Int) := if r = true then ringM (s : Int) g g else partsM s g
def pzM (s : Nat) (r : Bool) (g : Nat) : Int := pauseM (idlesM (patM s r g) ((patM s r g).headD []).length s 0)
def patChk (s : Nat) (r : Bool) (g : Nat) : Bool := decide (0 < (patM s r g).length) && decide ((patM s r g).length ≤ 6) && decide (((patM s r g).headD []).length ≤ 60) && (patM s r g).all (fun l => l.length == ((patM s r g).headD []).length) && (List.range s).all (fun p => (patM s r g).any fun l => l.any (fun x => x == (p : Int)))
theorem patChk_all : ((List.range' 2 23).all fun s => (List.range' 1 6).all fun g => [true, false].all fun r => !(r || decide (g ≤ s)) || patChk s r g) = true := by decide +kernel
theorem pzM_all : ((List.range' 2 5).all fun s => [true, false].all fun r => !(!r || decide (3 ≤ s)) || decide (pzM s r s ≤ 1)) = true := by decide +kernel
theorem patChk_of {s g : Nat} {r : Bool} (hs : 2 ≤ s ∧ s ≤ 24) (hg : 1 ≤ g ∧ g ≤ 6) (h : r = true ∨ g ≤ s) : patChk s r g = true := by
  have h1 := List.all_eq_true.1 patChk_all s (List.mem_range'_1.2 (by omega))
  have h2 := List.all_eq_true.1 h1 g (List.mem_range'_1.2 (by omega))
  have h3 := List.all_eq_true.1 h2 r (by cases r <;> simp)
  have e : (r || decide (g ≤ s)) = true := by rcases h with rfl | h <;> simp [*]
  rw [e] at h3
  simpa using h3
theorem pzM_of {s : Nat} {r : Bool} (hs : 2 ≤ s ∧ s ≤ 6) (h : r = true → 3 ≤ s) : pzM s r s ≤ 1 := by
  have h1 := List.all_eq_true.1 pzM_all s (List.mem_range'_1.2 (by omega))
  have h3 := List.all_eq_true.1 h1 r (by cases r <;> simp)
  have e : (!r || decide (3 ≤ s)) = true := by
    cases r with
    | true => simpa using h rfl
    | false => rfl
  rw [e] at h3
  simpa using h3
theorem visM_ne (ls : List (List Int)) (p : Int) : ∀ (d t i : Nat), t ≤ i → i < t + d → visQM ls p i = true → 0 < (visM ls p d t).length
  | 0, t, i, h1, h2, _ => by omega
  | d + 1, t, i, h1, h2, hq => by
    rw [visM_succ]
    by_cases c : visQM ls p t = true
    · rw [if_pos c]; simp
    · rw [if_neg c]
      by_cases e : i = t
      · subst e; exact absurd hq c
      · exact visM_ne ls p d (t + 1) i (by omega) (by omega) hq
theorem idleF_ge {L : Nat} {T : List Int} (hT : ∀ x ∈ T, 0 ≤ x ∧ x < (L : Int)) : ∀ (d i : Nat) (m : Int), i + d = T.length → 0 < d → 1 ≤ idleF L T d i m
  | 0, _, _, _, h => by omega
  | 1, i, m, h, _ => by
    have h1 := rdT_bd hT i (by omega)
    have h2 := rdT_bd hT 0 (by omega)
    rw [Int.natCast_zero] at h2
    have h3 := mx_bd m (gapT L T i)
    have hg : gapT L T i = (L : Int) + rd T 0 - rd T (i : Int) := by unfold gapT; rw [if_neg (by omega)]
    show 1 ≤ mx m (gapT L T i)
    omega
  | d + 2, i, m, h, _ => by
    rw [idleF_succ]
    exact idleF_ge hT (d + 1) (i + 1) _ (by omega) (by omega)
theorem idles_pos {ls : List (List Int)} {L s : Nat} (hw : ∀ l ∈ ls, l.length = L) (hv : (List.range s).all (fun p => ls.any fun l => l.any (fun x => x == (p : Int))) = true) : ∀ d p, p + d = s → ((idlesM ls L d p).any fun x => decide (x < 0)) = false
  | 0, _, _ => rfl
  | d + 1, p, h => by
    have h1 := List.all_eq_true.1 hv p (List.mem_range.2 (by omega))
    obtain ⟨l, hl, h2⟩ := List.any_eq_true.1 h1
    obtain ⟨x, hx, h3⟩ := List.any_eq_true.1 h2
    obtain ⟨i, hi, rfl⟩ := List.mem_iff_getElem.1 hx
    have hL := hw l hl
    have hq : visQM ls (p : Int) i = true := by
      unfold visQM
      exact List.any_eq_true.2 ⟨l, hl, by rw [rd_get l i hi]; exact h3⟩
    have hn := visM_ne ls (p : Int) L 0 i (by omega) (by omega) hq
    have h4 := idleF_ge (visM_T ls (p : Int) L) (visM ls (p : Int) L 0).length 0 (-1) (by omega) hn
    have h5 := idles_pos hw hv d (p + 1) (by omega)
    have e : idlesM ls L (d + 1) p = idleM ls L p :: idlesM ls L d (p + 1) := rfl
    rw [e, List.any_cons, h5]
    have h6 : 1 ≤ idleM ls L p := h4
    simp; omega
theorem patM_facts {s g : Nat} {r : Bool} (hs : 2 ≤ s ∧ s ≤ 24) (hg : 1 ≤ g ∧ g ≤ 6) (h : r = true ∨ g ≤ s) : (0 < (patM s r g).length ∧ (patM s r g).length ≤ 6) ∧ ((patM s r g).headD []).length ≤ 60 ∧ (∀ l ∈ patM s r g, l.length = ((patM s r g).headD []).length) ∧ ((idlesM (patM s r g) ((patM s r g).headD []).length s 0).any fun x => decide (x < 0)) = false := by
  have hc := patChk_of hs hg h
  unfold patChk at hc
  simp only [Bool.and_eq_true, decide_eq_true_eq] at hc
  obtain ⟨⟨⟨⟨h1, h2⟩, h3⟩, h4⟩, h5⟩ := hc
  have hw : ∀ l ∈ patM s r g, l.length = ((patM s r g).headD []).length := fun l hl => by have := List.all_eq_true.1 h4 l hl; simpa using this
  exact ⟨⟨h1, h2⟩, h3, hw, idles_pos hw h5 s 0 (by omega)⟩
/-- The least number of guards from g on, of d numbers. -/
def gnM (s : Nat) (r : Bool) (pause : Int) : Nat → Nat → Int × Bool
  | 0, _ => (0, false)
  | d + 1, g => if pzM s r g ≤ pause then ((g : Int), true) else gnM s r pause d (g + 1)
theorem gnM_succ (s : Nat) (r : Bool) (pause : Int) (d g : Nat) : gnM s r pause (d + 1) g = if pzM s r g ≤ pause then ((g : Int), true) else gnM s r pause d (g + 1) := rfl
theorem map_drop_step {α β : Type} (f : α → β) (l : List α) (i : Nat) (h : i < l.length) (acc : List β) : acc ++ (l.drop i).map f = (acc ++ [f l[i]]) ++ (l.drop (i + 1)).map f := by
  rw [List.drop_eq_getElem_cons h, List.map_cons, List.append_assoc]; rfl
theorem allIn_mem {l : List Int} {a b : Int} (h : allIn l a b = true) : ∀ x ∈ l, a ≤ x ∧ x ≤ b := fun x hx => inR_iff.1 (List.all_eq_true.1 h x hx)
theorem roundOk_in {s : Int} {r : Bool} {l : List Int} (h : roundOk s r l = true) : allIn l 0 (s - 1) = true := by
  unfold roundOk at h
  rw [Bool.and_eq_true] at h
  exact h.1
theorem patrolOk_mem {s : Int} {r : Bool} {ls : List (List Int)} (h : patrolOk s r ls = true) : ∀ l ∈ ls, (1 ≤ l.length ∧ l.length ≤ 60) ∧ ∀ x ∈ l, 0 ≤ x ∧ x ≤ s - 1 := by
  have hb := patrolOk_bd h
  intro l hl
  have := hb.2.2 l hl
  exact ⟨by omega, allIn_mem (roundOk_in this.2)⟩
/-- What a law with a table of rows as its result asks, where the result is known. -/
def mirL (s : Int) (l : List Int) : List Int := l.map fun x => s - 1 - x
theorem mirL_len (s : Int) (l : List Int) : (mirL s l).length = l.length := by simp [mirL]
theorem impl_copied_eq (l : List Int) (hl : l.length ≤ 1048576) : impl_copied.f l = some l := by
  unfold impl_copied.f
  rw [Option.bind_some, if_pos (by simp; omega)]
  rfl
theorem firstM_ge7 (x : Int) : ∀ (l : List Int) (i : Nat), 0 ≤ firstM x l i ↔ (l.any fun y => decide (y = x)) = true
  | [], i => by simp [firstM]
  | y :: t, i => by
    have ih := firstM_ge7 x t (i + 1)
    have e : firstM x (y :: t) i = if y = x then (i : Int) else firstM x t (i + 1) := rfl
    rw [e, List.any_cons]
    by_cases c : y = x
    · rw [if_pos c, decide_eq_true c]
      exact ⟨fun _ => rfl, fun _ => by omega⟩
    · rw [if_neg c, decide_eq_false c, Bool.false_or]
      exact ih
theorem slices_Contains_eq7 (k : Nat) (x : Int) (l : List Int) (hl : l.length ≤ 9223372036854775807) (hk : l.length < k) : slices_Contains_int_int.f k l x = some (l.any fun y => decide (y = x)) := by
  unfold slices_Contains_int_int.f
  rw [slices_Index_eq k x l hl hk, Option.bind_some]
  congr 1
  rw [Bool.eq_iff_iff, decide_eq_true_iff]
  exact firstM_ge7 x l 0
/-- From the i-th on, d numbers of a list: none stands before. -/
def distF (l : List Int) : Nat → Nat → Bool
  | 0, _ => true
  | d + 1, i => !((l.take i).any fun y => decide (y = rd l (i : Int))) && distF l d (i + 1)
theorem distF_succ (l : List Int) (d i : Nat) : distF l (d + 1) i = (!((l.take i).any fun y => decide (y = rd l (i : Int))) && distF l d (i + 1)) := rfl
theorem slices_Grow_nil_eq (a : Int) (h : 0 ≤ a ∧ a ≤ 1099511627776) : slices_Grow_nil_int_int.f a = some [] := by
  unfold slices_Grow_nil_int_int.f
  rw [if_neg (by omega), wrap64_id (by omega) (by omega)]
  by_cases c : a > 0
  · rw [if_pos c, if_pos (by omega), if_pos (by simp; omega), Option.bind_some, if_pos (by omega)]
    simp
  · rw [if_neg c]
theorem rdLLc (ws : List (List Int)) (i : Nat) (h : i < ws.length) : rd_L1 ws (i : Int) = ws[i] := by
  unfold rd_L1
  simp [List.getD_eq_getElem?_getD, List.getElem?_eq_getElem h]
theorem tot_drop (ls : List (List Int)) (i : Nat) (h : i < ls.length) : tot (ls.drop i) = ls[i].length + tot (ls.drop (i + 1)) := by rw [List.drop_eq_getElem_cons h]; rfl
theorem slices_Concat_l1 (ls : List (List Int)) (hl : ls.length ≤ 1048576) : ∀ (d i k : Nat) (acc : List Int), i + d = ls.length → acc.length + tot (ls.drop i) ≤ 1099511627776 → d < k →
    slices_Concat_int_int.l1 k acc ls (ls.length : Int) (i : Int) = some (acc ++ (ls.drop i).flatten)
  | 0, i, k, acc, h, ha, hk => by
    obtain ⟨k, rfl⟩ := succ_of (k := k) (by omega)
    simp only [slices_Concat_int_int.l1]
    rw [if_neg (by omega), drop_end ls i (by omega)]
    simp
  | d + 1, i, k, acc, h, ha, hk => by
    obtain ⟨k, rfl⟩ := succ_of (k := k) (by omega)
    have ht := tot_drop ls i (by omega)
    simp only [slices_Concat_int_int.l1]
    rw [if_pos (by omega), if_pos (by omega), if_pos (by omega), rdLLc ls i (by omega), if_pos (by omega), wrap_succ (n := ls.length) (by omega) (by omega), slices_Concat_l1 ls hl d (i + 1) k _ (by omega) (by rw [List.length_append]; omega) (by omega), List.drop_eq_getElem_cons (show i < ls.length by omega), List.flatten_cons, List.append_assoc]
theorem slices_Concat_l0 (ls : List (List Int)) (hl : ls.length ≤ 1048576) (ht0 : tot ls ≤ 1099511627776) : ∀ (d i k : Nat) (a : Nat), i + d = ls.length → a + tot (ls.drop i) ≤ 1099511627776 → d + ls.length + 2 < k →
    slices_Concat_int_int.l0 k ls (a : Int) ls (ls.length : Int) (i : Int) = some ls.flatten
  | 0, i, k, a, h, ha, hk => by
    obtain ⟨k, rfl⟩ := succ_of (k := k) (by omega)
    have := slices_Concat_l1 ls hl ls.length 0 k [] (by omega) (by simpa using ht0) (by omega)
    simp only [slices_Concat_int_int.l0]
    rw [if_neg (by omega), slices_Grow_nil_eq _ (by omega), Option.bind_some]
    simpa using this
  | d + 1, i, k, a, h, ha, hk => by
    obtain ⟨k, rfl⟩ := succ_of (k := k) (by omega)
    have ht := tot_drop ls i (by omega)
    simp only [slices_Concat_int_int.l0]
    rw [if_pos (by omega), if_pos (by omega), if_pos (by omega), rdLLc ls i (by omega), wrap64_id (x := (a : Int) + (ls[i].length : Int)) (by omega) (by omega), if_neg (by omega), wrap_succ (n := ls.length) (by omega) (by omega), show (a : Int) + (ls[i].length : Int) = ((a + ls[i].length : Nat) : Int) by omega]
    exact slices_Concat_l0 ls hl ht0 d (i + 1) k _ (by omega) (by omega) (by omega)
theorem slices_Concat_eq (k : Nat) (ls : List (List Int)) (hl : ls.length ≤ 1048576) (ht : tot ls ≤ 1099511627776) (hk : 2 * ls.length + 2 < k) : slices_Concat_int_int.f k ls = some ls.flatten := by
  unfold slices_Concat_int_int.f
  exact slices_Concat_l0 ls hl ht ls.length 0 k 0 (by omega) (by simpa using ht) (by omega)
def rotM (c : Nat) (l : List Int) : List Int := l.drop c ++ l.take c
theorem rotM_len (c : Nat) (l : List Int) : (rotM c l).length = l.length := by unfold rotM; simp; omega
theorem rotM_at (c : Nat) (l : List Int) (hc : c < l.length) (t : Nat) (ht : t < l.length) : (rotM c l)[t]? = some (rd l (((t + c) % l.length : Nat) : Int)) := by
  unfold rotM
  have hr : ∀ a : Nat, a < l.length → l[a]? = some (rd l (a : Int)) := fun a ha => by rw [rd_get l a ha, List.getElem?_eq_getElem ha]
  by_cases h : t < l.length - c
  · rw [List.getElem?_append_left (by rw [List.length_drop]; omega), List.getElem?_drop, Nat.mod_eq_of_lt (by omega), Nat.add_comm c t]
    exact hr _ (by omega)
  · rw [List.getElem?_append_right (by rw [List.length_drop]; omega), List.length_drop, List.getElem?_take, if_pos (by omega)]
    have e : (t + c) % l.length = t - (l.length - c) := by rw [Nat.mod_eq_sub_mod (by omega), Nat.mod_eq_of_lt (by omega)]; omega
    rw [e]
    exact hr _ (by omega)
theorem walkerOk_at {s st f d : Int} {l : List Int} (h : walkerOk s st f d l = true) (p : Nat) (hp : (p : Int) < s) : walkerOk s (p : Int) f d l = true := by
  unfold walkerOk at h ⊢
  simp only [Bool.and_eq_true] at h ⊢
  exact ⟨⟨⟨inR_iff.2 ⟨by omega, by omega⟩, h.1.1.2⟩, h.1.2⟩, h.2⟩
theorem rangeMap_snoc {α : Type} (g : Nat → α) (n : Nat) : (List.range (n + 1)).map g = (List.range n).map g ++ [g n] := by rw [List.range_succ]; simp
/-- The walks from the first n places. -/
def rowsW (S : Nat) (r : Bool) (f d : Int) (l : List Int) (n : Nat) : List (List Int) := (List.range n).map fun (p : Nat) => walkM (S : Int) r (p : Int) f d l 60
theorem rowsW_len (S : Nat) (r : Bool) (f d : Int) (l : List Int) (n : Nat) : (rowsW S r f d l n).length = n := by simp [rowsW]
theorem rowsW_snoc (S : Nat) (r : Bool) (f d : Int) (l : List Int) (n : Nat) : rowsW S r f d l n ++ [walkM (S : Int) r (n : Int) f d l 60] = rowsW S r f d l (n + 1) := (rangeMap_snoc _ n).symm
/-- One row of the table: the times at which the walk w meets the walks ws. -/
def rowT (w : List Int) (ws : List (List Int)) (n : Nat) : List Int := (ws.take n).map fun v => meetF [w, v] 61 0
theorem rowT_snoc (w : List Int) (ws : List (List Int)) (n : Nat) (h : n < ws.length) : rowT w ws n ++ [meetF [w, ws[n]] 61 0] = rowT w ws (n + 1) := by
  unfold rowT
  rw [List.take_succ_eq_append_getElem h, List.map_append]
  rfl
theorem rowT_len (w : List Int) (ws : List (List Int)) (n : Nat) (h : n ≤ ws.length) : (rowT w ws n).length = n := by unfold rowT; simp; omega
def tabT (us ws : List (List Int)) (n : Nat) : List (List Int) := (us.take n).map fun w => rowT w ws ws.length
theorem tabT_snoc (us ws : List (List Int)) (n : Nat) (h : n < us.length) : tabT us ws n ++ [rowT us[n] ws ws.length] = tabT us ws (n + 1) := by
  unfold tabT
  rw [List.take_succ_eq_append_getElem h, List.map_append]
  rfl
theorem tabT_len (us ws : List (List Int)) (n : Nat) (h : n ≤ us.length) : (tabT us ws n).length = n := by unfold tabT; simp; omega
theorem tabT_rows (us ws : List (List Int)) (n : Nat) : ∀ x ∈ tabT us ws n, x.length = ws.length := by
  intro x hx
  obtain ⟨w, _, rfl⟩ := List.mem_map.1 hx
  exact rowT_len _ _ _ (Nat.le_refl _)
theorem tabT_vals (us ws : List (List Int)) (n : Nat) : ∀ x ∈ tabT us ws n, ∀ y ∈ x, y = -1 ∨ 0 ≤ y := by
  intro x hx y hy
  obtain ⟨w, _, rfl⟩ := List.mem_map.1 hx
  obtain ⟨v, _, rfl⟩ := List.mem_map.1 hy
  rcases meetF_bd [w, v] 61 0 with h | h
  · exact .inl h
  · exact .inr (by omega)
theorem rowsW_61 (S : Nat) (r : Bool) (f d : Int) (l : List Int) (n : Nat) : ∀ x ∈ rowsW S r f d l n, x.length = 61 := by
  intro x hx
  obtain ⟨p, _, rfl⟩ := List.mem_map.1 hx
  rw [walkM_len]
theorem rdLLt (ws : List (List Int)) (i : Nat) (h : i < ws.length) : rd_L1 ws (i : Int) = ws[i] := by
  unfold rd_L1
  simp [List.getD_eq_getElem?_getD, List.getElem?_eq_getElem h]
theorem spec_l4Table_l2 (S : Nat) (hS : S ≤ 24) (r : Bool) (us ws T : List (List Int)) (hu : us.length = S) (hw : ws.length = S) (hu6 : ∀ x ∈ us, x.length = 61) (hw6 : ∀ x ∈ ws, x.length = 61) (hT : T.length ≤ 24) (i : Nat) (hi : i < us.length) : ∀ (e j k : Nat), j + e = S → 200 ≤ k →
    spec_l4Table.l2 (k + e + 1) us ws T (i : Int) (rowT us[i] ws j) (j : Int) (S : Int) r = spec_l4Table.l1 k us ws (T ++ [rowT us[i] ws ws.length]) ((i + 1 : Nat) : Int) (S : Int) r
  | 0, j, k, h, hk => by
    obtain rfl : j = ws.length := by omega
    simp only [Nat.add_zero, spec_l4Table.l2]
    rw [if_neg (by omega), if_pos (by omega), wrap_succ (n := us.length) hi (by omega)]
  | e + 1, j, k, h, hk => by
    have IH := spec_l4Table_l2 S hS r us ws T hu hw hu6 hw6 hT i hi e (j + 1) k (by omega) hk
    have hkm : k + 1 ≤ k + e + 1 := by omega
    rw [show k + (e + 1) + 1 = (k + e + 1) + 1 by omega]
    generalize k + e + 1 = m at IH hkm ⊢
    simp only [spec_l4Table.l2]
    have hr := rowT_len us[i] ws j (by omega)
    rw [if_pos (by omega), if_pos (by omega), if_pos (by omega), if_pos (by omega), if_pos (by omega), rdLLt us i hi, rdLLt ws j (by omega), spec_l4Meet_eq _ _ (by simp) (by simp) (by intro w hm; simp at hm; rcases hm with rfl | rfl; exact hu6 _ (List.getElem_mem _); exact hw6 _ (List.getElem_mem _)) (by simp; omega), Option.bind_some, if_pos (by omega), wrap_succ (n := ws.length) (by omega) (by omega), rowT_snoc]
    exact IH
theorem spec_l4Table_l1 (S : Nat) (hS : S ≤ 24) (r : Bool) (us ws : List (List Int)) (hu : us.length = S) (hw : ws.length = S) (hu6 : ∀ x ∈ us, x.length = 61) (hw6 : ∀ x ∈ ws, x.length = 61) : ∀ (e i k : Nat), i + e = S → e * (S + 2) + 201 ≤ k →
    spec_l4Table.l1 k us ws (tabT us ws i) (i : Int) (S : Int) r = some (tabT us ws S)
  | 0, i, k, h, hk => by
    obtain ⟨k, rfl⟩ := succ_of (k := k) (by omega)
    simp only [spec_l4Table.l1]
    rw [if_neg (by omega), show i = S by omega]
  | e + 1, i, k, h, hk => by
    have hm : (e + 1) * (S + 2) = e * (S + 2) + (S + 2) := Nat.succ_mul _ _
    generalize hq : e * (S + 2) = q at hm
    obtain ⟨k, rfl⟩ : ∃ z, k = (z + S + 1) + 1 := ⟨k - S - 2, by omega⟩
    simp only [spec_l4Table.l1]
    have hl := tabT_len us ws i (by omega)
    have := spec_l4Table_l2 S hS r us ws (tabT us ws i) hu hw hu6 hw6 (by omega) i (by omega) S 0 k (by omega) (by omega)
    rw [if_pos (by omega)]
    refine Eq.trans this ?_
    rw [tabT_snoc]
    exact spec_l4Table_l1 S hS r us ws hu hw hu6 hw6 e (i + 1) k (by omega) (by omega)
theorem spec_l4Table_l0 (S : Nat) (hS : 2 ≤ S ∧ S ≤ 24) (r : Bool) (st f d : Int) (l : List Int) (st' f' d' : Int) (l' : List Int) (h1 : walkerOk (S : Int) st f d l = true) (h2 : walkerOk (S : Int) st' f' d' l' = true) : ∀ (e i k : Nat), i + e = S → e + 900 < k →
    spec_l4Table.l0 k (rowsW S r f d l i) (rowsW S r f' d' l' i) [] (i : Int) (S : Int) r st f d l st' f' d' l' = some (tabT (rowsW S r f d l S) (rowsW S r f' d' l' S) S)
  | 0, i, k, h, hk => by
    obtain ⟨k, rfl⟩ := succ_of (k := k) (by omega)
    simp only [spec_l4Table.l0]
    rw [if_neg (by omega), show i = S by omega]
    have hq : S * (S + 2) ≤ 24 * 26 := Nat.mul_le_mul (by omega) (by omega)
    exact spec_l4Table_l1 S hS.2 r _ _ (rowsW_len ..) (rowsW_len ..) (rowsW_61 _ _ _ _ _ _) (rowsW_61 _ _ _ _ _ _) S 0 k (by omega) (by omega)
  | e + 1, i, k, h, hk => by
    obtain ⟨k, rfl⟩ := succ_of (k := k) (by omega)
    simp only [spec_l4Table.l0, spec_l4At.f, Option.bind_some]
    have g1 := rowsW_len S r f d l i
    have g2 := rowsW_len S r f' d' l' i
    rw [if_pos (by omega), spec_l4Walk_eq _ _ _ _ _ _ _ _ (by omega) (walkerOk_at h1 i (by omega)) (by omega) (by omega), Option.bind_some, if_pos (by omega), spec_l4Walk_eq _ _ _ _ _ _ _ _ (by omega) (walkerOk_at h2 i (by omega)) (by omega) (by omega), Option.bind_some, if_pos (by omega), wrap_succ (n := S) (by omega) (by omega), show (60 : Int).toNat = 60 from rfl, rowsW_snoc, rowsW_snoc]
    exact spec_l4Table_l0 S hS r st f d l st' f' d' l' h1 h2 e (i + 1) k (by omega) (by omega)
theorem spec_l4Table_eq (k : Nat) (S : Nat) (hS : 2 ≤ S ∧ S ≤ 24) (r : Bool) (st f d : Int) (l : List Int) (st' f' d' : Int) (l' : List Int) (h1 : walkerOk (S : Int) st f d l = true) (h2 : walkerOk (S : Int) st' f' d' l' = true) (hk : 1000 < k) :
    spec_l4Table.f k (S : Int) r st f d l st' f' d' l' = some (tabT (rowsW S r f d l S) (rowsW S r f' d' l' S) S) := by
  unfold spec_l4Table.f
  exact spec_l4Table_l0 S hS r st f d l st' f' d' l' h1 h2 S 0 k (by omega) (by omega)
theorem rdLLu (ws : List (List Int)) (i : Nat) (h : i < ws.length) : rd_L1 ws (i : Int) = ws[i] := by
  unfold rd_L1
  simp [List.getD_eq_getElem?_getD, List.getElem?_eq_getElem h]
theorem impl_Road_table_1_l0 (S : Nat) (r : Bool) (hr : road (S : Int) r = true) (f d : Int) (l : List Int) : ∀ (e i k : Nat) (st : Int), i + e = S → e + 100 < k → (∀ p : Nat, p < S → walkerOk (S : Int) (p : Int) f d l = true) →
    impl_Road_table_1.l0 k (rowsW S r f d l i) (S : Int) (i : Int) (S : Int) r st f d l = some (rowsW S r f d l S)
  | 0, i, k, st, h, hk, hw => by
    obtain ⟨k, rfl⟩ := succ_of (k := k) (by omega)
    simp only [impl_Road_table_1.l0]
    rw [if_neg (by omega), show i = S by omega]
  | e + 1, i, k, st, h, hk, hw => by
    obtain ⟨k, rfl⟩ := succ_of (k := k) (by omega)
    have hb := road_bd hr
    have g1 := rowsW_len S r f d l i
    simp only [impl_Road_table_1.l0]
    rw [if_pos (by omega), impl_Road_walk_eq _ _ _ _ _ _ _ _ hr (hw i (by omega)) (by omega) (by omega), Option.bind_some, if_pos (by omega), wrap_succ (n := S) (by omega) (by omega), show (60 : Int).toNat = 60 from rfl, rowsW_snoc]
    exact impl_Road_table_1_l0 S r hr f d l e (i + 1) k _ (by omega) (by omega) hw
theorem impl_Road_table_l1 (S : Nat) (hS : S ≤ 24) (us ws T : List (List Int)) (hu : us.length = S) (hw : ws.length = S) (hu6 : ∀ x ∈ us, x.length = 61) (hw6 : ∀ x ∈ ws, x.length = 61) (hT : T.length ≤ 24) (i : Nat) (hi : i < us.length) : ∀ (e j k : Nat), j + e = S →
    impl_Road_table.l1 (k + e + 1) T ws us[i] (rowT us[i] ws j) us (us.length : Int) (i : Int) ws (ws.length : Int) (j : Int) = impl_Road_table.l0 k (T ++ [rowT us[i] ws ws.length]) ws us (us.length : Int) ((i + 1 : Nat) : Int)
  | 0, j, k, h => by
    obtain rfl : j = ws.length := by omega
    simp only [Nat.add_zero, impl_Road_table.l1]
    rw [if_neg (by omega), if_pos (by omega), wrap_succ (n := us.length) hi (by omega)]
  | e + 1, j, k, h => by
    have IH := impl_Road_table_l1 S hS us ws T hu hw hu6 hw6 hT i hi e (j + 1) k (by omega)
    have hkm : k + 1 ≤ k + e + 1 := by omega
    rw [show k + (e + 1) + 1 = (k + e + 1) + 1 by omega]
    generalize k + e + 1 = m at IH hkm ⊢
    simp only [impl_Road_table.l1]
    have hr := rowT_len us[i] ws j (by omega)
    rw [if_pos (by omega), if_pos (by omega), if_pos (by omega), rdLLu ws j (by omega), impl_together_eq _ _ (by simp) (by intro w hm; simp at hm; rcases hm with rfl | rfl; exact hu6 _ (List.getElem_mem _); exact hw6 _ (List.getElem_mem _)), Option.bind_some, if_pos (by omega), wrap_succ (n := ws.length) (by omega) (by omega), rowT_snoc]
    exact IH
theorem impl_Road_table_l0 (S : Nat) (hS : S ≤ 24) (us ws : List (List Int)) (hu : us.length = S) (hw : ws.length = S) (hu6 : ∀ x ∈ us, x.length = 61) (hw6 : ∀ x ∈ ws, x.length = 61) : ∀ (e i k : Nat), i + e = S → e * (S + 2) + 1 ≤ k →
    impl_Road_table.l0 k (tabT us ws i) ws us (us.length : Int) (i : Int) = some (tabT us ws S)
  | 0, i, k, h, hk => by
    obtain ⟨k, rfl⟩ := succ_of (k := k) (by omega)
    simp only [impl_Road_table.l0]
    rw [if_neg (by omega), show i = S by omega]
  | e + 1, i, k, h, hk => by
    have hm : (e + 1) * (S + 2) = e * (S + 2) + (S + 2) := Nat.succ_mul _ _
    generalize hq : e * (S + 2) = q at hm
    obtain ⟨k, rfl⟩ : ∃ z, k = (z + S + 1) + 1 := ⟨k - S - 2, by omega⟩
    simp only [impl_Road_table.l0]
    have hl := tabT_len us ws i (by omega)
    have := impl_Road_table_l1 S hS us ws (tabT us ws i) hu hw hu6 hw6 (by omega) i (by omega) S 0 k (by omega)
    rw [if_pos (by omega), if_pos (by omega), if_pos (by omega), rdLLu us i (by omega)]
    refine Eq.trans this ?_
    rw [tabT_snoc]
    exact impl_Road_table_l0 S hS us ws hu hw hu6 hw6 e (i + 1) k (by omega) (by omega)
theorem impl_Road_table_eq (k : Nat) (S : Nat) (r : Bool) (hr : road (S : Int) r = true) (st f d : Int) (l : List Int) (st' f' d' : Int) (l' : List Int) (h1 : walkerOk (S : Int) st f d l = true) (h2 : walkerOk (S : Int) st' f' d' l' = true) (hk : 1000 < k) :
    impl_Road_table.f k (S : Int) r st f d l st' f' d' l' = some (tabT (rowsW S r f d l S) (rowsW S r f' d' l' S) S) := by
  have hb := road_bd hr
  unfold impl_Road_table.f impl_Road_table_1.f
  have e1 := impl_Road_table_1_l0 S r hr f d l S 0 k st (by omega) (by omega) (fun p hp => walkerOk_at h1 p (by omega))
  have e2 := impl_Road_table_1_l0 S r hr f' d' l' S 0 k st' (by omega) (by omega) (fun p hp => walkerOk_at h2 p (by omega))
  have hq : S * (S + 2) ≤ 24 * 26 := Nat.mul_le_mul (by omega) (by omega)
  have e3 := impl_Road_table_l0 S (by omega) (rowsW S r f d l S) (rowsW S r f' d' l' S) (rowsW_len ..) (rowsW_len ..) (rowsW_61 _ _ _ _ _ _) (rowsW_61 _ _ _ _ _ _) S 0 k (by omega) (by omega)
  rw [show rowsW S r f' d' l' 0 = [] from rfl] at e2
  rw [show rowsW S r f d l 0 = [] from rfl] at e1
  erw [e2]
  rw [Option.bind_some]
  erw [e1]
  exact e3
theorem rdLLv (ws : List (List Int)) (i : Nat) (h : i < ws.length) : rd_L1 ws (i : Int) = ws[i] := by
  unfold rd_L1
  simp [List.getD_eq_getElem?_getD, List.getElem?_eq_getElem h]
theorem spec_l4Worst_l1 (T : List (List Int)) (hT : T.length ≤ 1000) (i : Nat) (hi : i < T.length) (hx : T[i].length ≤ 1000) : ∀ (e j k : Nat) (a : Int), j + e = T[i].length →
    spec_l4Worst.l1 (k + e + 1) T a (i : Int) (j : Int) = if ((T[i].drop j).any fun x => decide (x < 0)) = true then some (-1) else spec_l4Worst.l0 k T ((T[i].drop j).foldl mx a) ((i + 1 : Nat) : Int)
  | 0, j, k, a, h => by
    simp only [Nat.add_zero, spec_l4Worst.l1]
    rw [if_pos (by omega), if_pos (by omega), rdLLv T i hi, if_neg (by omega), wrap_succ (n := T.length) hi (by omega), drop_end T[i] j (by omega)]
    simp
  | e + 1, j, k, a, h => by
    have IH := fun b => spec_l4Worst_l1 T hT i hi hx e (j + 1) k b (by omega)
    rw [show k + (e + 1) + 1 = (k + e + 1) + 1 by omega]
    generalize k + e + 1 = m at IH ⊢
    simp only [spec_l4Worst.l1]
    rw [if_pos (by omega), if_pos (by omega), rdLLv T i hi, if_pos (by omega), if_pos (by omega), drop_rd T[i] j (by omega), List.any_cons, List.foldl_cons]
    by_cases c : rd T[i] (j : Int) < 0
    · rw [if_pos c, decide_eq_true c]
      simp
    · rw [if_neg c, decide_eq_false c, spec_l1Most_eq, Option.bind_some, wrap_succ (n := T[i].length) (by omega) (by omega), Bool.false_or, show hi2 a (rd T[i] (j : Int)) = mx a (rd T[i] (j : Int)) by unfold hi2 mx; split <;> split <;> omega]
      exact IH _
theorem spec_l4Worst_l0 (T : List (List Int)) (hT : T.length ≤ 1000) (S : Nat) (hS : S ≤ 1000) (hx : ∀ x ∈ T, x.length = S) : ∀ (e i k : Nat) (a : Int), i + e = T.length → e * (S + 2) + 1 ≤ k →
    spec_l4Worst.l0 k T a (i : Int) = some (if ((T.drop i).flatten.any fun x => decide (x < 0)) = true then -1 else (T.drop i).flatten.foldl mx a)
  | 0, i, k, a, h, hk => by
    obtain ⟨k, rfl⟩ := succ_of (k := k) (by omega)
    simp only [spec_l4Worst.l0]
    rw [if_neg (by omega), drop_end T i (by omega)]
    simp
  | e + 1, i, k, a, h, hk => by
    have hm : (e + 1) * (S + 2) = e * (S + 2) + (S + 2) := Nat.succ_mul _ _
    generalize hq : e * (S + 2) = q at hm
    obtain ⟨k, rfl⟩ : ∃ z, k = (z + S + 1) + 1 := ⟨k - S - 2, by omega⟩
    simp only [spec_l4Worst.l0]
    have hi : i < T.length := by omega
    have hl := hx _ (List.getElem_mem hi)
    have := spec_l4Worst_l1 T hT i hi (by omega) S 0 k a (by omega)
    rw [if_pos (by omega)]
    refine Eq.trans this ?_
    rw [List.drop_zero, List.drop_eq_getElem_cons hi, List.flatten_cons, List.any_append, List.foldl_append]
    by_cases c : (T[i].any fun x => decide (x < 0)) = true
    · rw [if_pos c, c, Bool.true_or, if_pos rfl]
    · rw [if_neg c, spec_l4Worst_l0 T hT S hS hx e (i + 1) k _ (by omega) (by omega), Bool.eq_false_iff.2 c, Bool.false_or]
theorem spec_l4Worst_eq (k : Nat) (T : List (List Int)) (hT : T.length ≤ 24) (S : Nat) (hS : S ≤ 24) (hx : ∀ x ∈ T, x.length = S) (hk : 1000 < k) : spec_l4Worst.f k T = some (pauseM T.flatten) := by
  unfold spec_l4Worst.f
  have hq : T.length * (S + 2) ≤ 24 * 26 := Nat.mul_le_mul (by omega) (by omega)
  have := spec_l4Worst_l0 T (by omega) S (by omega) hx T.length 0 k 0 (by omega) (by omega)
  rw [List.drop_zero] at this
  exact this
theorem tot_const (S : Nat) : ∀ T : List (List Int), (∀ x ∈ T, x.length = S) → tot T = T.length * S
  | [], _ => by simp [tot]
  | x :: T, h => by
    show x.length + tot T = _
    rw [tot_const S T (fun y hy => h y (List.mem_cons_of_mem _ hy)), h x (List.mem_cons_self ..), List.length_cons, Nat.succ_mul, Nat.add_comm]
theorem flat_const (S : Nat) : ∀ T : List (List Int), (∀ x ∈ T, x.length = S) → T.flatten.length = T.length * S
  | [], _ => by simp
  | x :: T, h => by
    rw [List.flatten_cons, List.length_append, flat_const S T (fun y hy => h y (List.mem_cons_of_mem _ hy)), h x (List.mem_cons_self ..), List.length_cons, Nat.succ_mul, Nat.add_comm]
theorem impl_Road_worstMeet_eq (k : Nat) (S : Nat) (r : Bool) (hr : road (S : Int) r = true) (st f d : Int) (l : List Int) (st' f' d' : Int) (l' : List Int) (h1 : walkerOk (S : Int) st f d l = true) (h2 : walkerOk (S : Int) st' f' d' l' = true) (hk : 2000 < k) :
    impl_Road_worstMeet.f k (S : Int) r st f d l st' f' d' l' = some (pauseM (tabT (rowsW S r f d l S) (rowsW S r f' d' l' S) S).flatten) := by
  have hb := road_bd hr
  unfold impl_Road_worstMeet.f
  rw [impl_Road_table_eq k S r hr _ _ _ _ _ _ _ _ h1 h2 (by omega), Option.bind_some]
  have hn := tabT_len (rowsW S r f d l S) (rowsW S r f' d' l' S) S (by rw [rowsW_len]; omega)
  have hx := tabT_rows (rowsW S r f d l S) (rowsW S r f' d' l' S) S
  have hv := tabT_vals (rowsW S r f d l S) (rowsW S r f' d' l' S) S
  rw [rowsW_len] at hx
  generalize tabT (rowsW S r f d l S) (rowsW S r f' d' l' S) S = T at hn hx hv
  have ht := tot_const S T hx
  have hf := flat_const S T hx
  have hq : T.length * S ≤ 24 * 24 := Nat.mul_le_mul (by omega) (by omega)
  have hq1 : 1 * 1 ≤ T.length * S := Nat.mul_le_mul (by omega) (by omega)
  rw [slices_Concat_eq k T (by omega) (by omega) (by omega), Option.bind_some, slices_Contains_eq7 k _ _ (by omega) (by omega), Option.bind_some]
  have e : (T.flatten.any fun y => decide (y = -1)) = (T.flatten.any fun x => decide (x < 0)) := by
    rw [Bool.eq_iff_iff, List.any_eq_true, List.any_eq_true]
    constructor
    · rintro ⟨y, hy, h⟩
      exact ⟨y, hy, by simp at h ⊢; omega⟩
    · rintro ⟨y, hy, h⟩
      obtain ⟨x, hx', hy'⟩ := List.mem_flatten.1 hy
      have := hv x hx' y hy'
      exact ⟨y, hy, by simp at h ⊢; omega⟩
  rw [e]
  by_cases c : (T.flatten.any fun x => decide (x < 0)) = true
  · rw [if_pos c]
    unfold pauseM
    rw [if_pos c]
  · rw [if_neg c, slices_Max_pause k _ (by omega) (Bool.eq_false_iff.2 c), Option.bind_some]
def labelOk (l : List Int) : Bool := inR (l.length : Int) 1 6 && allIn l 0 1
def toldM (S : Nat) (l : List Int) : List Int := l.flatMap fun x => List.replicate S x
theorem toldM_len (S : Nat) : ∀ l : List Int, (toldM S l).length = S * l.length
  | [] => by simp [toldM]
  | x :: l => by
    show (List.replicate S x ++ toldM S l).length = _
    rw [List.length_append, toldM_len S l, List.length_replicate, List.length_cons, Nat.mul_succ, Nat.add_comm]
theorem toldM_ok (S : Nat) (l : List Int) (hS : 2 ≤ S ∧ S ≤ 24) (hl : labelOk l = true) (h : S * l.length ≤ 24) : walkerOk (S : Int) 0 1 0 (toldM S l) = true := by
  unfold labelOk at hl
  rw [Bool.and_eq_true, inR_iff] at hl
  have h1 : 2 * 1 ≤ S * l.length := Nat.mul_le_mul (by omega) (by omega)
  have hn := toldM_len S l
  have ha : allIn (toldM S l) (-1) 1 = true := by
    have h2 := hl.2
    unfold allIn at h2 ⊢
    rw [List.all_eq_true] at h2 ⊢
    intro y hy
    obtain ⟨x, hx, hy⟩ := List.mem_flatMap.1 hy
    obtain rfl := (List.mem_replicate.1 hy).2
    have := inR_iff.1 (h2 y hx)
    exact inR_iff.2 ⟨by omega, by omega⟩
  unfold walkerOk movesOk
  rw [inR_iff.2 (show (0 : Int) ≤ 0 ∧ (0 : Int) ≤ (S : Int) - 1 by omega), inR_iff.2 (show (0 : Int) ≤ 0 ∧ (0 : Int) ≤ 60 by omega), ha, inR_iff.2 (show (1 : Int) ≤ ((toldM S l).length : Int) ∧ ((toldM S l).length : Int) ≤ 24 by omega)]
  simp
/-- The orders that follow the order o, from carrier j on, d carriers long. -/
def nextO (o : List Int) : Nat → Nat → List (List Int)
  | 0, _ => []
  | d + 1, j => (if (o.any fun y => decide (y = (j : Int))) = true then [] else [o ++ [(j : Int)]]) ++ nextO o d (j + 1)
theorem nextO_succ (o : List Int) (d j : Nat) : nextO o (d + 1) j = (if (o.any fun y => decide (y = (j : Int))) = true then [] else [o ++ [(j : Int)]]) ++ nextO o d (j + 1) := rfl
theorem mem_nextO (o p : List Int) : ∀ d j, p ∈ nextO o d j ↔ ∃ i : Nat, j ≤ i ∧ i < j + d ∧ ¬ (i : Int) ∈ o ∧ p = o ++ [(i : Int)]
  | 0, j => by
    constructor
    · intro h; cases h
    · rintro ⟨i, h, h', _⟩; omega
  | d + 1, j => by
    rw [nextO_succ, List.mem_append, mem_nextO o p d (j + 1)]
    by_cases c : (o.any fun y => decide (y = (j : Int))) = true
    · rw [if_pos c]
      have cm : (j : Int) ∈ o := by
        obtain ⟨y, hy, e⟩ := List.any_eq_true.1 c
        rw [← of_decide_eq_true e]; exact hy
      constructor
      · rintro (h | ⟨i, h1, h2, h3⟩)
        · cases h
        · exact ⟨i, by omega, by omega, h3⟩
      · rintro ⟨i, h1, h2, h3, h4⟩
        right
        refine ⟨i, ?_, by omega, h3, h4⟩
        rcases Nat.lt_or_ge j i with h | h
        · exact h
        · exact absurd (show (i : Int) ∈ o by rw [show i = j by omega]; exact cm) h3
    · rw [if_neg c]
      have cm : ¬ (j : Int) ∈ o := fun hm => c (List.any_eq_true.2 ⟨_, hm, decide_eq_true rfl⟩)
      constructor
      · rintro (h | ⟨i, h1, h2, h3⟩)
        · exact ⟨j, by omega, by omega, cm, by simpa using h⟩
        · exact ⟨i, by omega, by omega, h3⟩
      · rintro ⟨i, h1, h2, h3, h4⟩
        rcases Nat.lt_or_ge j i with h | h
        · exact .inr ⟨i, h, by omega, h3, h4⟩
        · left; rw [h4, show i = j by omega]; simp
theorem nextO_len (o : List Int) : ∀ d j, (nextO o d j).length ≤ d
  | 0, j => by simp [nextO]
  | d + 1, j => by
    have := nextO_len o d (j + 1)
    rw [nextO_succ, List.length_append]
    split <;> simp <;> omega
/-- The orders of m carriers of n. -/
def levO (n : Nat) : Nat → List (List Int)
  | 0 => [[]]
  | m + 1 => (levO n m).flatMap fun o => nextO o n 0
theorem levO_succ (n m : Nat) : levO n (m + 1) = (levO n m).flatMap fun o => nextO o n 0 := rfl
theorem levO_end : ∀ n : Fin 7, levO n (n + 1) = [] := by decide +kernel
theorem levO_size : ∀ n : Fin 7, ∀ m : Fin 7, (levO n m).length ≤ 720 := by decide +kernel
theorem levO_mem {n m : Nat} {p : List Int} (h : p ∈ levO n (m + 1)) : ∃ o ∈ levO n m, ∃ i : Nat, i < n ∧ ¬ (i : Int) ∈ o ∧ p = o ++ [(i : Int)] := by
  rw [levO_succ, List.mem_flatMap] at h
  obtain ⟨o, ho, h⟩ := h
  obtain ⟨i, _, h2, h3, h4⟩ := (mem_nextO o p n 0).1 h
  exact ⟨o, ho, i, by omega, h3, h4⟩
theorem levO_of {n m : Nat} {o : List Int} (ho : o ∈ levO n m) (i : Nat) (hi : i < n) (hn : ¬ (i : Int) ∈ o) : o ++ [(i : Int)] ∈ levO n (m + 1) := by
  rw [levO_succ, List.mem_flatMap]
  exact ⟨o, ho, (mem_nextO o _ n 0).2 ⟨i, by omega, by omega, hn, rfl⟩⟩
theorem levO_len {n : Nat} : ∀ {m : Nat} {o : List Int}, o ∈ levO n m → o.length = m ∧ ∀ x ∈ o, 0 ≤ x ∧ x < (n : Int)
  | 0, o, h => by
    have : o = [] := by simpa [levO] using h
    subst this
    simp
  | m + 1, p, h => by
    obtain ⟨o, ho, i, hi, _, rfl⟩ := levO_mem h
    have := levO_len ho
    refine ⟨by simp [this.1], fun x hx => ?_⟩
    rcases List.mem_append.1 hx with hx | hx
    · exact this.2 x hx
    · have : x = (i : Int) := by simpa using hx
      omega
def bestO (g : Int → Int → Int) (a : Int) (n : Nat) : Nat → Nat → Int → Int
  | 0, _, b => b
  | q + 1, m, b => bestO g a n q (m + 1) ((levO n m).foldl (fun z o => mx z (o.foldl g a)) b)
theorem bestO_nil (g : Int → Int → Int) (a : Int) (n : Nat) : ∀ q m b, levO n m = [] → bestO g a n q m b = b
  | 0, _, _, _ => rfl
  | q + 1, m, b, h => by
    show bestO g a n q (m + 1) ((levO n m).foldl _ b) = b
    rw [h]
    exact bestO_nil g a n q (m + 1) b (by rw [levO_succ, h]; rfl)
theorem fold_mx_ge (f : List Int → Int) : ∀ (l : List (List Int)) (b : Int), b ≤ l.foldl (fun z o => mx z (f o)) b ∧ ∀ o ∈ l, f o ≤ l.foldl (fun z o => mx z (f o)) b
  | [], b => ⟨Int.le_refl _, fun o h => by cases h⟩
  | x :: l, b => by
    have h := fold_mx_ge f l (mx b (f x))
    have h1 : b ≤ mx b (f x) := by unfold mx; split <;> omega
    have h2 : f x ≤ mx b (f x) := by unfold mx; split <;> omega
    rw [List.foldl_cons]
    refine ⟨by omega, fun o ho => ?_⟩
    rcases List.mem_cons.1 ho with rfl | ho
    · omega
    · exact h.2 o ho
theorem fold_mx_le (f : List Int → Int) (U : Int) : ∀ (l : List (List Int)) (b : Int), b ≤ U → (∀ o ∈ l, f o ≤ U) → l.foldl (fun z o => mx z (f o)) b ≤ U
  | [], b, h, _ => h
  | x :: l, b, h, hx => by
    rw [List.foldl_cons]
    have := hx x (List.mem_cons_self ..)
    exact fold_mx_le f U l _ (by unfold mx; split <;> omega) (fun o ho => hx o (List.mem_cons_of_mem _ ho))
theorem bestO_le (g : Int → Int → Int) (a : Int) (n : Nat) (U : Int) (h : ∀ m, ∀ o ∈ levO n m, o.foldl g a ≤ U) : ∀ q m b, b ≤ U → bestO g a n q m b ≤ U
  | 0, _, _, hb => hb
  | q + 1, m, b, hb => bestO_le g a n U h q (m + 1) _ (fold_mx_le _ U _ _ hb (h m))
theorem bestO_ge0 (g : Int → Int → Int) (a : Int) (n : Nat) : ∀ q m b, b ≤ bestO g a n q m b
  | 0, _, _ => Int.le_refl _
  | q + 1, m, b => Int.le_trans (fold_mx_ge _ _ _).1 (bestO_ge0 g a n q (m + 1) _)
theorem bestO_ge (g : Int → Int → Int) (a : Int) (n : Nat) (o : List Int) : ∀ q m b m', m ≤ m' → m' < m + q → o ∈ levO n m' → o.foldl g a ≤ bestO g a n q m b
  | 0, m, b, m', h, h', _ => by omega
  | q + 1, m, b, m', h, h', ho => by
    rcases Nat.lt_or_ge m m' with c | c
    · exact bestO_ge g a n o q (m + 1) _ m' c (by omega) ho
    · obtain rfl : m' = m := by omega
      exact Int.le_trans ((fold_mx_ge _ _ _).2 o ho) (bestO_ge0 g a n q (m' + 1) _)
/-- One number of the table over sets. -/
def dpI (g : Int → Int → Int) (D : Nat → Int) (c : Nat) : Nat → Nat → Int → Int
  | 0, _, b => b
  | d + 1, i, b => dpI g D c d (i + 1) (if c.testBit i = true then mx b (g (D (c - 2 ^ i)) (i : Int)) else b)
theorem dpI_succ (g : Int → Int → Int) (D : Nat → Int) (c d i : Nat) (b : Int) : dpI g D c (d + 1) i b = dpI g D c d (i + 1) (if c.testBit i = true then mx b (g (D (c - 2 ^ i)) (i : Int)) else b) := rfl
theorem dpI_ge (g : Int → Int → Int) (D : Nat → Int) (c : Nat) : ∀ d i b, b ≤ dpI g D c d i b
  | 0, _, _ => Int.le_refl _
  | d + 1, i, b => by
    rw [dpI_succ]
    refine Int.le_trans ?_ (dpI_ge g D c d (i + 1) _)
    split
    · unfold mx; split <;> omega
    · omega
theorem dpI_bit (g : Int → Int → Int) (D : Nat → Int) (c j : Nat) (hj : c.testBit j = true) : ∀ d i b, i ≤ j → j < i + d → g (D (c - 2 ^ j)) (j : Int) ≤ dpI g D c d i b
  | 0, i, b, h, h' => by omega
  | d + 1, i, b, h, h' => by
    rw [dpI_succ]
    rcases Nat.lt_or_ge i j with e | e
    · exact dpI_bit g D c j hj d (i + 1) _ e (by omega)
    · obtain rfl : i = j := by omega
      refine Int.le_trans ?_ (dpI_ge g D c d (i + 1) _)
      rw [if_pos hj]
      unfold mx; split <;> omega
theorem dpI_or (g : Int → Int → Int) (D : Nat → Int) (c : Nat) : ∀ d i b, dpI g D c d i b = b ∨ ∃ j, i ≤ j ∧ j < i + d ∧ c.testBit j = true ∧ dpI g D c d i b = g (D (c - 2 ^ j)) (j : Int)
  | 0, _, _ => .inl rfl
  | d + 1, i, b => by
    rw [dpI_succ]
    rcases dpI_or g D c d (i + 1) (if c.testBit i = true then mx b (g (D (c - 2 ^ i)) (i : Int)) else b) with h | ⟨j, h1, h2, h3, h4⟩
    · rw [h]
      by_cases t : c.testBit i = true
      · rw [if_pos t]
        unfold mx
        split
        · exact .inr ⟨i, by omega, by omega, t, rfl⟩
        · exact .inl rfl
      · rw [if_neg t]
        exact .inl rfl
    · exact .inr ⟨j, by omega, by omega, h3, h4⟩
theorem bit1 : ∀ c : Fin 64, ∀ i : Fin 6, c.val.testBit i.val = true → c.val - 2 ^ i.val < c.val ∧ (c.val - 2 ^ i.val).testBit i.val = false ∧ ∀ j : Fin 6, (c.val - 2 ^ i.val).testBit j.val = true → c.val.testBit j.val = true := by decide +kernel
theorem bit2 : ∀ n : Fin 7, ∀ c : Fin 64, ∀ i : Fin 6, c.val < 2 ^ n.val → i.val < n.val → c.val.testBit i.val = false → c.val + 2 ^ i.val < 2 ^ n.val ∧ (c.val + 2 ^ i.val).testBit i.val = true ∧ ∀ j : Fin 6, (c.val + 2 ^ i.val).testBit j.val = true → j = i ∨ c.val.testBit j.val = true := by decide +kernel
theorem bit3 : ∀ n : Fin 7, ∀ c : Fin 64, c.val < 2 ^ n.val → c.val = 2 ^ n.val - 1 ∨ ∃ i : Fin 6, i.val < n.val ∧ c.val.testBit i.val = false := by decide +kernel
theorem pow_le64 (n : Nat) (hn : n ≤ 6) : 2 ^ n ≤ 64 ∧ 1 ≤ 2 ^ n := ⟨Nat.pow_le_pow_right (by omega) hn, Nat.one_le_two_pow⟩
/-- The best over all orders is the table's last number. -/
theorem bestO_eq (g : Int → Int → Int) (a : Int) (n : Nat) (hn : n ≤ 6) (D : Nat → Int) (hD : ∀ c, c < 2 ^ n → D c = dpI g D c n 0 a) (hg : ∀ x i, x ≤ g x i) (ha : 0 ≤ a) (hm : ∀ x y : Int, ∀ i, 0 ≤ x → x ≤ y → g x i ≤ g y i) : bestO g a n (n + 1) 0 a = D (2 ^ n - 1) := by
  have fge : ∀ (o : List Int) (x : Int), x ≤ o.foldl g x := by
    intro o
    induction o with
    | nil => intro x; exact Int.le_refl _
    | cons i o ih => intro x; exact Int.le_trans (hg x i) (ih _)
  have hp := pow_le64 n hn
  have up : ∀ c, c < 2 ^ n → ∀ i, i < n → c.testBit i = false → g (D c) (i : Int) ≤ D (c + 2 ^ i) := by
    intro c hc i hi ht
    have h := bit2 ⟨n, by omega⟩ ⟨c, by omega⟩ ⟨i, by omega⟩ hc hi ht
    simp only at h
    rw [hD (c + 2 ^ i) h.1]
    have := dpI_bit g D (c + 2 ^ i) i h.2.1 n 0 a (by omega) (by omega)
    rwa [Nat.add_sub_cancel] at this
  have full : ∀ q c, c + q = 2 ^ n → 0 < q → D c ≤ D (2 ^ n - 1) := by
    intro q
    induction q using Nat.strongRecOn with
    | _ q ih =>
      intro c hc hq
      rcases bit3 ⟨n, by omega⟩ ⟨c, by omega⟩ (by show c < 2 ^ n; omega) with h | ⟨i, hi, ht⟩
      · simp only at h
        rw [h]
        exact Int.le_refl _
      · have h := bit2 ⟨n, by omega⟩ ⟨c, by omega⟩ i (by show c < 2 ^ n; omega) hi ht
        simp only at h hi ht
        have h1 := up c (by omega) i.val hi ht
        have h2 := hg (D c) (i.val : Int)
        have hpos : 0 < 2 ^ i.val := Nat.two_pow_pos _
        have h3 := ih (q - 2 ^ i.val) (by omega) (c + 2 ^ i.val) (by omega) (by omega)
        omega
  have upper : ∀ m, ∀ o ∈ levO n m, ∃ c, c < 2 ^ n ∧ (∀ j, j < n → c.testBit j = true → (j : Int) ∈ o) ∧ o.foldl g a ≤ D c := by
    intro m
    induction m with
    | zero =>
      intro o ho
      have : o = [] := by simpa [levO] using ho
      subst this
      refine ⟨0, by omega, fun j _ hj => by simp at hj, ?_⟩
      rw [hD 0 (by omega)]
      exact dpI_ge g D 0 n 0 a
    | succ m ih =>
      intro p hp'
      obtain ⟨o, ho, i, hi, hni, rfl⟩ := levO_mem hp'
      obtain ⟨c, hc, hb, hf⟩ := ih o ho
      have ht : c.testBit i = false := by
        cases h : c.testBit i with
        | false => rfl
        | true => exact absurd (hb i hi h) hni
      have h := bit2 ⟨n, by omega⟩ ⟨c, by omega⟩ ⟨i, by omega⟩ hc hi ht
      simp only at h
      refine ⟨c + 2 ^ i, h.1, fun j hj hjb => ?_, ?_⟩
      · rcases h.2.2 ⟨j, by omega⟩ hjb with e | e
        · have : j = i := congrArg Fin.val e
          rw [this]; simp
        · exact List.mem_append_left _ (hb j hj e)
      · rw [List.foldl_append]
        exact Int.le_trans (hm _ _ _ (Int.le_trans ha (fge o a)) hf) (up c hc i hi ht)
  have lower : ∀ c, c < 2 ^ n → ∃ m, m ≤ n ∧ ∃ o ∈ levO n m, (∀ j, j < n → (j : Int) ∈ o → c.testBit j = true) ∧ D c ≤ o.foldl g a := by
    intro c
    induction c using Nat.strongRecOn with
    | _ c ih =>
      intro hc
      rcases dpI_or g D c n 0 a with h | ⟨i, _, hi, ht, h⟩
      · refine ⟨0, by omega, [], by simp [levO], fun j _ hj => (by cases hj), ?_⟩
        rw [hD c hc, h]
        exact Int.le_refl _
      · have hi : i < n := by omega
        have hb := bit1 ⟨c, by omega⟩ ⟨i, by omega⟩ ht
        simp only at hb
        obtain ⟨m, hmn, o, ho, hob, hof⟩ := ih (c - 2 ^ i) hb.1 (by omega)
        have hni : ¬ (i : Int) ∈ o := fun hin => by
          have := hob i hi hin
          rw [hb.2.1] at this
          cases this
        have hnew := levO_of ho i hi hni
        refine ⟨m + 1, ?_, o ++ [(i : Int)], hnew, fun j hj hjm => ?_, ?_⟩
        · rcases Nat.lt_or_ge m n with e | e
          · exact e
          · obtain rfl : m = n := by omega
            have := levO_end ⟨m, by omega⟩
            simp only at this
            rw [this] at hnew
            cases hnew
        · rcases List.mem_append.1 hjm with e | e
          · exact hb.2.2 ⟨j, by omega⟩ (hob j hj e)
          · have e' : (j : Int) = (i : Int) := by simpa using e
            rw [show j = i by omega]
            exact ht
        · rw [hD c hc, h, List.foldl_append]
          have h0 := dpI_ge g D (c - 2 ^ i) n 0 a
          rw [← hD (c - 2 ^ i) (by omega)] at h0
          exact hm _ _ _ (Int.le_trans ha h0) hof
  apply Int.le_antisymm
  · refine bestO_le g a n _ (fun m o ho => ?_) (n + 1) 0 a ?_
    · obtain ⟨c, hc, _, hf⟩ := upper m o ho
      exact Int.le_trans hf (full (2 ^ n - c) c (by omega) (by omega))
    · rw [hD _ (by omega)]
      exact dpI_ge ..
  · obtain ⟨m, hmn, o, ho, _, hof⟩ := lower (2 ^ n - 1) (by omega)
    exact Int.le_trans hof (bestO_ge g a n o (n + 1) 0 a m (by omega) (by omega) ho)
/-! ### tours: the least over splits of the places in order is the least over all ways to the right -/
theorem le_foldMin {β : Type} (f : β → Int) (x : Int) : ∀ (l : List β) (b : Int), x ≤ l.foldl (fun b i => min b (f i)) b ↔ x ≤ b ∧ ∀ i ∈ l, x ≤ f i
  | [], b => by simp
  | a :: l, b => by
    rw [List.foldl_cons, le_foldMin f x l, List.forall_mem_cons, Int.le_min, and_assoc]
theorem foldMax_le {β : Type} (f : β → Int) (x : Int) : ∀ (l : List β) (b : Int), l.foldl (fun b i => max b (f i)) b ≤ x ↔ b ≤ x ∧ ∀ i ∈ l, f i ≤ x
  | [], b => by simp
  | a :: l, b => by
    rw [List.foldl_cons, foldMax_le f x l, List.forall_mem_cons, Int.max_le, and_assoc]
theorem foldMax_perm {β : Type} (f : β → Int) {l l' : List β} (h : ∀ i, i ∈ l ↔ i ∈ l') (b : Int) : l.foldl (fun b i => max b (f i)) b = l'.foldl (fun b i => max b (f i)) b := by
  apply Int.le_antisymm
  · rw [foldMax_le]
    have := (foldMax_le f _ l' b).1 (Int.le_refl _)
    exact ⟨this.1, fun i hi => this.2 i ((h i).1 hi)⟩
  · rw [foldMax_le]
    have := (foldMax_le f _ l b).1 (Int.le_refl _)
    exact ⟨this.1, fun i hi => this.2 i ((h i).2 hi)⟩
/-- How far one goes to the left where one goes so far to the right. -/
def leftAt (s : Int) (fs : List Int) (right : Int) : Int := fs.foldl (fun m f => max m (if right < f then s - f else 0)) 0
theorem leftAt_nn (s : Int) (fs : List Int) (right : Int) : 0 ≤ leftAt s fs right := ((foldMax_le _ _ fs 0).1 (Int.le_refl _)).1
theorem leftAt_ge {s : Int} {fs : List Int} {right f : Int} (hf : f ∈ fs) (h : right < f) : s - f ≤ leftAt s fs right := by
  have := ((foldMax_le (fun f => if right < f then s - f else 0) _ fs 0).1 (Int.le_refl _)).2 f hf
  rw [if_pos h] at this
  exact this
theorem leftAt_le {s : Int} {fs : List Int} {right x : Int} (h0 : 0 ≤ x) (h : ∀ f ∈ fs, right < f → s - f ≤ x) : leftAt s fs right ≤ x := by
  unfold leftAt
  rw [foldMax_le]
  refine ⟨h0, fun f hf => ?_⟩
  by_cases c : right < f
  · rw [if_pos c]; exact h f hf c
  · rw [if_neg c]; exact h0
/-- The least over all ways to the right. -/
def bestTo (s : Int) (c : Int → Int → Int) (fs : List Int) : Int := (List.range s.toNat).foldl (fun (b : Int) (i : Nat) => min b (c (leftAt s fs (i : Int)) (i : Int))) s
def upK (us : List Int) (k : Nat) : Int := if 0 < k then rd us ((k : Int) - 1) else 0
def downK (s : Int) (us : List Int) (k : Nat) : Int := if k < us.length then s - rd us (k : Int) else 0
/-- The least over all splits of the places in order. -/
def bestSp (s : Int) (c : Int → Int → Int) (us : List Int) (b0 : Int) : Int := (List.range (us.length + 1)).foldl (fun (b : Int) (k : Nat) => min b (c (downK s us k) (upK us k))) b0
theorem rd_nat (l : List Int) (i : Nat) (h : i < l.length) : rd l (i : Int) = l[i] := by
  unfold rd
  simp [List.getD_eq_getElem?_getD, h]
/-- Where a number parts a list in order. -/
theorem part_at (x : Int) : ∀ (us : List Int), us.Pairwise (· ≤ ·) → ∃ k, k ≤ us.length ∧ (∀ j (h : j < us.length), j < k → us[j] ≤ x) ∧ (∀ j (h : j < us.length), k ≤ j → x < us[j])
  | [], _ => ⟨0, by simp, fun j h => by simp at h, fun j h => by simp at h⟩
  | u :: us, hp => by
    rw [List.pairwise_cons] at hp
    by_cases c : u ≤ x
    · obtain ⟨k, hk, h1, h2⟩ := part_at x us hp.2
      refine ⟨k + 1, by simpa using hk, fun j h hj => ?_, fun j h hj => ?_⟩
      · cases j with
        | zero => exact c
        | succ j => exact h1 j (by simpa using h) (by omega)
      · cases j with
        | zero => omega
        | succ j => exact h2 j (by simpa using h) (by omega)
    · refine ⟨0, Nat.zero_le _, fun j h hj => by omega, fun j h _ => ?_⟩
      cases j with
      | zero => simpa using (by omega : x < u)
      | succ j =>
        have hj : j < us.length := by simpa using h
        have := hp.1 us[j] (List.getElem_mem hj)
        simp only [List.getElem_cons_succ]
        omega
theorem best_split (s : Int) (c : Int → Int → Int) (fs us : List Int) (b0 : Int) (hs : 2 ≤ s) (hf : ∀ f ∈ fs, 0 ≤ f ∧ f < s) (hu : ∀ u, u ∈ us ↔ u ∈ fs ∧ u ≠ 0) (hp : us.Pairwise (· ≤ ·))
    (hc : ∀ a b a' b', 0 ≤ a → 0 ≤ b → a ≤ a' → b ≤ b' → c a b ≤ c a' b') (hb : s ≤ b0) (hz : b0 = s ∨ ∀ d, 0 ≤ d → d ≤ s → c d 0 ≤ s) : bestSp s c us b0 = bestTo s c fs := by
  have hup : ∀ k, k ≤ us.length → 0 ≤ upK us k ∧ upK us k < s := by
    intro k hk
    unfold upK
    by_cases h : 0 < k
    · rw [if_pos h, show ((k : Int) - 1) = ((k - 1 : Nat) : Int) by omega, rd_nat us (k - 1) (by omega)]
      exact hf _ ((hu _).1 (List.getElem_mem _)).1
    · rw [if_neg h]; omega
  have hdn : ∀ k, 0 ≤ downK s us k ∧ downK s us k ≤ s := by
    intro k
    unfold downK
    by_cases h : k < us.length
    · rw [if_pos h, rd_nat us k h]
      have := hf _ ((hu _).1 (List.getElem_mem h)).1
      omega
    · rw [if_neg h]; omega
  have hmono : ∀ i j (hi : i < us.length) (hj : j < us.length), i ≤ j → us[i] ≤ us[j] := by
    intro i j hi hj hij
    rcases Nat.lt_or_ge i j with h | h
    · exact List.pairwise_iff_getElem.1 hp i j hi hj h
    · have : i = j := by omega
      subst this
      exact Int.le_refl _
  apply Int.le_antisymm
  · -- the splits' least is no more
    unfold bestTo
    have H := (le_foldMin (fun k => c (downK s us k) (upK us k)) (bestSp s c us b0) (List.range (us.length + 1)) b0).1 (Int.le_refl _)
    rw [le_foldMin]
    constructor
    · rcases hz with rfl | hz
      · exact H.1
      · have h0 := H.2 0 (List.mem_range.2 (by omega))
        have := hz (downK s us 0) (hdn 0).1 (hdn 0).2
        have hu0 : upK us 0 = 0 := rfl
        rw [hu0] at h0
        omega
    · intro i hi
      obtain ⟨k, hk, h1, h2⟩ := part_at (i : Int) us hp
      have h3 := H.2 k (List.mem_range.2 (by omega))
      refine Int.le_trans h3 (hc _ _ _ _ (hdn k).1 (hup k hk).1 ?_ ?_)
      · unfold downK
        by_cases h : k < us.length
        · rw [if_pos h, rd_nat us k h]
          exact leftAt_ge ((hu _).1 (List.getElem_mem h)).1 (h2 k h (Nat.le_refl _))
        · rw [if_neg h]; exact leftAt_nn _ _ _
      · unfold upK
        by_cases h : 0 < k
        · rw [if_pos h, show ((k : Int) - 1) = ((k - 1 : Nat) : Int) by omega, rd_nat us (k - 1) (by omega)]
          exact h1 (k - 1) (by omega) (by omega)
        · rw [if_neg h]; omega
  · unfold bestSp
    have H := (le_foldMin (fun i : Nat => c (leftAt s fs (i : Int)) (i : Int)) (bestTo s c fs) (List.range s.toNat) s).1 (Int.le_refl _)
    rw [le_foldMin]
    refine ⟨Int.le_trans H.1 hb, fun k hk => ?_⟩
    have hk := List.mem_range.1 hk
    obtain ⟨u, hu0⟩ := Int.eq_ofNat_of_zero_le (hup k (by omega)).1
    have hlt := (hup k (by omega)).2
    have h3 := H.2 u (List.mem_range.2 (by omega))
    rw [← hu0] at h3
    refine Int.le_trans h3 (hc _ _ _ _ (leftAt_nn _ _ _) (hup k (by omega)).1 (leftAt_le (hdn k).1 (fun f hf1 hf2 => ?_)) (Int.le_refl _))
    have hfu : f ∈ us := (hu f).2 ⟨hf1, by have := (hup k (by omega)).1; omega⟩
    obtain ⟨j, hj, rfl⟩ := List.getElem_of_mem hfu
    have hkj : k ≤ j := by
      rcases Nat.lt_or_ge j k with h | h
      · exfalso
        have := hmono j (k - 1) hj (by omega) (by omega)
        unfold upK at hf2
        rw [if_pos (by omega), show ((k : Int) - 1) = ((k - 1 : Nat) : Int) by omega, rd_nat us (k - 1) (by omega)] at hf2
        omega
      · exact h
    unfold downK
    rw [if_pos (by omega), rd_nat us k (by omega)]
    have := hmono k j (by omega) hj hkj
    omega
theorem hi2_max (a b : Int) : hi2 a b = max a b := by unfold hi2; split <;> omega
theorem lo2_min (a b : Int) : lo2 a b = min a b := by unfold lo2; split <;> omega
theorem mx_max (a b : Int) : mx a b = max a b := by unfold mx; split <;> omega
theorem mn_min (a b : Int) : mn a b = min a b := by unfold mn; split <;> omega
theorem rd_all {P : Int → Prop} {l : List Int} (hx : ∀ x ∈ l, P x) (i : Nat) (h : i < l.length) : P (rd l (i : Int)) := by
  rw [rd_nat l i h]
  exact hx _ (List.getElem_mem h)
def upRing (s p q : Int) : Int := Int.tmod (q - p + s) s
theorem upRing_bd {s p q : Int} (hs : 2 ≤ s) (hp : 0 ≤ p ∧ p ≤ s - 1) (hq : 0 ≤ q ∧ q ≤ s - 1) : 0 ≤ upRing s p q ∧ upRing s p q < s := by
  unfold upRing
  rw [Int.tmod_eq_emod_of_nonneg (by omega)]
  exact ⟨Int.emod_nonneg _ (by omega), Int.emod_lt_of_pos _ (by omega)⟩
def costT (a b : Int) : Int := a + b + min a b
def costB (a b : Int) : Int := 2 * (a + b)
theorem costT_mono : ∀ a b a' b' : Int, 0 ≤ a → 0 ≤ b → a ≤ a' → b ≤ b' → costT a b ≤ costT a' b' := by
  intro a b a' b' _ _ _ _
  unfold costT
  omega
theorem costB_mono : ∀ a b a' b' : Int, 0 ≤ a → 0 ≤ b → a ≤ a' → b ≤ b' → costB a b ≤ costB a' b' := by
  intro a b a' b' _ _ _ _
  unfold costB
  omega
/-- Where the line's places lead to: left and right. -/
def leftL (p : Int) (l : List Int) (a : Int) : Int := l.foldl (fun m q => max m (p - q)) a
def rightL (p : Int) (l : List Int) (a : Int) : Int := l.foldl (fun m q => max m (q - p)) a
/-- The least time of a way through places: on a ring over all ways to the right. -/
def wayM (c : Int → Int → Int) (s : Int) (r : Bool) (p : Int) (l : List Int) : Int := if r = true then bestTo s c (l.map (upRing s p)) else c (leftL p l 0) (rightL p l 0)
theorem foldMax_bd {f : Int → Int} {l : List Int} {a B : Int} (ha : 0 ≤ a ∧ a ≤ B) (hf : ∀ x ∈ l, f x ≤ B) : 0 ≤ l.foldl (fun m q => max m (f q)) a ∧ l.foldl (fun m q => max m (f q)) a ≤ B := by
  refine ⟨Int.le_trans ha.1 ((foldMax_le f _ l a).1 (Int.le_refl _)).1, (foldMax_le f B l a).2 ⟨ha.2, hf⟩⟩
theorem leftL_bd {p : Int} {l : List Int} {a B : Int} (hp : 0 ≤ p ∧ p ≤ B) (hx : ∀ x ∈ l, 0 ≤ x ∧ x ≤ B) (ha : 0 ≤ a ∧ a ≤ B) : 0 ≤ leftL p l a ∧ leftL p l a ≤ B := foldMax_bd ha (fun x h => by have := hx x h; omega)
theorem rightL_bd {p : Int} {l : List Int} {a B : Int} (hp : 0 ≤ p ∧ p ≤ B) (hx : ∀ x ∈ l, 0 ≤ x ∧ x ≤ B) (ha : 0 ≤ a ∧ a ≤ B) : 0 ≤ rightL p l a ∧ rightL p l a ≤ B := foldMax_bd ha (fun x h => by have := hx x h; omega)
def lfF (s p right : Int) (m q : Int) : Int := max m (if right < upRing s p q then s - upRing s p q else 0)
theorem leftAt_map (s p right : Int) (l : List Int) : leftAt s (l.map (upRing s p)) right = l.foldl (lfF s p right) 0 := by
  unfold leftAt
  rw [List.foldl_map]
  rfl
theorem lfF_bd {s p right : Int} (hs : 2 ≤ s) (hp : 0 ≤ p ∧ p ≤ s - 1) : ∀ {l : List Int} {a : Int}, (∀ x ∈ l, 0 ≤ x ∧ x ≤ s - 1) → (0 ≤ a ∧ a ≤ s) → 0 ≤ l.foldl (lfF s p right) a ∧ l.foldl (lfF s p right) a ≤ s := by
  intro l a hx ha
  exact foldMax_bd (f := fun q => if right < upRing s p q then s - upRing s p q else 0) ha (fun x h => by
    have h2 := upRing_bd hs hp (hx x h)
    by_cases c : right < upRing s p x
    · simp only [c, if_true]; omega
    · simp only [c, if_false]; omega)
def bestR (s : Int) (c : Int → Int → Int) (p : Int) (l : List Int) (i d : Nat) (b : Int) : Int := (List.range' i d).foldl (fun (b : Int) (i : Nat) => min b (c (l.foldl (lfF s p (i : Int)) 0) (i : Int))) b
theorem bestR_succ (s : Int) (c : Int → Int → Int) (p : Int) (l : List Int) (i d : Nat) (b : Int) : bestR s c p l i (d + 1) b = bestR s c p l (i + 1) d (min b (c (l.foldl (lfF s p (i : Int)) 0) (i : Int))) := by
  unfold bestR
  rw [List.range'_succ, List.foldl_cons]
theorem bestR_all (s : Int) (c : Int → Int → Int) (p : Int) (l : List Int) : bestR s c p l 0 s.toNat s = bestTo s c (l.map (upRing s p)) := by
  unfold bestR bestTo
  rw [List.range_eq_range']
  congr 1
  funext b i
  rw [leftAt_map]
def bestK (s : Int) (c : Int → Int → Int) (us : List Int) (i d : Nat) (b : Int) : Int := (List.range' i d).foldl (fun (b : Int) (k : Nat) => min b (c (downK s us k) (upK us k))) b
theorem bestK_succ (s : Int) (c : Int → Int → Int) (us : List Int) (i d : Nat) (b : Int) : bestK s c us i (d + 1) b = bestK s c us (i + 1) d (min b (c (downK s us i) (upK us i))) := by
  unfold bestK
  rw [List.range'_succ, List.foldl_cons]
theorem bestK_all (s : Int) (c : Int → Int → Int) (us : List Int) (b : Int) : bestK s c us 0 (us.length + 1) b = bestSp s c us b := by
  unfold bestK bestSp
  rw [List.range_eq_range']
def upM (s : Int) (r : Bool) (p q : Int) : Int := if r = true then upRing s p q else q - p
theorem upM_bd {s p q : Int} {r : Bool} (hs : 2 ≤ s) (hp : 0 ≤ p ∧ p ≤ s - 1) (hq : 0 ≤ q ∧ q ≤ s - 1) : -s ≤ upM s r p q ∧ upM s r p q < s := by
  unfold upM
  have := upRing_bd hs hp hq
  cases r <;> simp <;> omega
def upF (us : List Int) (a : Int) : Int := us.foldl (fun m u => max m u) a
def dnF (us : List Int) (a : Int) : Int := us.foldl (fun m u => max m (-u)) a
theorem upF_bd {us : List Int} {a B : Int} (ha : 0 ≤ a ∧ a ≤ B) (hu : ∀ u ∈ us, u ≤ B) : 0 ≤ upF us a ∧ upF us a ≤ B := foldMax_bd (f := fun u => u) ha hu
theorem dnF_bd {us : List Int} {a B : Int} (ha : 0 ≤ a ∧ a ≤ B) (hu : ∀ u ∈ us, -u ≤ B) : 0 ≤ dnF us a ∧ dnF us a ≤ B := foldMax_bd (f := fun u => -u) ha hu
theorem costT_comm (a b : Int) : costT a b = costT b a := by unfold costT; omega
theorem costB_comm (a b : Int) : costB a b = costB b a := by unfold costB; omega
theorem downK_bd {s : Int} {us : List Int} (hs : 2 ≤ s) (hu : ∀ u ∈ us, 0 ≤ u ∧ u ≤ s - 1) (k : Nat) : 0 ≤ downK s us k ∧ downK s us k ≤ s := by
  unfold downK
  by_cases h : k < us.length
  · have := rd_all hu k h
    rw [if_pos h]
    omega
  · rw [if_neg h]; omega
theorem upK_bd {s : Int} {us : List Int} (hs : 2 ≤ s) (hu : ∀ u ∈ us, 0 ≤ u ∧ u ≤ s - 1) (k : Nat) (hk : k ≤ us.length) : 0 ≤ upK us k ∧ upK us k ≤ s := by
  unfold upK
  by_cases h : 0 < k
  · have := rd_all hu (k - 1) (by omega)
    rw [if_pos h, show ((k : Int) - 1) = ((k - 1 : Nat) : Int) by omega]
    omega
  · rw [if_neg h]; omega
def exts (L : List (List Int)) : List (List Int) := L.flatMap fun x => [x ++ [-1], x ++ [0], x ++ [1]]
def plansM : Nat → List (List Int)
  | 0 => [[]]
  | n + 1 => exts (plansM n)
theorem exts_cons (x : List Int) (L : List (List Int)) : exts (x :: L) = [x ++ [-1], x ++ [0], x ++ [1]] ++ exts L := by
  unfold exts
  rw [List.flatMap_cons]
theorem exts_len : ∀ L : List (List Int), (exts L).length = 3 * L.length
  | [] => rfl
  | x :: L => by
    rw [exts_cons, List.length_append, exts_len L]
    simp only [List.length_cons, List.length_nil]
    omega
theorem plansM_len : ∀ n, (plansM n).length = 3 ^ n
  | 0 => rfl
  | n + 1 => by
    show (exts (plansM n)).length = _
    rw [exts_len, plansM_len n, Nat.pow_succ, Nat.mul_comm]
theorem plansM_mem : ∀ n, ∀ x ∈ plansM n, x.length = n ∧ ∀ y ∈ x, -1 ≤ y ∧ y ≤ 1
  | 0, x, hx => by
    have : x = [] := by simpa [plansM] using hx
    subst this
    exact ⟨rfl, fun y hy => by cases hy⟩
  | n + 1, x, hx => by
    unfold plansM exts at hx
    obtain ⟨z, hz, hx⟩ := List.mem_flatMap.1 hx
    have ih := plansM_mem n z hz
    simp only [List.mem_cons, List.not_mem_nil, or_false] at hx
    rcases hx with rfl | rfl | rfl <;> (refine ⟨by simp [ih.1], fun y hy => ?_⟩; rcases List.mem_append.1 hy with hy | hy; exact ih.2 y hy; (have : y = _ := List.mem_singleton.1 hy); omega)
theorem rdLLp (ws : List (List Int)) (i : Nat) (h : i < ws.length) : rd_L1 ws (i : Int) = ws[i] := by
  unfold rd_L1
  simp [List.getD_eq_getElem?_getD, h]
theorem drop_rdLLp (ws : List (List Int)) (i : Nat) (h : i < ws.length) : ws.drop i = rd_L1 ws (i : Int) :: ws.drop (i + 1) := by
  rw [List.drop_eq_getElem_cons h, rdLLp ws i h]
theorem rdLLp_mem (ws : List (List Int)) (i : Nat) (h : i < ws.length) : rd_L1 ws (i : Int) ∈ ws := by
  rw [rdLLp ws i h]
  exact List.getElem_mem h
theorem spec_own_p (l : List Int) (h : l.length ≤ 1000) : spec_l1Own.f l = some l := by
  unfold spec_l1Own.f
  rw [Option.bind_some, if_pos (by simp only [List.length_nil]; omega), List.nil_append]
theorem impl_copied_p (l : List Int) (h : l.length ≤ 1000) : impl_copied.f l = some l := by
  unfold impl_copied.f
  rw [Option.bind_some, if_pos (by simp only [List.length_nil]; omega), List.nil_append]
theorem plans_l2s (k : Nat) (x0 x4 m : Int) (x3 x5 : List (List Int)) (j : Nat) (hj : j < x3.length) (hx : (rd_L1 x3 (j : Int)).length ≤ 100) (h5 : x5.length ≤ 1000) (hm : -1 ≤ m ∧ m < 2) :
    spec_l4Plans.l2 (k + 1) x0 x3 x4 x5 j m = spec_l4Plans.l2 k x0 x3 x4 (x5 ++ [rd_L1 x3 (j : Int) ++ [m]]) j (m + 1) := by
  simp only [spec_l4Plans.l2]
  rw [if_pos hm.2, if_pos (by omega), if_pos (by omega), spec_own_p _ (by omega), Option.bind_some, if_pos (by omega), if_pos (by omega), wrap64_id (by omega) (by omega)]
theorem plans_l2 (k : Nat) (x0 x4 : Int) (x3 x5 : List (List Int)) (j : Nat) (hj : j < x3.length) (hx : (rd_L1 x3 (j : Int)).length ≤ 100) (h5 : x5.length ≤ 900) (hl : x3.length ≤ 1000) :
    spec_l4Plans.l2 (k + 4) x0 x3 x4 x5 j (-1) = spec_l4Plans.l1 k x0 x3 x4 (x5 ++ [rd_L1 x3 (j : Int) ++ [-1], rd_L1 x3 (j : Int) ++ [0], rd_L1 x3 (j : Int) ++ [1]]) ((j + 1 : Nat) : Int) := by
  rw [plans_l2s (k + 3) x0 x4 (-1) x3 x5 j hj hx (by omega) (by omega), show (-1 : Int) + 1 = 0 from rfl, plans_l2s (k + 2) x0 x4 0 x3 _ j hj hx (by simp only [List.length_append, List.length_cons, List.length_nil]; omega) (by omega), show (0 : Int) + 1 = 1 from rfl, plans_l2s (k + 1) x0 x4 1 x3 _ j hj hx (by simp only [List.length_append, List.length_cons, List.length_nil]; omega) (by omega), show (1 : Int) + 1 = 2 from rfl]
  simp only [spec_l4Plans.l2]
  rw [if_neg (by omega), wrap64_id (by omega) (by omega)]
  simp only [List.append_assoc, List.cons_append, List.nil_append]
  rfl
theorem plans_l1 (x0 x4 : Int) (x3 v : List (List Int)) (hx : ∀ x ∈ x3, x.length ≤ 100) (hl : x3.length ≤ 100) (h4 : 0 ≤ x4 ∧ x4 ≤ 100) : ∀ (d j : Nat) (x5 : List (List Int)), j + d = x3.length → x5.length + 3 * d ≤ 800 → (∃ k, spec_l4Plans.l0 k x0 (x5 ++ exts (x3.drop j)) (x4 + 1) = some v) → ∃ k, spec_l4Plans.l1 k x0 x3 x4 x5 j = some v
  | 0, j, x5, hd, h5, ⟨k, e⟩ => by
    refine ⟨k + 1, ?_⟩
    simp only [spec_l4Plans.l1]
    rw [if_neg (by omega), wrap64_id (by omega) (by omega)]
    rw [drop_end x3 j (by omega)] at e
    simpa [exts] using e
  | d + 1, j, x5, hd, h5, ⟨k, e⟩ => by
    have hj : j < x3.length := by omega
    obtain ⟨k, e⟩ := plans_l1 x0 x4 x3 v hx hl h4 d (j + 1) (x5 ++ [rd_L1 x3 (j : Int) ++ [-1], rd_L1 x3 (j : Int) ++ [0], rd_L1 x3 (j : Int) ++ [1]]) (by omega) (by simp only [List.length_append, List.length_cons, List.length_nil]; omega) ⟨k, by rw [drop_rdLLp x3 j hj, exts_cons] at e; rw [List.append_assoc]; exact e⟩
    refine ⟨k + 5, ?_⟩
    simp only [spec_l4Plans.l1]
    rw [if_pos (by omega), plans_l2 k x0 x4 x3 x5 j hj (hx _ (rdLLp_mem x3 j hj)) (by omega) (by omega)]
    exact e
theorem plans_small (i : Nat) (h : i ≤ 3) : (plansM i).length ≤ 27 ∧ ∀ x ∈ plansM i, x.length ≤ 100 := by
  constructor
  · rw [plansM_len]
    exact Nat.pow_le_pow_right (by omega) h
  · intro x hx
    have := (plansM_mem i x hx).1
    omega
theorem plans_l0 (n : Nat) (hn : n ≤ 3) : ∀ d i : Nat, i + d = n → ∃ k, spec_l4Plans.l0 k (n : Int) (plansM i) i = some (plansM n)
  | 0, i, h => by
    obtain rfl : i = n := by omega
    refine ⟨1, ?_⟩
    simp only [spec_l4Plans.l0]
    rw [if_neg (by omega)]
  | d + 1, i, h => by
    have hs := plans_small i (by omega)
    obtain ⟨k, e⟩ := plans_l0 n hn d (i + 1) (by omega)
    obtain ⟨k, e⟩ := plans_l1 (n : Int) (i : Int) (plansM i) (plansM n) hs.2 (by omega) (by omega) (plansM i).length 0 [] (by omega) (by simp only [List.length_nil]; omega) ⟨k, e⟩
    refine ⟨k + 1, ?_⟩
    simp only [spec_l4Plans.l0]
    rw [if_pos (by omega)]
    exact e
theorem spec_plans (n : Nat) (hn : n ≤ 3) : ∃ k, spec_l4Plans.f k (n : Int) = some (plansM n) := plans_l0 n hn n 0 (by omega)
theorem moves_l2s (k : Nat) (x10 x11 m : Int) (x4 x14 : List (List Int)) (x : List Int) (x15 x16 : Int) (hx : x.length ≤ 100) (h5 : x4.length ≤ 1000) (hm : -1 ≤ m ∧ m < 2) :
    impl_allMoves.l2 (k + 1) x4 x m x10 x11 x14 x15 x16 = impl_allMoves.l2 k (x4 ++ [x ++ [m]]) x (m + 1) x10 x11 x14 x15 x16 := by
  simp only [impl_allMoves.l2]
  rw [if_pos (by omega), impl_copied_p _ (by omega), Option.bind_some, if_pos (by omega), if_pos (by omega), wrap64_id (by omega) (by omega)]
theorem moves_l2 (k : Nat) (x10 x11 : Int) (x4 x14 : List (List Int)) (x : List Int) (x15 : Int) (j : Nat) (hj : j ≤ 1000) (hx : x.length ≤ 100) (h5 : x4.length ≤ 900) :
    impl_allMoves.l2 (k + 4) x4 x (-1) x10 x11 x14 x15 j = impl_allMoves.l1 k (x4 ++ [x ++ [-1], x ++ [0], x ++ [1]]) x10 x11 x14 x15 ((j + 1 : Nat) : Int) := by
  rw [moves_l2s (k + 3) x10 x11 (-1) x4 x14 x x15 j hx (by omega) (by omega), show (-1 : Int) + 1 = 0 from rfl, moves_l2s (k + 2) x10 x11 0 _ x14 x x15 j hx (by simp only [List.length_append, List.length_cons, List.length_nil]; omega) (by omega), show (0 : Int) + 1 = 1 from rfl, moves_l2s (k + 1) x10 x11 1 _ x14 x x15 j hx (by simp only [List.length_append, List.length_cons, List.length_nil]; omega) (by omega), show (1 : Int) + 1 = 2 from rfl]
  simp only [impl_allMoves.l2]
  rw [if_neg (by omega), wrap64_id (by omega) (by omega)]
  simp only [List.append_assoc, List.cons_append, List.nil_append]
  rfl
theorem moves_l1 (x10 x11 : Int) (x14 v : List (List Int)) (hx : ∀ x ∈ x14, x.length ≤ 100) (hl : x14.length ≤ 100) (h4 : 0 ≤ x11 ∧ x11 ≤ 100) : ∀ (d j : Nat) (x4 : List (List Int)), j + d = x14.length → x4.length + 3 * d ≤ 800 → (∃ k, impl_allMoves.l0 k (x4 ++ exts (x14.drop j)) x10 (x11 + 1) = some v) → ∃ k, impl_allMoves.l1 k x4 x10 x11 x14 (x14.length : Int) j = some v
  | 0, j, x4, hd, h5, ⟨k, e⟩ => by
    refine ⟨k + 1, ?_⟩
    simp only [impl_allMoves.l1]
    rw [if_neg (by omega), wrap64_id (by omega) (by omega)]
    rw [drop_end x14 j (by omega)] at e
    simpa [exts] using e
  | d + 1, j, x4, hd, h5, ⟨k, e⟩ => by
    have hj : j < x14.length := by omega
    obtain ⟨k, e⟩ := moves_l1 x10 x11 x14 v hx hl h4 d (j + 1) (x4 ++ [rd_L1 x14 (j : Int) ++ [-1], rd_L1 x14 (j : Int) ++ [0], rd_L1 x14 (j : Int) ++ [1]]) (by omega) (by simp only [List.length_append, List.length_cons, List.length_nil]; omega) ⟨k, by rw [drop_rdLLp x14 j hj, exts_cons] at e; rw [List.append_assoc]; exact e⟩
    refine ⟨k + 5, ?_⟩
    simp only [impl_allMoves.l1]
    rw [if_pos (by omega), if_pos (by omega), if_pos (by omega), moves_l2 k x10 x11 x4 x14 _ _ j (by omega) (hx _ (rdLLp_mem x14 j hj)) (by omega)]
    exact e
theorem moves_l0 (n : Nat) (hn : n ≤ 3) : ∀ d i : Nat, i + d = n → ∃ k, impl_allMoves.l0 k (plansM i) (n : Int) i = some (plansM n)
  | 0, i, h => by
    obtain rfl : i = n := by omega
    refine ⟨1, ?_⟩
    simp only [impl_allMoves.l0]
    rw [if_neg (by omega)]
  | d + 1, i, h => by
    have hs := plans_small i (by omega)
    obtain ⟨k, e⟩ := moves_l0 n hn d (i + 1) (by omega)
    obtain ⟨k, e⟩ := moves_l1 (n : Int) (i : Int) (plansM i) (plansM n) hs.2 (by omega) (by omega) (plansM i).length 0 [] (by omega) (by simp only [List.length_nil]; omega) ⟨k, e⟩
    refine ⟨k + 1, ?_⟩
    simp only [impl_allMoves.l0]
    rw [if_pos (by omega)]
    exact e
theorem impl_plans (n : Nat) (hn : n ≤ 3) : ∃ k, impl_allMoves.f k (n : Int) = some (plansM n) := moves_l0 n hn n 0 (by omega)
/-! The first pair of plans with the least worst time. -/
def updM (W : List Int → List Int → Int) (a : List Int) (st : List Int × List Int × Int) (b : List Int) : List Int × List Int × Int := if 0 ≤ W a b ∧ (st.2.2 < 0 ∨ W a b < st.2.2) then (a, b, W a b) else st
def finP (st : List Int × List Int × Int) : List Int × List Int × Int × Bool := if st.2.2 < 0 then ([], [], 0, false) else (st.1, st.2.1, st.2.2, true)
def allM (W : List Int → List Int → Int) (P : List (List Int)) (st : List Int × List Int × Int) (L : List (List Int)) : List Int × List Int × Int := L.foldl (fun st a => P.foldl (updM W a) st) st
theorem updM_len {W : List Int → List Int → Int} {a b : List Int} {st : List Int × List Int × Int} (ha : a.length ≤ 100) (hb : b.length ≤ 100) (h : st.1.length ≤ 100 ∧ st.2.1.length ≤ 100) : (updM W a st b).1.length ≤ 100 ∧ (updM W a st b).2.1.length ≤ 100 := by
  unfold updM
  split
  · exact ⟨ha, hb⟩
  · exact h
theorem fold_len {W : List Int → List Int → Int} {a : List Int} (ha : a.length ≤ 100) : ∀ (P : List (List Int)) (st : List Int × List Int × Int), (∀ x ∈ P, x.length ≤ 100) → st.1.length ≤ 100 ∧ st.2.1.length ≤ 100 → (P.foldl (updM W a) st).1.length ≤ 100 ∧ (P.foldl (updM W a) st).2.1.length ≤ 100
  | [], st, _, h => h
  | b :: P, st, hP, h => by
    rw [List.foldl_cons]
    exact fold_len ha P _ (fun x hx => hP x (List.mem_cons_of_mem _ hx)) (updM_len ha (hP b (List.mem_cons_self ..)) h)
theorem allM_len {W : List Int → List Int → Int} {P : List (List Int)} (hP : ∀ x ∈ P, x.length ≤ 100) : ∀ (L : List (List Int)) (st : List Int × List Int × Int), (∀ x ∈ L, x.length ≤ 100) → st.1.length ≤ 100 ∧ st.2.1.length ≤ 100 → (allM W P st L).1.length ≤ 100 ∧ (allM W P st L).2.1.length ≤ 100
  | [], st, _, h => h
  | a :: L, st, hL, h => by
    show (allM W P (P.foldl (updM W a) st) L).1.length ≤ 100 ∧ (allM W P (P.foldl (updM W a) st) L).2.1.length ≤ 100
    exact allM_len hP L _ (fun x hx => hL x (List.mem_cons_of_mem _ hx)) (fold_len (hL a (List.mem_cons_self ..)) P st hP h)
theorem best_impl_l1 (W : List Int → List Int → Int) (s : Int) (r : Bool) (n : Int) (B : Nat) (P : List (List Int)) (hP : P.length ≤ 27) (hW : ∀ k, B ≤ k → ∀ a ∈ P, ∀ b ∈ P, impl_Road_worstMeet.f k s r 0 1 0 a 0 1 0 b = some (W a b)) (i : Nat) (hi : i < P.length) (v : List Int × List Int × Int × Bool) : ∀ (d j : Nat) (st : List Int × List Int × Int), j + d = P.length →
    (∃ k, B ≤ k ∧ impl_BestPlans.l0 k n ((P.drop j).foldl (updM W (rd_L1 P (i : Int))) st).1 ((P.drop j).foldl (updM W (rd_L1 P (i : Int))) st).2.1 ((P.drop j).foldl (updM W (rd_L1 P (i : Int))) st).2.2 P (P.length : Int) ((i + 1 : Nat) : Int) s r = some v) →
    ∃ k, B ≤ k ∧ impl_BestPlans.l1 k n st.1 st.2.1 st.2.2 (rd_L1 P (i : Int)) P (P.length : Int) i P (P.length : Int) j s r = some v
  | 0, j, st, hd, ⟨k, hk, e⟩ => by
    rw [drop_end P j (by omega)] at e
    refine ⟨k + 1, by omega, ?_⟩
    simp only [impl_BestPlans.l1]
    rw [if_neg (by omega), wrap64_id (by omega) (by omega)]
    exact e
  | d + 1, j, st, hd, ⟨k, hk, e⟩ => by
    have hj : j < P.length := by omega
    rw [drop_rdLLp P j hj, List.foldl_cons] at e
    obtain ⟨k, hk, e⟩ := best_impl_l1 W s r n B P hP hW i hi v d (j + 1) (updM W (rd_L1 P (i : Int)) st (rd_L1 P (j : Int))) (by omega) ⟨k, hk, e⟩
    refine ⟨k + 1, by omega, ?_⟩
    simp only [impl_BestPlans.l1]
    rw [if_pos (by omega), if_pos (by omega), if_pos (by omega), hW k hk _ (rdLLp_mem P i hi) _ (rdLLp_mem P j hj), Option.bind_some, wrap64_id (by omega) (by omega), ← e]
    unfold updM
    by_cases c1 : W (rd_L1 P (i : Int)) (rd_L1 P (j : Int)) ≥ 0
    · rw [if_pos c1]
      by_cases c2 : st.2.2 < 0
      · rw [if_pos c2, if_pos ⟨c1, .inl c2⟩]
        rfl
      · rw [if_neg c2]
        by_cases c3 : W (rd_L1 P (i : Int)) (rd_L1 P (j : Int)) < st.2.2
        · rw [if_pos c3, if_pos ⟨c1, .inr c3⟩]
          rfl
        · rw [if_neg c3, if_neg (fun h => h.2.elim c2 c3)]
          rfl
    · rw [if_neg c1, if_neg (fun h => c1 h.1)]
      rfl
theorem best_impl_l0 (W : List Int → List Int → Int) (s : Int) (r : Bool) (n : Int) (B : Nat) (P : List (List Int)) (hP : P.length ≤ 27) (hW : ∀ k, B ≤ k → ∀ a ∈ P, ∀ b ∈ P, impl_Road_worstMeet.f k s r 0 1 0 a 0 1 0 b = some (W a b)) (hM : ∀ k, B ≤ k → impl_allMoves.f k n = some P) : ∀ (d i : Nat) (st : List Int × List Int × Int), i + d = P.length →
    ∃ k, B ≤ k ∧ impl_BestPlans.l0 k n st.1 st.2.1 st.2.2 P (P.length : Int) i s r = some (finP (allM W P st (P.drop i)))
  | 0, i, st, hd => by
    refine ⟨B + 1, by omega, ?_⟩
    rw [drop_end P i (by omega)]
    simp only [impl_BestPlans.l0]
    rw [if_neg (by omega)]
    unfold finP allM
    rw [List.foldl_nil]
    split <;> rfl
  | d + 1, i, st, hd => by
    have hi : i < P.length := by omega
    obtain ⟨k, hk, e⟩ := best_impl_l0 W s r n B P hP hW hM d (i + 1) (P.foldl (updM W (rd_L1 P (i : Int))) st) (by omega)
    obtain ⟨k, hk, e⟩ := best_impl_l1 W s r n B P hP hW i hi _ P.length 0 st (by omega) ⟨k, hk, e⟩
    refine ⟨k + 1, by omega, ?_⟩
    simp only [impl_BestPlans.l0]
    rw [if_pos (by omega), if_pos (by omega), if_pos (by omega), hM k hk, Option.bind_some, drop_rdLLp P i hi]
    exact e
theorem best_spec_l1 (W : List Int → List Int → Int) (s : Int) (r : Bool) (B : Nat) (P : List (List Int)) (hP : P.length ≤ 27) (hW : ∀ k, B ≤ k → ∀ a ∈ P, ∀ b ∈ P, ∃ T, spec_l4Table.f k s r 0 1 0 a 0 1 0 b = some T ∧ spec_l4Worst.f k T = some (W a b)) (i : Nat) (hi : i < P.length) (v : List Int × List Int × Int × Bool) : ∀ (d j : Nat) (st : List Int × List Int × Int), j + d = P.length →
    (∃ k, B ≤ k ∧ spec_BestPlans.l0 k P ((P.drop j).foldl (updM W (rd_L1 P (i : Int))) st).1 ((P.drop j).foldl (updM W (rd_L1 P (i : Int))) st).2.1 ((P.drop j).foldl (updM W (rd_L1 P (i : Int))) st).2.2 ((i + 1 : Nat) : Int) s r = some v) →
    ∃ k, B ≤ k ∧ spec_BestPlans.l1 k P st.1 st.2.1 st.2.2 i j s r = some v
  | 0, j, st, hd, ⟨k, hk, e⟩ => by
    rw [drop_end P j (by omega)] at e
    refine ⟨k + 1, by omega, ?_⟩
    simp only [spec_BestPlans.l1]
    rw [if_neg (by omega), wrap64_id (by omega) (by omega)]
    exact e
  | d + 1, j, st, hd, ⟨k, hk, e⟩ => by
    have hj : j < P.length := by omega
    rw [drop_rdLLp P j hj, List.foldl_cons] at e
    obtain ⟨k, hk, e⟩ := best_spec_l1 W s r B P hP hW i hi v d (j + 1) (updM W (rd_L1 P (i : Int)) st (rd_L1 P (j : Int))) (by omega) ⟨k, hk, e⟩
    obtain ⟨T, t1, t2⟩ := hW k hk _ (rdLLp_mem P i hi) _ (rdLLp_mem P j hj)
    refine ⟨k + 1, by omega, ?_⟩
    simp only [spec_BestPlans.l1]
    rw [if_pos (by omega), if_pos (by omega), if_pos (by omega), if_pos (by omega), t1, Option.bind_some, t2, Option.bind_some, wrap64_id (by omega) (by omega), ← e]
    unfold updM
    by_cases c1 : W (rd_L1 P (i : Int)) (rd_L1 P (j : Int)) ≥ 0
    · rw [if_pos c1]
      by_cases c2 : st.2.2 < 0
      · rw [if_pos c2, if_pos ⟨c1, .inl c2⟩]
        rfl
      · rw [if_neg c2]
        by_cases c3 : W (rd_L1 P (i : Int)) (rd_L1 P (j : Int)) < st.2.2
        · rw [if_pos c3, if_pos ⟨c1, .inr c3⟩]
          rfl
        · rw [if_neg c3, if_neg (fun h => h.2.elim c2 c3)]
          rfl
    · rw [if_neg c1, if_neg (fun h => c1 h.1)]
      rfl
theorem best_spec_l0 (W : List Int → List Int → Int) (s : Int) (r : Bool) (B : Nat) (P : List (List Int)) (hP : P.length ≤ 27) (hx : ∀ x ∈ P, x.length ≤ 100) (hW : ∀ k, B ≤ k → ∀ a ∈ P, ∀ b ∈ P, ∃ T, spec_l4Table.f k s r 0 1 0 a 0 1 0 b = some T ∧ spec_l4Worst.f k T = some (W a b)) : ∀ (d i : Nat) (st : List Int × List Int × Int), i + d = P.length → st.1.length ≤ 100 ∧ st.2.1.length ≤ 100 →
    ∃ k, B ≤ k ∧ spec_BestPlans.l0 k P st.1 st.2.1 st.2.2 i s r = some (finP (allM W P st (P.drop i)))
  | 0, i, st, hd, hl => by
    refine ⟨B + 1, by omega, ?_⟩
    rw [drop_end P i (by omega)]
    simp only [spec_BestPlans.l0]
    rw [if_neg (by omega), spec_own_p _ (by omega), Option.bind_some, spec_own_p _ (by omega), Option.bind_some]
    unfold finP allM
    rw [List.foldl_nil]
    split <;> rfl
  | d + 1, i, st, hd, hl => by
    have hi : i < P.length := by omega
    obtain ⟨k, hk, e⟩ := best_spec_l0 W s r B P hP hx hW d (i + 1) (P.foldl (updM W (rd_L1 P (i : Int))) st) (by omega) (fold_len (hx _ (rdLLp_mem P i hi)) P st hx hl)
    obtain ⟨k, hk, e⟩ := best_spec_l1 W s r B P hP hW i hi _ P.length 0 st (by omega) ⟨k, hk, e⟩
    refine ⟨k + 1, by omega, ?_⟩
    simp only [spec_BestPlans.l0]
    rw [if_pos (by omega), drop_rdLLp P i hi]
    exact e


theorem plan_ok (S n : Nat) (hS : 2 ≤ S) (hn : 1 ≤ n ∧ n ≤ 3) : ∀ a ∈ plansM n, walkerOk (S : Int) 0 1 0 a = true := by
  intro a ha
  obtain ⟨h1, h2⟩ := plansM_mem n a ha
  have e1 : inR (0 : Int) 0 ((S : Int) - 1) = true := inR_iff.2 ⟨by omega, by omega⟩
  have e2 : inR (0 : Int) 0 60 = true := inR_iff.2 ⟨by omega, by omega⟩
  have e3 : inR (a.length : Int) 1 24 = true := inR_iff.2 ⟨by omega, by omega⟩
  have e4 : allIn a (-1) 1 = true := by
    unfold allIn
    exact List.all_eq_true.2 fun y hy => inR_iff.2 (h2 y hy)
  unfold walkerOk movesOk
  rw [e1, e2, e3, e4]
  rfl
theorem fin_len {st : List Int × List Int × Int} (h : st.1.length ≤ 100 ∧ st.2.1.length ≤ 100) : (finP st).1.length ≤ 100 ∧ (finP st).2.1.length ≤ 100 := by
  unfold finP
  split
  · exact ⟨by simp, by simp⟩
  · exact h
theorem best_both (s : Int) (r : Bool) (a1 : Int) : ∃ v : List Int × List Int × Int × Bool, (v.1.length ≤ 100 ∧ v.2.1.length ≤ 100) ∧ ∃ B, 1000 ≤ B ∧ ∀ k, B ≤ k → spec_BestPlans.f k s r a1 = some v ∧ impl_BestPlans.f k s r a1 = some v := by
  by_cases h : road s r = true ∧ s ≤ 6 ∧ inR a1 1 3 = true
  · obtain ⟨hr, hs, hn⟩ := h
    have hbd := road_bd hr
    have hn' := inR_iff.1 hn
    obtain ⟨S, rfl⟩ : ∃ n : Nat, s = (n : Int) := ⟨s.toNat, by omega⟩
    obtain ⟨n, rfl⟩ : ∃ n : Nat, a1 = (n : Int) := ⟨a1.toNat, by omega⟩
    have hok := plan_ok S n (by omega) ⟨by omega, by omega⟩
    have hsm := plans_small n (by omega)
    obtain ⟨k1, e1⟩ := spec_plans n (by omega)
    obtain ⟨k2, e2⟩ := impl_plans n (by omega)
    have hM1 : ∀ k, k1 + k2 + 3000 ≤ k → spec_l4Plans.f k (n : Int) = some (plansM n) := fun k hk => at_rounds (g := fun k => spec_l4Plans.f k (n : Int)) (spec_l4Plans.mono _) (show k1 ≤ k by omega) e1
    have hM2 : ∀ k, k1 + k2 + 3000 ≤ k → impl_allMoves.f k (n : Int) = some (plansM n) := fun k hk => at_rounds (g := fun k => impl_allMoves.f k (n : Int)) (impl_allMoves.mono _) (show k2 ≤ k by omega) e2
    have hW1 : ∀ k, k1 + k2 + 3000 ≤ k → ∀ a ∈ plansM n, ∀ b ∈ plansM n, ∃ T, spec_l4Table.f k (S : Int) r 0 1 0 a 0 1 0 b = some T ∧ spec_l4Worst.f k T = some (pauseM (tabT (rowsW S r 1 0 a S) (rowsW S r 1 0 b S) S).flatten) := fun k hk a ha b hb => by
      have hl := tabT_len (rowsW S r 1 0 a S) (rowsW S r 1 0 b S) S (by rw [rowsW_len]; omega)
      have hx := tabT_rows (rowsW S r 1 0 a S) (rowsW S r 1 0 b S) S
      rw [rowsW_len] at hx
      exact ⟨_, spec_l4Table_eq k S (by omega) r _ _ _ _ _ _ _ _ (hok a ha) (hok b hb) (by omega), spec_l4Worst_eq k _ (by omega) S (by omega) hx (by omega)⟩
    have hW2 : ∀ k, k1 + k2 + 3000 ≤ k → ∀ a ∈ plansM n, ∀ b ∈ plansM n, impl_Road_worstMeet.f k (S : Int) r 0 1 0 a 0 1 0 b = some (pauseM (tabT (rowsW S r 1 0 a S) (rowsW S r 1 0 b S) S).flatten) := fun k hk a ha b hb => impl_Road_worstMeet_eq k S r hr _ _ _ _ _ _ _ _ (hok a ha) (hok b hb) (by omega)
    obtain ⟨k3, hk3, e3⟩ := best_spec_l0 (fun a b => pauseM (tabT (rowsW S r 1 0 a S) (rowsW S r 1 0 b S) S).flatten) (S : Int) r (k1 + k2 + 3000) (plansM n) hsm.1 hsm.2 hW1 (plansM n).length 0 ([], [], -1) (by omega) ⟨by simp, by simp⟩
    obtain ⟨k4, hk4, e4⟩ := best_impl_l0 (fun a b => pauseM (tabT (rowsW S r 1 0 a S) (rowsW S r 1 0 b S) S).flatten) (S : Int) r (n : Int) (k1 + k2 + 3000) (plansM n) hsm.1 hW2 hM2 (plansM n).length 0 ([], [], -1) (by omega)
    rw [List.drop_zero] at e3 e4
    refine ⟨_, fin_len (allM_len (W := fun a b => pauseM (tabT (rowsW S r 1 0 a S) (rowsW S r 1 0 b S) S).flatten) hsm.2 (plansM n) ([], [], -1) hsm.2 ⟨by simp, by simp⟩), k3 + k4 + 1000, by omega, fun k hk => ⟨?_, ?_⟩⟩
    · refine at_rounds (g := fun k => spec_BestPlans.f k (S : Int) r (n : Int)) (spec_BestPlans.mono _ _ _) (show k3 + 1 ≤ k by omega) ?_
      show spec_BestPlans.f (k3 + 1) (S : Int) r (n : Int) = _
      unfold spec_BestPlans.f
      rw [spec_l2Road_eq, hr, Option.bind_some, if_pos rfl, if_neg (by omega), spec_l1In_eq, hn, Option.bind_some]
      simp only [spec_BestPlans.j0]
      rw [if_neg (by simp), hM1 k3 hk3, Option.bind_some]
      exact e3
    · refine at_rounds (g := fun k => impl_BestPlans.f k (S : Int) r (n : Int)) (impl_BestPlans.mono _ _ _) (show k4 + 1 ≤ k by omega) ?_
      show impl_BestPlans.f (k4 + 1) (S : Int) r (n : Int) = _
      unfold impl_BestPlans.f
      rw [impl_IsRoad_eq, hr, Option.bind_some, if_pos rfl, if_neg (by omega), impl_within_eq, hn, Option.bind_some]
      simp only [impl_BestPlans.j0]
      rw [if_neg (by simp), hM2 k4 hk4, Option.bind_some]
      exact e4
  · refine ⟨([], [], 0, false), ⟨by simp, by simp⟩, 1000, by omega, fun k hk => ?_⟩
    obtain ⟨k, rfl⟩ := succ_of (k := k) (by omega)
    unfold spec_BestPlans.f impl_BestPlans.f
    rw [spec_l2Road_eq, impl_IsRoad_eq, Option.bind_some, Option.bind_some, spec_l1In_eq, impl_within_eq, Option.bind_some, Option.bind_some]
    simp only [spec_BestPlans.j0, impl_BestPlans.j0]
    by_cases c1 : road s r = true
    · rw [c1]
      by_cases c2 : s > 6
      · simp [c2]
      · have c3 : inR a1 1 3 = false := by
          cases c : inR a1 1 3
          · rfl
          · exact absurd ⟨c1, by omega, c⟩ h
        simp [c2, c3]
    · replace c1 := Bool.eq_false_iff.mpr c1
      simp [c1]
theorem FnExactBestPlans (a0_0 : Int) (a0_1 : Bool) (a1 : Int)
    (h0 : ((Lit.int .i64 (a0_0)).wf = true)) (h1 : True) (h2 : ((Lit.int .i64 (a1)).wf = true)) :
    ∃ k, laws_FnExactBestPlans.f k a0_0 a0_1 a1 = some true := by
  obtain ⟨⟨l1, l2, t, b⟩, hl, B, hB, hv⟩ := best_both a0_0 a0_1 a1
  simp only at hl
  refine ⟨B + 2, ?_⟩
  unfold laws_FnExactBestPlans.f
  simp only [laws_toRoad_eq, Option.bind_some]
  rw [(hv (B + 2) (by omega)).1, (hv (B + 2) (by omega)).2]
  simp only [Option.bind_some]
  rw [laws_eqIntS_self (B + 2) l1 (by omega) (by omega), Option.bind_some, if_pos rfl, laws_eqIntS_self (B + 2) l2 (by omega) (by omega), Option.bind_some, if_pos rfl, if_true]
  simp only [bne_self_eq_false, laws_FnExactBestPlans.j0]
  rw [if_neg (by simp), laws_markIntS_eq (B + 1) l1 1 (by omega) (by omega) (by omega), Option.bind_some, laws_markIntS_eq (B + 1) l2 (1 + (l1.length : Int)) (by omega) (by omega) (by omega), Option.bind_some, laws_heldIntS_eq (B + 1) l1.length 1 (by omega) (by omega) (by omega), Option.bind_some, if_neg (by omega), laws_heldIntS_eq (B + 1) l2.length (1 + (l1.length : Int)) (by omega) (by omega) (by omega), Option.bind_some, if_neg (by omega), if_pos rfl]
  simp only [laws_toRoad_eq, Option.bind_some]
  rw [(hv (B + 1) (by omega)).2]
  simp only [Option.bind_some]
  rw [laws_eqIntS_self (B + 1) l1 (by omega) (by omega), Option.bind_some, if_pos rfl, laws_eqIntS_self (B + 1) l2 (by omega) (by omega), Option.bind_some, if_pos rfl, if_true]
  simp only [bne_self_eq_false, laws_FnExactBestPlans.j1]
  rw [if_neg (by simp), laws_heldIntS_eq B l1.length 1 (by omega) (by omega) (by omega), Option.bind_some, if_neg (by omega), laws_heldIntS_eq B l2.length (1 + (l1.length : Int)) (by omega) (by omega) (by omega), Option.bind_some, if_neg (by omega), if_pos rfl]

end Go.Proofs.Ythgbkekfekcfaaa.Pure
