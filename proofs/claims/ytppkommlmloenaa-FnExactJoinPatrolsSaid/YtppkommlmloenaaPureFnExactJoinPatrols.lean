/- Plain facts on numbers and lists: what the functions that the law FnExactJoinPatrols reaches answer, and that the law's own function answers true. No program, no memory. -/
import Derived.Test.YtppkommlmloenaaPFnExactJoinPatrolsx1
import Derived.Test.YtppkommlmloenaaPFnExactJoinPatrolsx2
import Derived.Test.YtppkommlmloenaaPFnExactJoinPatrolsx3
import Derived.Test.YtppkommlmloenaaPFnExactJoinPatrolsx4
import Derived.Test.YtppkommlmloenaaPFnExactJoinPatrolsx5
import Derived.Test.YtppkommlmloenaaPFnExactJoinPatrolsx6
import Derived.Test.YtppkommlmloenaaPFnExactJoinPatrolsx7
import Derived.Test.YtppkommlmloenaaHFnExactJoinPatrols
import Derived.Test.YtppkommlmloenaaGFnExactJoinPatrols
namespace Go.Proofs.Ytppkommlmloenaa.Pure
open Go.RowKit Go.Proofs.Ytppkommlmloenaa.PFnExactJoinPatrols Go.Proofs.YtppkommlmloenaaW.PrintWords Go.Proofs.YtppkommlmloenaaW.PrintLast Go.Proofs.YtppkommlmloenaaW.PrintMore
set_option linter.unusedVariables false
set_option linter.unusedSimpArgs false
theorem wrap64_id {x : Int} (h1 : -9223372036854775808 ≤ x) (h2 : x ≤ 9223372036854775807) : wrap64 x = x := by unfold wrap64; omega
theorem i64_of {x : Int} (h : (Lit.int .i64 x).wf = true) : -9223372036854775808 ≤ x ∧ x ≤ 9223372036854775807 := by
  simp [Lit.wf, IntKind.min, IntKind.max, IntKind.bits, IntKind.signed, IntKind.wrap] at h
  omega
def inR (x a b : Int) : Bool := decide (a ≤ x) && decide (x ≤ b)
theorem inR_iff {x a b : Int} : inR x a b = true ↔ a ≤ x ∧ x ≤ b := by unfold inR; simp
theorem inR_not {x a b : Int} : inR x a b = false ↔ ¬ (a ≤ x ∧ x ≤ b) := by rw [← inR_iff]; simp
def road (s : Int) (r : Bool) : Bool := inR s 2 24 && (!r || decide (3 ≤ s))
theorem road_bd {s : Int} {r : Bool} (h : road s r = true) : 2 ≤ s ∧ s ≤ 24 ∧ (r = true → 3 ≤ s) := by
  unfold road at h
  rw [Bool.and_eq_true, inR_iff] at h
  refine ⟨h.1.1, h.1.2, fun hr => ?_⟩
  have := h.2
  simp [hr] at this
  exact this
theorem spec_l1In_eq (a b c : Int) : spec_l1In.f a b c = some (inR a b c) := by
  unfold spec_l1In.f inR
  by_cases h : a ≥ b
  · have h' : b ≤ a := h
    simp [h, h']
  · have h' : ¬ b ≤ a := h
    simp [h, h']
theorem impl_within_eq (a b c : Int) : impl_within.f a b c = some (inR a b c) := by
  unfold impl_within.f inR
  by_cases h : a ≥ b
  · have h' : b ≤ a := h
    simp [h, h']
  · have h' : ¬ b ≤ a := h
    simp [h, h']
theorem spec_l2Road_eq (s : Int) (r : Bool) : spec_l2Road.f s r = some (road s r) := by
  unfold spec_l2Road.f road
  rw [spec_l1In_eq, Option.bind_some]
  cases inR s 2 24 <;> cases r <;> simp
  omega
theorem impl_IsRoad_eq (s : Int) (r : Bool) : impl_IsRoad.f s r = some (road s r) := by
  unfold impl_IsRoad.f road
  rw [impl_within_eq, Option.bind_some]
  cases inR s 2 24 <;> cases r <;> simp
theorem laws_toRoad_eq (s : Int) (r : Bool) : laws_toRoad.f s r = some (s, r) := rfl
theorem wrap_succ {i n : Nat} (h : i < n) (hn : n ≤ 9223372036854775807) : wrap64 ((i : Int) + 1) = ((i + 1 : Nat) : Int) := by unfold wrap64; omega
theorem drop_rd (l : List Int) (i : Nat) (h : i < l.length) : l.drop i = rd l (i : Int) :: l.drop (i + 1) := by
  rw [List.drop_eq_getElem_cons h]
  unfold rd
  simp [List.getD_eq_getElem?_getD, h]
theorem rd_get (l : List Int) (i : Nat) (h : i < l.length) : rd l (i : Int) = l[i] := by
  unfold rd
  simp [List.getD_eq_getElem?_getD, h]
theorem succ_of {k : Nat} (h : 0 < k) : ∃ m, k = m + 1 := ⟨k - 1, by omega⟩
theorem headD_mem {α : Type} (ls : List α) (z : α) (h : 0 < ls.length) : ls.headD z ∈ ls := by cases ls <;> simp_all
theorem drop_end {α : Type} (l : List α) (i : Nat) (h : l.length ≤ i) : l.drop i = [] := List.drop_of_length_le h
def allIn (l : List Int) (a b : Int) : Bool := l.all (fun x => inR x a b)
/-- Numbers in line, from a on. -/
def marks (a : Int) : Nat → List Int
  | 0 => []
  | n + 1 => a :: marks (a + 1) n
theorem marks_len (a : Int) (n : Nat) : (marks a n).length = n := by
  induction n generalizing a with
  | zero => rfl
  | succ n ih => simp [marks, ih]
theorem marks_snoc (a : Int) (n : Nat) : marks a (n + 1) = marks a n ++ [a + n] := by
  induction n generalizing a with
  | zero => simp [marks]
  | succ n ih =>
    rw [marks, ih (a + 1)]
    simp [marks]
    omega
theorem marks_rd (a : Int) (n i : Nat) (h : i < n) : rd (marks a n) (i : Int) = a + i := by
  rw [rd_get _ _ (by rw [marks_len]; exact h)]
  induction n generalizing a i with
  | zero => omega
  | succ n ih =>
    cases i with
    | zero => simp [marks]
    | succ i =>
      simp only [marks, List.getElem_cons_succ]
      rw [ih (a + 1) i (by omega)]
      omega
theorem impl_allWithin_l0 (lo hi : Int) (l : List Int) (hl : l.length ≤ 9223372036854775807) : ∀ (d i k : Nat), i + d = l.length → d < k →
    impl_allWithin.l0 k lo hi l (l.length : Int) (i : Int) = some (allIn (l.drop i) lo hi)
  | 0, i, k, h, hk => by
    obtain ⟨k, rfl⟩ := succ_of (k := k) (by omega)
    simp only [impl_allWithin.l0]
    rw [if_neg (by omega), drop_end l i (by omega)]
    rfl
  | d + 1, i, k, h, hk => by
    obtain ⟨k, rfl⟩ := succ_of (k := k) (by omega)
    simp only [impl_allWithin.l0]
    rw [if_pos (by omega), if_pos (by omega), if_pos (by omega), impl_within_eq, Option.bind_some, wrap_succ (n := l.length) (by omega) hl, impl_allWithin_l0 lo hi l hl d (i + 1) k (by omega) (by omega), drop_rd l i (by omega)]
    unfold allIn
    rw [List.all_cons]
    cases inR (rd l (i : Int)) lo hi <;> simp
theorem impl_allWithin_eq (k : Nat) (l : List Int) (a b : Int) (hl : l.length ≤ 9223372036854775807) (hk : l.length < k) : impl_allWithin.f k l a b = some (allIn l a b) := by
  unfold impl_allWithin.f
  have := impl_allWithin_l0 a b l hl l.length 0 k (by omega) hk
  simpa using this
theorem impl_Road_has_eq (k : Nat) (s : Int) (r : Bool) (l : List Int) (hl : l.length ≤ 9223372036854775807) (hk : l.length < k) : impl_Road_has.f k s r l = some (allIn l 0 (wrap64 (s - 1))) := by
  unfold impl_Road_has.f
  rw [impl_allWithin_eq k l _ _ hl hk, Option.bind_some]
theorem impl_Road_has1 (k : Nat) (s : Int) (r : Bool) (x : Int) (hs : road s r = true) (hk : 1 < k) : impl_Road_has.f k s r [x] = some (inR x 0 (s - 1)) := by
  rw [impl_Road_has_eq k s r [x] (by simp) (by simpa using hk)]
  have := road_bd hs
  rw [wrap64_id (by omega) (by omega)]
  simp [allIn]
theorem impl_Road_hasN (k : Nat) (s : Int) (r : Bool) (l : List Int) (hs : road s r = true) (hl : l.length ≤ 9223372036854775807) (hk : l.length < k) : impl_Road_has.f k s r l = some (allIn l 0 (s - 1)) := by
  rw [impl_Road_has_eq k s r l hl hk]
  have := road_bd hs
  rw [wrap64_id (by omega) (by omega)]
theorem laws_eqIntS_l0 (l : List Int) (hl : l.length ≤ 9223372036854775807) : ∀ (d i k : Nat), i + d = l.length → d < k → laws_eqIntS.l0 k l l (i : Int) = some true
  | 0, i, k, h, hk => by
    obtain ⟨k, rfl⟩ := succ_of (k := k) (by omega)
    simp only [laws_eqIntS.l0]
    rw [if_neg (by omega)]
  | d + 1, i, k, h, hk => by
    obtain ⟨k, rfl⟩ := succ_of (k := k) (by omega)
    simp only [laws_eqIntS.l0]
    rw [if_pos (by omega), if_pos (by omega), if_pos (by omega), if_pos trivial, wrap_succ (n := l.length) (by omega) hl]
    exact laws_eqIntS_l0 l hl d (i + 1) k (by omega) (by omega)
theorem laws_eqIntS_self (k : Nat) (l : List Int) (hl : l.length ≤ 9223372036854775807) (hk : l.length < k) : laws_eqIntS.f k l l = some true := by
  unfold laws_eqIntS.f
  rw [if_pos rfl]
  have := laws_eqIntS_l0 l hl l.length 0 k (by omega) hk
  simpa using this
theorem laws_toIntS_l0 (l : List Int) (hl : l.length ≤ 9223372036854775807) : ∀ (d i k : Nat), i + d = l.length → d < k → laws_toIntS.l0 k l (l.take i ++ List.replicate d 0) (i : Int) = some l
  | 0, i, k, h, hk => by
    obtain ⟨k, rfl⟩ := succ_of (k := k) (by omega)
    simp only [laws_toIntS.l0]
    rw [if_neg (by omega), List.take_of_length_le (by omega)]
    simp
  | d + 1, i, k, h, hk => by
    obtain ⟨k, rfl⟩ := succ_of (k := k) (by omega)
    simp only [laws_toIntS.l0]
    rw [if_pos (by omega), if_pos (by omega), if_pos (by simp; omega), wrap_succ (n := l.length) (by omega) hl]
    have e : (l.take i ++ List.replicate (d + 1) 0).set ((i : Int)).toNat (rd l (i : Int)) = l.take (i + 1) ++ List.replicate d 0 := by
      rw [Int.toNat_natCast, List.set_append_right _ _ (by simp; omega)]
      rw [List.length_take, Nat.min_eq_left (by omega), Nat.sub_self, List.replicate_succ, List.set_cons_zero, rd_get l i (by omega)]
      rw [List.take_succ_eq_append_getElem (show i < l.length by omega), List.append_assoc]
      rfl
    rw [e]
    exact laws_toIntS_l0 l hl d (i + 1) k (by omega) (by omega)
theorem laws_toIntS_eq (k : Nat) (l : List Int) (hl : l.length ≤ 35184372088832) (hk : l.length < k) : laws_toIntS.f k l = some l := by
  unfold laws_toIntS.f
  rw [if_pos (by omega), if_pos (by simpa using hl)]
  have := laws_toIntS_l0 l (by omega) l.length 0 k (by omega) hk
  simpa using this
theorem laws_markIntS_l0 (l : List Int) (a : Int) (h0 : 0 ≤ a) (h1 : a + l.length ≤ 9223372036854775806) : ∀ (d i k : Nat), i + d = l.length → d < k →
    laws_markIntS.l0 k (marks a i ++ l.drop i) (a + i) (i : Int) = some (a + l.length, marks a l.length)
  | 0, i, k, h, hk => by
    obtain ⟨k, rfl⟩ := succ_of (k := k) (by omega)
    simp only [laws_markIntS.l0]
    rw [if_neg (by simp [marks_len]; omega), drop_end l i (by omega)]
    have : i = l.length := by omega
    subst this
    simp
  | d + 1, i, k, h, hk => by
    obtain ⟨k, rfl⟩ := succ_of (k := k) (by omega)
    simp only [laws_markIntS.l0]
    rw [if_pos (by simp [marks_len]; omega), if_pos (by omega), wrap_succ (n := l.length) (by omega) (by omega)]
    have e : (marks a i ++ l.drop i).set ((i : Int)).toNat (a + i) = marks a (i + 1) ++ l.drop (i + 1) := by
      rw [Int.toNat_natCast, List.set_append_right _ _ (by simp [marks_len])]
      rw [marks_len, Nat.sub_self, drop_rd l i (by omega), List.set_cons_zero, marks_snoc]
      simp
    rw [e, wrap64_id (by omega) (by omega), show a + (i : Int) + 1 = a + ((i + 1 : Nat) : Int) by omega]
    exact laws_markIntS_l0 l a h0 h1 d (i + 1) k (by omega) (by omega)
theorem laws_markIntS_eq (k : Nat) (l : List Int) (a : Int) (h0 : 0 ≤ a) (h1 : a + l.length ≤ 9223372036854775806) (hk : l.length < k) : laws_markIntS.f k l a = some (a + l.length, marks a l.length) := by
  unfold laws_markIntS.f
  have := laws_markIntS_l0 l a h0 h1 l.length 0 k (by omega) hk
  simpa [marks] using this
theorem laws_heldIntS_l0 (n : Nat) (a : Int) (h0 : 0 ≤ a) (h1 : a + n ≤ 9223372036854775806) : ∀ (d i k : Nat), i + d = n → d < k →
    laws_heldIntS.l0 k (marks a n) (a + i) (i : Int) = some (a + n)
  | 0, i, k, h, hk => by
    obtain ⟨k, rfl⟩ := succ_of (k := k) (by omega)
    simp only [laws_heldIntS.l0]
    rw [if_neg (by rw [marks_len]; omega)]
    congr 1
    omega
  | d + 1, i, k, h, hk => by
    obtain ⟨k, rfl⟩ := succ_of (k := k) (by omega)
    simp only [laws_heldIntS.l0]
    rw [if_pos (by rw [marks_len]; omega), if_pos (by omega), if_pos (marks_rd a n i (by omega)), wrap_succ (n := n) (by omega) (by omega), wrap64_id (by omega) (by omega), show a + (i : Int) + 1 = a + ((i + 1 : Nat) : Int) by omega]
    exact laws_heldIntS_l0 n a h0 h1 d (i + 1) k (by omega) (by omega)
theorem laws_heldIntS_eq (k : Nat) (n : Nat) (a : Int) (h0 : 0 ≤ a) (h1 : a + n ≤ 9223372036854775806) (hk : n < k) : laws_heldIntS.f k (marks a n) a = some (a + n) := by
  unfold laws_heldIntS.f
  have := laws_heldIntS_l0 n a h0 h1 n 0 k (by omega) hk
  simpa using this
theorem spec_l2Place_eq (s : Int) (r : Bool) (x : Int) : spec_l2Place.f s r x = some (road s r && inR x 0 (s - 1)) := by
  unfold spec_l2Place.f
  rw [spec_l2Road_eq, Option.bind_some]
  cases h : road s r with
  | false => simp
  | true =>
    have := road_bd h
    rw [wrap64_id (by omega) (by omega)]
    simp [spec_l1In_eq]
def runL (s x : Int) (n : Nat) : List Int := (List.range n).map (fun (i : Nat) => Int.tmod (x + i) s)
theorem runL_snoc (s x : Int) (n : Nat) : runL s x (n + 1) = runL s x n ++ [Int.tmod (x + n) s] := by unfold runL; rw [List.range_succ]; simp
theorem runL_len (s x : Int) (n : Nat) : (runL s x n).length = n := by simp [runL]
def fits (s : Int) (r : Bool) (x n : Int) : Bool := inR x 0 (s - 1) && inR n 0 s && (r || decide (x + n ≤ s))
def carrierOk (s f0 f1 f2 : Int) : Bool := inR f0 0 (s - 1) && inR f1 0 48 && inR f2 0 20
def gapM (s : Int) (r : Bool) (a b : Int) : Int :=
  let d := if a - b < b - a then b - a else a - b
  if r = true then (if s - d < d then s - d else d) else d
theorem gapM_bd {s : Int} {r : Bool} {a b : Int} (hs : 2 ≤ s) (ha : 0 ≤ a ∧ a ≤ s - 1) (hb : 0 ≤ b ∧ b ≤ s - 1) : 0 ≤ gapM s r a b ∧ gapM s r a b ≤ s - 1 := by
  unfold gapM
  simp only
  split <;> split <;> (try split) <;> omega
theorem impl_Road_gap_eq (s : Int) (r : Bool) (a b : Int) (hs : 0 ≤ s ∧ s ≤ 1000) (ha : -1000000 ≤ a ∧ a ≤ 1000000) (hb : -1000000 ≤ b ∧ b ≤ 1000000) : impl_Road_gap.f s r a b = some (gapM s r a b) := by
  unfold impl_Road_gap.f gapM
  have e1 : wrap64 (a - b) = a - b := wrap64_id (by omega) (by omega)
  have e2 : wrap64 (b - a) = b - a := wrap64_id (by omega) (by omega)
  rw [e1, e2]
  have e : mx (a - b) (b - a) = if a - b < b - a then b - a else a - b := rfl
  rw [e]
  have e3 : wrap64 (s - (if a - b < b - a then b - a else a - b)) = s - (if a - b < b - a then b - a else a - b) := wrap64_id (by split <;> omega) (by split <;> omega)
  rw [e3]
  unfold mn
  cases r <;> simp
def lo2 (a b : Int) : Int := if a < b then a else b
theorem spec_l1Least_eq (a b : Int) : spec_l1Least.f a b = some (lo2 a b) := by unfold spec_l1Least.f lo2; split <;> rfl
def hi2 (a b : Int) : Int := if b < a then a else b
theorem spec_l1Most_eq (a b : Int) : spec_l1Most.f a b = some (hi2 a b) := by unfold spec_l1Most.f hi2; by_cases h : b < a <;> simp [h]
theorem spec_l2Gap_eq (s : Int) (r : Bool) (a b : Int) (hs : 0 ≤ s ∧ s ≤ 1000) (ha : -1000000 ≤ a ∧ a ≤ 1000000) (hb : -1000000 ≤ b ∧ b ≤ 1000000) : spec_l2Gap.f s r a b = some (gapM s r a b) := by
  unfold spec_l2Gap.f gapM
  rw [wrap64_id (x := a - b) (by omega) (by omega), wrap64_id (x := b - a) (by omega) (by omega), spec_l1Most_eq, Option.bind_some]
  have e : hi2 (a - b) (b - a) = if a - b < b - a then b - a else a - b := by unfold hi2; split <;> split <;> omega
  rw [e]
  have e3 : wrap64 (s - (if a - b < b - a then b - a else a - b)) = s - (if a - b < b - a then b - a else a - b) := wrap64_id (by split <;> omega) (by split <;> omega)
  rw [e3, spec_l1Least_eq]
  unfold lo2
  cases r <;> simp
  split <;> split <;> omega
def legM (s : Int) (r : Bool) (f0 f1 x : Int) : Int := if f1 - gapM s r f0 x < 0 then -1 else (if s - 1 < x + (f1 - gapM s r f0 x) then s - 1 else x + (f1 - gapM s r f0 x))
theorem carrierOk_bd {s a b c : Int} (h : carrierOk s a b c = true) : (0 ≤ a ∧ a ≤ s - 1) ∧ (0 ≤ b ∧ b ≤ 48) ∧ (0 ≤ c ∧ c ≤ 20) := by
  unfold carrierOk at h
  rw [Bool.and_eq_true, Bool.and_eq_true, inR_iff, inR_iff, inR_iff] at h
  exact ⟨h.1.1, h.1.2, h.2⟩
def movesOk (l : List Int) : Bool := inR (l.length : Int) 1 24 && allIn l (-1) 1
def walkerOk (s st f d : Int) (l : List Int) : Bool := inR st 0 (s - 1) && (decide (f = 1) || decide (f = -1)) && inR d 0 60 && movesOk l
theorem laws_szIntS_eq (l : List Int) (a : Int) (ha : 0 ≤ a) (hA : a ≤ 1048576) (hl : l.length ≤ 9223372036854775807) :
    laws_szIntS.f l a = some (if a < l.length then -1 else a - l.length) := by
  unfold laws_szIntS.f
  rw [wrap64_id (by omega) (by omega)]
  by_cases c : a < (l.length : Int)
  · rw [if_pos (by omega), if_pos c]
  · rw [if_neg (by omega), if_neg c]
theorem laws_szIntSS_l0 (l : List (List Int)) (hl : l.length ≤ 9223372036854775807) (hx : ∀ x ∈ l, x.length ≤ 9223372036854775807) : ∀ (d i k : Nat) (a : Int), i + d = l.length → d < k → 0 ≤ a → a ≤ 1048576 →
    ∃ r, laws_szIntSS.l0 k l a (i : Int) = some r ∧ r ≤ a ∧ (0 ≤ r → ∀ x ∈ l.drop i, (x.length : Int) ≤ a)
  | 0, i, k, a, h, hk, h0, h1 => by
    obtain ⟨k, rfl⟩ := succ_of (k := k) (by omega)
    simp only [laws_szIntSS.l0]
    rw [if_neg (by omega), drop_end l i (by omega)]
    exact ⟨a, rfl, Int.le_refl _, by simp⟩
  | d + 1, i, k, a, h, hk, h0, h1 => by
    obtain ⟨k, rfl⟩ := succ_of (k := k) (by omega)
    simp only [laws_szIntSS.l0]
    have hg : rd_L1 l (i : Int) = l[i] := by unfold rd_L1; simp [List.getD_eq_getElem?_getD]; rw [List.getElem?_eq_getElem (by omega)]; rfl
    rw [if_pos (by omega), if_pos (by omega), hg, laws_szIntS_eq _ a h0 h1 (hx _ (List.getElem_mem _)), Option.bind_some, List.drop_eq_getElem_cons (by omega)]
    by_cases c : a < (l[i].length : Int)
    · rw [if_pos c, if_pos (by omega)]
      exact ⟨-1, rfl, by omega, by omega⟩
    · rw [if_neg c, if_neg (by omega), wrap_succ (n := l.length) (by omega) hl]
      obtain ⟨r, e, hr, hm⟩ := laws_szIntSS_l0 l hl hx d (i + 1) k (a - l[i].length) (by omega) (by omega) (by omega) (by omega)
      refine ⟨r, e, by omega, fun h0 x hx' => ?_⟩
      rcases List.mem_cons.1 hx' with rfl | hx'
      · omega
      · have := hm h0 x hx'
        omega
theorem laws_szIntSS_eq (k : Nat) (l : List (List Int)) (a : Int) (h0 : 0 ≤ a) (h1 : a ≤ 1048576) (hl : l.length ≤ 9223372036854775807) (hx : ∀ x ∈ l, x.length ≤ 9223372036854775807) (hk : 1048576 < k) :
    ∃ r, laws_szIntSS.f k l a = some r ∧ r ≤ a ∧ (0 ≤ r → (l.length : Int) ≤ a ∧ ∀ x ∈ l, (x.length : Int) ≤ a) := by
  unfold laws_szIntSS.f
  rw [wrap64_id (by omega) (by omega)]
  by_cases c : a - (l.length : Int) < 0
  · rw [if_pos c]
    exact ⟨-1, rfl, by omega, by omega⟩
  · rw [if_neg c]
    obtain ⟨r, e, hr, hm⟩ := laws_szIntSS_l0 l hl hx l.length 0 k (a - l.length) (by omega) (by omega) (by omega) (by omega)
    refine ⟨r, by simpa using e, by omega, fun h => ⟨by omega, fun x hx => ?_⟩⟩
    have := hm h x (by simpa using hx)
    omega
theorem laws_toIntSS_l0 (l : List (List Int)) (hl : l.length ≤ 9223372036854775807) (hx : ∀ x ∈ l, x.length ≤ 1048576) : ∀ (d i k : Nat), i + d = l.length → d + 1048577 < k →
    laws_toIntSS.l0 k l (l.take i ++ List.replicate d []) (i : Int) = some l
  | 0, i, k, h, hk => by
    obtain ⟨k, rfl⟩ := succ_of (k := k) (by omega)
    simp only [laws_toIntSS.l0]
    rw [if_neg (by omega), List.take_of_length_le (by omega)]
    simp
  | d + 1, i, k, h, hk => by
    obtain ⟨k, rfl⟩ := succ_of (k := k) (by omega)
    simp only [laws_toIntSS.l0]
    have hg : rd_L1 l (i : Int) = l[i] := by unfold rd_L1; simp [List.getD_eq_getElem?_getD]; rw [List.getElem?_eq_getElem (by omega)]; rfl
    have hxi := hx l[i] (List.getElem_mem _)
    rw [if_pos (by omega), if_pos (by omega), hg, laws_toIntS_eq k _ (by omega) (by omega), Option.bind_some, if_pos (by simp; omega), wrap_succ (n := l.length) (by omega) hl]
    have e : (l.take i ++ List.replicate (d + 1) []).set ((i : Int)).toNat l[i] = l.take (i + 1) ++ List.replicate d [] := by
      rw [Int.toNat_natCast, List.set_append_right _ _ (by simp; omega)]
      rw [List.length_take, Nat.min_eq_left (by omega), Nat.sub_self, List.replicate_succ, List.set_cons_zero]
      rw [List.take_succ_eq_append_getElem (show i < l.length by omega), List.append_assoc]
      rfl
    rw [e]
    exact laws_toIntSS_l0 l hl hx d (i + 1) k (by omega) (by omega)
theorem laws_toIntSS_eq (k : Nat) (l : List (List Int)) (hl : l.length ≤ 1048576) (hx : ∀ x ∈ l, x.length ≤ 1048576) (hk : 2097160 < k) : laws_toIntSS.f k l = some l := by
  unfold laws_toIntSS.f
  rw [if_pos (by omega), if_pos (by simp; omega)]
  have := laws_toIntSS_l0 l (by omega) hx l.length 0 k (by omega) (by omega)
  simpa using this
theorem laws_eqIntSS_l0 (l : List (List Int)) (hl : l.length ≤ 9223372036854775807) (hx : ∀ x ∈ l, x.length ≤ 1048576) : ∀ (d i k : Nat), i + d = l.length → d + 1048577 < k → laws_eqIntSS.l0 k l l (i : Int) = some true
  | 0, i, k, h, hk => by
    obtain ⟨k, rfl⟩ := succ_of (k := k) (by omega)
    simp only [laws_eqIntSS.l0]
    rw [if_neg (by omega)]
  | d + 1, i, k, h, hk => by
    obtain ⟨k, rfl⟩ := succ_of (k := k) (by omega)
    simp only [laws_eqIntSS.l0]
    have hg : rd_L1 l (i : Int) = l[i] := by unfold rd_L1; simp [List.getD_eq_getElem?_getD]; rw [List.getElem?_eq_getElem (by omega)]; rfl
    have hxi := hx l[i] (List.getElem_mem _)
    rw [if_pos (by omega), if_pos (by omega), if_pos (by omega), hg, laws_eqIntS_self k _ (by omega) (by omega), Option.bind_some, if_pos rfl, wrap_succ (n := l.length) (by omega) hl]
    exact laws_eqIntSS_l0 l hl hx d (i + 1) k (by omega) (by omega)
theorem laws_eqIntSS_self (k : Nat) (l : List (List Int)) (hl : l.length ≤ 1048576) (hx : ∀ x ∈ l, x.length ≤ 1048576) (hk : 2097160 < k) : laws_eqIntSS.f k l l = some true := by
  unfold laws_eqIntSS.f
  rw [if_pos rfl]
  have := laws_eqIntSS_l0 l (by omega) hx l.length 0 k (by omega) (by omega)
  simpa using this
/-- The least gap of p to a list of places, at most m. -/
def nearM (s : Int) (r : Bool) (p : Int) : List Int → Int → Int
  | [], m => m
  | q :: t, m => nearM s r p t (if gapM s r p q < m then gapM s r p q else m)
def farOth (s : Int) (r : Bool) (l : List Int) : Nat → Int → Int → Int → Int × Int
  | 0, _, f, o => (f, o)
  | d + 1, p, f, o => farOth s r l d (p + 1) (if f < nearM s r p l s then nearM s r p l s else f) (if nearM s r p l s > 0 then o + 1 else o)
def finM (n : Nat) (x : Int × Int) : Int := if x.1 < Int.tdiv (x.2 + n - 1) n then Int.tdiv (x.2 + n - 1) n else x.1
def boundM (s : Int) (r : Bool) (l : List Int) : Int := finM l.length (farOth s r l s.toNat 0 0 0)
theorem allIn_rd {l : List Int} {a b : Int} (h : allIn l a b = true) (i : Nat) (hi : i < l.length) : a ≤ rd l (i : Int) ∧ rd l (i : Int) ≤ b := by
  unfold allIn at h
  rw [List.all_eq_true] at h
  rw [rd_get l i hi]
  exact inR_iff.1 (h _ (List.getElem_mem hi))
/-- Each place of a round, from i on, is near to the next one. -/
def cycM (s : Int) (r : Bool) (l : List Int) (i d : Nat) : Bool := (List.range' i d).all (fun j => decide (gapM s r (rd l (j : Int)) (rd l (((j + 1) % l.length : Nat) : Int)) ≤ 1))
theorem cycM_succ (s : Int) (r : Bool) (l : List Int) (i d : Nat) : cycM s r l i (d + 1) = (decide (gapM s r (rd l (i : Int)) (rd l (((i + 1) % l.length : Nat) : Int)) ≤ 1) && cycM s r l (i + 1) d) := by
  unfold cycM
  rw [List.range'_succ, List.all_cons]
def roundOk (s : Int) (r : Bool) (l : List Int) : Bool := allIn l 0 (s - 1) && cycM s r l 0 l.length
def patrolOk (s : Int) (r : Bool) (ls : List (List Int)) : Bool := inR (ls.length : Int) 1 6 && inR ((ls.headD []).length : Int) 1 60 && ls.all (fun l => decide (l.length = (ls.headD []).length) && roundOk s r l)
theorem tmod_nat (a n : Nat) : Int.tmod (a : Int) (n : Int) = ((a % n : Nat) : Int) := by
  rw [Int.tmod_eq_emod_of_nonneg (by omega)]
  rfl
theorem rd_bd {l : List Int} {a b : Int} (h : allIn l a b = true) (i : Nat) (hi : i < l.length) : a ≤ rd l (i : Int) ∧ rd l (i : Int) ≤ b := allIn_rd h i hi
theorem impl_Road_isRound_l0 (s : Int) (r : Bool) (hr : road s r = true) (l : List Int) (hl : l.length ≤ 60) (ha : allIn l 0 (s - 1) = true) : ∀ (d i k : Nat), i + d = l.length → d < k →
    impl_Road_isRound.l0 k l l (l.length : Int) (i : Int) s r = some (cycM s r l i d)
  | 0, i, k, h, hk => by
    obtain ⟨k, rfl⟩ := succ_of (k := k) (by omega)
    simp only [impl_Road_isRound.l0]
    rw [if_neg (by omega)]
    rfl
  | d + 1, i, k, h, hk => by
    obtain ⟨k, rfl⟩ := succ_of (k := k) (by omega)
    have hb := road_bd hr
    have hm : (i + 1) % l.length < l.length := Nat.mod_lt _ (by omega)
    have h1 := rd_bd ha i (by omega)
    have h2 := rd_bd ha ((i + 1) % l.length) hm
    simp only [impl_Road_isRound.l0]
    rw [if_pos (by omega), if_pos (by omega), if_pos (by omega), if_neg (by omega), wrap_succ (n := l.length) (by omega) (by omega), tmod_nat, if_pos (by omega), if_pos (by omega), impl_Road_gap_eq s r _ _ (by omega) (by omega) (by omega), Option.bind_some, impl_Road_isRound_l0 s r hr l hl ha d (i + 1) k (by omega) (by omega), cycM_succ]
    by_cases c : gapM s r (rd l (i : Int)) (rd l (((i + 1) % l.length : Nat) : Int)) > 1
    · rw [if_pos c, decide_eq_false (by omega)]
      simp
    · rw [if_neg c, decide_eq_true (by omega)]
      simp
theorem impl_Road_isRound_eq (k : Nat) (s : Int) (r : Bool) (hr : road s r = true) (l : List Int) (hl : l.length ≤ 9223372036854775807) (hk : l.length + 3 < k) (hk2 : 70 < k) :
    impl_Road_isRound.f k s r l = some (inR (l.length : Int) 1 60 && roundOk s r l) := by
  obtain ⟨k, rfl⟩ := succ_of (k := k) (by omega)
  unfold impl_Road_isRound.f roundOk
  rw [impl_within_eq, Option.bind_some]
  cases hi : inR (l.length : Int) 1 60 with
  | false => simp [impl_Road_isRound.j0]
  | true =>
    have hi := inR_iff.1 hi
    rw [if_pos rfl, impl_Road_hasN (k + 1) s r l hr hl (by omega), Option.bind_some]
    cases ha : allIn l 0 (s - 1) with
    | false => simp [impl_Road_isRound.j0]
    | true =>
      have := impl_Road_isRound_l0 s r hr l (by omega) ha l.length 0 k (by omega) (by omega)
      simp only [impl_Road_isRound.j0, Bool.not_true]
      rw [if_neg (by simp)]
      simpa using this
theorem impl_Road_isPatrol_l0 (s : Int) (r : Bool) (hr : road s r = true) (ls : List (List Int)) (hl : ls.length ≤ 1048576) (hx : ∀ x ∈ ls, x.length ≤ 1048576) : ∀ (d i k : Nat), i + d = ls.length → d + 1048700 < k →
    impl_Road_isPatrol.l0 k ls ls (ls.length : Int) (i : Int) s r = some ((ls.drop i).all (fun l => (inR (l.length : Int) 1 60 && roundOk s r l) && decide (l.length = (ls.headD []).length)) && inR (ls.length : Int) 1 6)
  | 0, i, k, h, hk => by
    obtain ⟨k, rfl⟩ := succ_of (k := k) (by omega)
    simp only [impl_Road_isPatrol.l0]
    rw [if_neg (by omega), drop_end ls i (by omega), impl_within_eq]
    simp
  | d + 1, i, k, h, hk => by
    obtain ⟨k, rfl⟩ := succ_of (k := k) (by omega)
    have hg : rd_L1 ls (i : Int) = ls[i] := by unfold rd_L1; simp [List.getD_eq_getElem?_getD]; rw [List.getElem?_eq_getElem (by omega)]; rfl
    have h0 : rd_L1 ls 0 = ls.headD [] := by unfold rd_L1; cases ls <;> simp
    have hxi := hx ls[i] (List.getElem_mem _)
    simp only [impl_Road_isPatrol.l0]
    rw [if_pos (by omega), if_pos (by omega), if_pos (by omega), hg, impl_Road_isRound_eq k s r hr _ (by omega) (by omega) (by omega), Option.bind_some, wrap_succ (n := ls.length) (by omega) (by omega), impl_Road_isPatrol_l0 s r hr ls hl hx d (i + 1) k (by omega) (by omega), List.drop_eq_getElem_cons (show i < ls.length by omega), List.all_cons, h0]
    cases hq : (inR (ls[i].length : Int) 1 60 && roundOk s r ls[i]) with
    | false => simp [hq]
    | true =>
      rw [if_pos rfl, if_pos (by omega)]
      by_cases c : (ls[i].length : Int) = ((ls.headD []).length : Int)
      · rw [if_pos c, decide_eq_true (by omega)]
        simp
      · rw [if_neg c, decide_eq_false (by omega)]
        simp
theorem impl_Road_isPatrol_eq (k : Nat) (s : Int) (r : Bool) (hr : road s r = true) (ls : List (List Int)) (hl : ls.length ≤ 1048576) (hx : ∀ x ∈ ls, x.length ≤ 1048576) (hk : 2097500 < k) :
    impl_Road_isPatrol.f k s r ls = some (patrolOk s r ls) := by
  unfold impl_Road_isPatrol.f
  have := impl_Road_isPatrol_l0 s r hr ls hl hx ls.length 0 k (by omega) (by omega)
  rw [Int.natCast_zero] at this
  rw [this, List.drop_zero]
  unfold patrolOk
  congr 1
  rw [Bool.eq_iff_iff]
  simp only [Bool.and_eq_true, List.all_eq_true, decide_eq_true_eq, inR_iff]
  constructor
  · rintro ⟨h1, h2⟩
    have hd := h1 (ls.headD []) (headD_mem ls [] (by omega))
    exact ⟨⟨h2, hd.1.1⟩, fun x hx => ⟨(h1 x hx).2, (h1 x hx).1.2⟩⟩
  · rintro ⟨⟨h1, h2⟩, h3⟩
    exact ⟨fun x hx => ⟨⟨by rw [(h3 x hx).1]; exact h2, (h3 x hx).2⟩, (h3 x hx).1⟩, h1⟩
theorem spec_l5Round_l1 (s : Int) (r : Bool) (hr : road s r = true) (l : List Int) (hl : l.length ≤ 60) (ha : allIn l 0 (s - 1) = true) : ∀ (d i k : Nat), i + d = l.length → d < k →
    spec_l5Round.l1 k l (i : Int) s r = some (cycM s r l i d)
  | 0, i, k, h, hk => by
    obtain ⟨k, rfl⟩ := succ_of (k := k) (by omega)
    simp only [spec_l5Round.l1]
    rw [if_neg (by omega)]
    rfl
  | d + 1, i, k, h, hk => by
    obtain ⟨k, rfl⟩ := succ_of (k := k) (by omega)
    have hb := road_bd hr
    have hm : (i + 1) % l.length < l.length := Nat.mod_lt _ (by omega)
    have h1 := rd_bd ha i (by omega)
    have h2 := rd_bd ha ((i + 1) % l.length) hm
    simp only [spec_l5Round.l1]
    rw [if_pos (by omega), if_pos (by omega), if_neg (by omega), wrap_succ (n := l.length) (by omega) (by omega), tmod_nat, if_pos (by omega), if_pos (by omega), spec_l2Gap_eq s r _ _ (by omega) (by omega) (by omega), Option.bind_some, spec_l5Round_l1 s r hr l hl ha d (i + 1) k (by omega) (by omega), cycM_succ]
    by_cases c : gapM s r (rd l (i : Int)) (rd l (((i + 1) % l.length : Nat) : Int)) > 1
    · rw [if_pos c, decide_eq_false (by omega)]
      simp
    · rw [if_neg c, decide_eq_true (by omega)]
      simp
theorem spec_l5Round_l0 (s : Int) (r : Bool) (hr : road s r = true) (l : List Int) (p : Nat) (hp : 1 ≤ p ∧ p ≤ 60) (hl : l.length ≤ 9223372036854775807) : ∀ (d i k : Nat), i + d = min 60 l.length → allIn (l.take i) 0 (s - 1) = true → 2 * d + 70 < k →
    spec_l5Round.l0 k l (p : Int) (i : Int) s r = some (decide (l.length = p) && roundOk s r l)
  | 0, i, k, h, ha, hk => by
    obtain ⟨k, rfl⟩ := succ_of (k := k) (by omega)
    obtain ⟨k, rfl⟩ := succ_of (k := k) (by omega)
    have hf : (if (i : Int) < (l.length : Int) then spec_l5Round.j1 (k + 1) l (p : Int) (i : Int) (decide ((i : Int) < 60)) s r else spec_l5Round.j1 (k + 1) l (p : Int) (i : Int) false s r) = spec_l5Round.j1 (k + 1) l (p : Int) (i : Int) false s r := by
      by_cases c : (i : Int) < (l.length : Int)
      · rw [if_pos c, decide_eq_false (by omega)]
      · rw [if_neg c]
    simp only [spec_l5Round.l0]
    rw [hf]
    simp only [spec_l5Round.j1]
    rw [if_neg (by simp)]
    by_cases c : (l.length : Int) = (p : Int)
    · have hi : i = l.length := by omega
      rw [hi, List.take_of_length_le (Nat.le_refl _)] at ha
      have := spec_l5Round_l1 s r hr l (by omega) ha l.length 0 k (by omega) (by omega)
      rw [if_pos c, decide_eq_true (by omega)]
      unfold roundOk
      rw [ha]
      simpa using this
    · rw [if_neg c, decide_eq_false (by omega)]
      simp
  | d + 1, i, k, h, ha, hk => by
    obtain ⟨k, rfl⟩ := succ_of (k := k) (by omega)
    obtain ⟨k, rfl⟩ := succ_of (k := k) (by omega)
    simp only [spec_l5Round.l0]
    rw [if_pos (by omega), decide_eq_true (by omega)]
    simp only [spec_l5Round.j1]
    rw [if_pos trivial, if_pos (by omega), if_pos (by omega), spec_l2Place_eq, Option.bind_some, hr, Bool.true_and]
    cases hi : inR (rd l (i : Int)) 0 (s - 1) with
    | true =>
      rw [if_pos rfl, wrap_succ (n := l.length) (by omega) hl]
      refine spec_l5Round_l0 s r hr l p hp hl d (i + 1) k (by omega) ?_ (by omega)
      rw [List.take_succ_eq_append_getElem (show i < l.length by omega)]
      unfold allIn at ha ⊢
      rw [List.all_append, ha, ← rd_get l i (by omega)]
      simp [hi]
    | false =>
      have : allIn l 0 (s - 1) = false := by
        cases h2 : allIn l 0 (s - 1) with
        | false => rfl
        | true =>
          have := rd_bd h2 i (by omega)
          rw [inR_iff.2 this] at hi
          cases hi
      simp [roundOk, this]
theorem spec_l5Round_eq (k : Nat) (s : Int) (r : Bool) (hr : road s r = true) (l : List Int) (p : Nat) (hp : 1 ≤ p ∧ p ≤ 60) (hl : l.length ≤ 9223372036854775807) (hk : 200 < k) :
    spec_l5Round.f k s r l (p : Int) = some (decide (l.length = p) && roundOk s r l) := by
  unfold spec_l5Round.f
  exact spec_l5Round_l0 s r hr l p hp hl (min 60 l.length) 0 k (by omega) (by simp [allIn]) (by omega)
theorem spec_l5Patrol_l0 (s : Int) (r : Bool) (hr : road s r = true) (ls : List (List Int)) (hl : ls.length ≤ 6) (hx : ∀ x ∈ ls, x.length ≤ 1048576) (hp : 1 ≤ (ls.headD []).length ∧ (ls.headD []).length ≤ 60) : ∀ (d i k : Nat), i + d = ls.length → d + 200 < k →
    spec_l5Patrol.l0 k ls (i : Int) s r = some ((ls.drop i).all (fun l => decide (l.length = (ls.headD []).length) && roundOk s r l))
  | 0, i, k, h, hk => by
    obtain ⟨k, rfl⟩ := succ_of (k := k) (by omega)
    simp only [spec_l5Patrol.l0]
    rw [if_neg (by omega), drop_end ls i (by omega)]
    simp
  | d + 1, i, k, h, hk => by
    obtain ⟨k, rfl⟩ := succ_of (k := k) (by omega)
    have hg : rd_L1 ls (i : Int) = ls[i] := by unfold rd_L1; simp [List.getD_eq_getElem?_getD]; rw [List.getElem?_eq_getElem (by omega)]; rfl
    have h0 : rd_L1 ls 0 = ls.headD [] := by unfold rd_L1; cases ls <;> simp
    have hxi := hx ls[i] (List.getElem_mem _)
    simp only [spec_l5Patrol.l0]
    rw [if_pos (by omega), if_pos (by omega), if_pos (by omega), hg, h0, spec_l5Round_eq k s r hr _ _ hp (by omega) (by omega), Option.bind_some, wrap_succ (n := ls.length) (by omega) (by omega), spec_l5Patrol_l0 s r hr ls hl hx hp d (i + 1) k (by omega) (by omega), List.drop_eq_getElem_cons (show i < ls.length by omega), List.all_cons]
    cases (decide (ls[i].length = (ls.headD []).length) && roundOk s r ls[i]) <;> simp
theorem spec_l5Patrol_eq (k : Nat) (s : Int) (r : Bool) (hr : road s r = true) (ls : List (List Int)) (hl : ls.length ≤ 1048576) (hx : ∀ x ∈ ls, x.length ≤ 1048576) (hk : 300 < k) :
    spec_l5Patrol.f k s r ls = some (patrolOk s r ls) := by
  obtain ⟨k, rfl⟩ := succ_of (k := k) (by omega)
  have h0 : rd_L1 ls 0 = ls.headD [] := by unfold rd_L1; cases ls <;> simp
  unfold spec_l5Patrol.f patrolOk
  rw [spec_l1In_eq, Option.bind_some, h0, spec_l1In_eq]
  cases hi : inR (ls.length : Int) 1 6 with
  | false => simp [spec_l5Patrol.j0]
  | true =>
    have hi := inR_iff.1 hi
    rw [if_pos rfl, if_pos (by omega), Option.bind_some]
    cases hj : inR ((ls.headD []).length : Int) 1 60 with
    | false => simp [spec_l5Patrol.j0]
    | true =>
      have hj := inR_iff.1 hj
      have := spec_l5Patrol_l0 s r hr ls (by omega) hx (by omega) ls.length 0 k (by omega) (by omega)
      simp only [spec_l5Patrol.j0, Bool.not_true]
      rw [if_neg (by simp)]
      simpa using this
def tot : List (List Int) → Nat
  | [] => 0
  | x :: t => x.length + tot t
theorem tot_append (a b : List (List Int)) : tot (a ++ b) = tot a + tot b := by induction a with
  | nil => simp [tot]
  | cons x t ih => simp [tot, ih]; omega
def marksSS (a : Int) : List (List Int) → List (List Int)
  | [] => []
  | x :: t => marks a x.length :: marksSS (a + x.length) t
theorem marksSS_len (a : Int) (l : List (List Int)) : (marksSS a l).length = l.length := by
  induction l generalizing a with
  | nil => rfl
  | cons x t ih => simp [marksSS, ih]
theorem marksSS_append (a : Int) (l t : List (List Int)) : marksSS a (l ++ t) = marksSS a l ++ marksSS (a + tot l) t := by
  induction l generalizing a with
  | nil => simp [marksSS, tot]
  | cons x l ih =>
    simp only [List.cons_append, marksSS, tot, ih]
    rw [show a + (x.length : Int) + (tot l : Int) = a + ((x.length + tot l : Nat) : Int) by omega]
theorem laws_markIntSS_l0 (a : Int) (h0 : 0 ≤ a) (ha : a ≤ 4398046511104) : ∀ (rest pre : List (List Int)) (k : Nat), (pre ++ rest).length ≤ 1048576 → (∀ x ∈ rest, x.length ≤ 1048576) → tot (pre ++ rest) ≤ 1099511627776 → rest.length + 1048577 < k →
    laws_markIntSS.l0 k (marksSS a pre ++ rest) (a + tot pre) (pre.length : Int) = some (a + tot (pre ++ rest), marksSS a (pre ++ rest))
  | [], pre, k, hl, hx, ht, hk => by
    obtain ⟨k, rfl⟩ := succ_of (k := k) (by omega)
    simp only [laws_markIntSS.l0]
    rw [if_neg (by simp [marksSS_len])]
    simp
  | x :: rest, pre, k, hl, hx, ht, hk => by
    obtain ⟨k, rfl⟩ := succ_of (k := k) (by simp at hk; omega)
    simp only [List.length_cons] at hk
    have hxl := hx x (by simp)
    have htt := ht
    rw [tot_append, tot] at htt
    simp only [List.length_append, List.length_cons] at hl
    simp only [laws_markIntSS.l0]
    have hg : rd_L1 (marksSS a pre ++ x :: rest) (pre.length : Int) = x := by
      unfold rd_L1
      rw [Int.toNat_natCast, List.getD_eq_getElem?_getD, List.getElem?_append_right (by rw [marksSS_len]; exact Nat.le_refl _)]
      simp [marksSS_len]
    rw [if_pos (by simp [marksSS_len]; omega), if_pos (by omega), hg, laws_markIntS_eq k x (a + tot pre) (by omega) (by omega) (by omega), Option.bind_some, wrap_succ (n := (pre ++ x :: rest).length) (by simp) (by simp; omega)]
    have e : (marksSS a pre ++ x :: rest).set ((pre.length : Int)).toNat (marks (a + tot pre) x.length) = marksSS a (pre ++ [x]) ++ rest := by
      rw [Int.toNat_natCast, List.set_append_right _ _ (by rw [marksSS_len]; exact Nat.le_refl _), marksSS_len, Nat.sub_self, List.set_cons_zero, marksSS_append]
      simp [marksSS]
    have := laws_markIntSS_l0 a h0 ha rest (pre ++ [x]) k (by simp; omega) (fun y hy => hx y (by simp [hy])) (by simpa using ht) (by omega)
    rw [e, show a + (tot pre : Int) + (x.length : Int) = a + ((tot (pre ++ [x]) : Nat) : Int) by rw [tot_append]; simp [tot]; omega]
    simpa using this
theorem laws_markIntSS_eqA (k : Nat) (l : List (List Int)) (a : Int) (h0 : 0 ≤ a) (ha : a ≤ 4398046511104) (hl : l.length ≤ 1048576) (hx : ∀ x ∈ l, x.length ≤ 1048576) (ht : tot l ≤ 1099511627776) (hk : 2097160 < k) :
    laws_markIntSS.f k l a = some (a + (tot l : Int), marksSS a l) := by
  unfold laws_markIntSS.f
  have := laws_markIntSS_l0 a h0 ha l [] k (by simpa using hl) hx (by simpa using ht) (by omega)
  simpa [marksSS, tot] using this
theorem laws_markIntSS_eq (k : Nat) (l : List (List Int)) (hl : l.length ≤ 1048576) (hx : ∀ x ∈ l, x.length ≤ 1048576) (ht : tot l ≤ 1099511627776) (hk : 2097160 < k) :
    laws_markIntSS.f k l 1 = some (1 + (tot l : Int), marksSS 1 l) := by
  unfold laws_markIntSS.f
  have := laws_markIntSS_l0 1 (by omega) (by omega) l [] k (by simpa using hl) hx (by simpa using ht) (by omega)
  simpa [marksSS, tot] using this
theorem laws_heldIntSS_l0 (a : Int) (h0 : 0 ≤ a) (ha : a ≤ 2) : ∀ (rest pre : List (List Int)) (k : Nat), (pre ++ rest).length ≤ 1048576 → (∀ x ∈ rest, x.length ≤ 1048576) → tot (pre ++ rest) ≤ 1099511627776 → rest.length + 1048577 < k →
    laws_heldIntSS.l0 k (marksSS a (pre ++ rest)) (a + tot pre) (pre.length : Int) = some (a + tot (pre ++ rest))
  | [], pre, k, hl, hx, ht, hk => by
    obtain ⟨k, rfl⟩ := succ_of (k := k) (by omega)
    simp only [laws_heldIntSS.l0]
    rw [if_neg (by simp [marksSS_len])]
    simp
  | x :: rest, pre, k, hl, hx, ht, hk => by
    obtain ⟨k, rfl⟩ := succ_of (k := k) (by simp at hk; omega)
    simp only [List.length_cons] at hk
    have hxl := hx x (by simp)
    have htt := ht
    rw [tot_append, tot] at htt
    simp only [List.length_append, List.length_cons] at hl
    simp only [laws_heldIntSS.l0]
    have hg : rd_L1 (marksSS a (pre ++ x :: rest)) (pre.length : Int) = marks (a + tot pre) x.length := by
      unfold rd_L1
      rw [Int.toNat_natCast, List.getD_eq_getElem?_getD, marksSS_append, List.getElem?_append_right (by rw [marksSS_len]; exact Nat.le_refl _)]
      simp [marksSS_len, marksSS]
    rw [if_pos (by simp [marksSS_len]; omega), if_pos (by omega), hg, laws_heldIntS_eq k x.length (a + tot pre) (by omega) (by omega) (by omega), Option.bind_some, if_neg (by omega), wrap_succ (n := (pre ++ x :: rest).length) (by simp) (by simp; omega)]
    have := laws_heldIntSS_l0 a h0 ha rest (pre ++ [x]) k (by simp; omega) (fun y hy => hx y (by simp [hy])) (by simpa using ht) (by omega)
    rw [show a + (tot pre : Int) + (x.length : Int) = a + ((tot (pre ++ [x]) : Nat) : Int) by rw [tot_append]; simp [tot]; omega]
    simpa using this
theorem laws_heldIntSS_eq (k : Nat) (l : List (List Int)) (hl : l.length ≤ 1048576) (hx : ∀ x ∈ l, x.length ≤ 1048576) (ht : tot l ≤ 1099511627776) (hk : 2097160 < k) :
    laws_heldIntSS.f k (marksSS 1 l) 1 = some (1 + (tot l : Int)) := by
  unfold laws_heldIntSS.f
  have := laws_heldIntSS_l0 1 (by omega) (by omega) l [] k (by simpa using hl) hx (by simpa using ht) (by omega)
  simpa [tot] using this
theorem tot_le {l : List (List Int)} {n : Nat} (h : ∀ x ∈ l, x.length ≤ n) : tot l ≤ l.length * n := by
  induction l with
  | nil => simp [tot]
  | cons x t ih =>
    have h1 := h x (by simp)
    have h2 := ih (fun y hy => h y (by simp [hy]))
    simp only [tot, List.length_cons, Nat.add_mul, Nat.one_mul]
    omega
def ringM (s : Int) (k : Nat) (n : Nat) : List (List Int) := (List.range n).map (fun (i : Nat) => runL s (Int.tdiv (i * s) k) s.toNat)
theorem ringM_snoc (s : Int) (k n : Nat) : ringM s k (n + 1) = ringM s k n ++ [runL s (Int.tdiv (n * s) k) s.toNat] := by unfold ringM; rw [List.range_succ]; simp
theorem ringM_len (s : Int) (k n : Nat) : (ringM s k n).length = n := by simp [ringM]
theorem ringM_mem {s : Int} {k n : Nat} {x : List Int} (h : x ∈ ringM s k n) : x.length = s.toNat := by
  unfold ringM at h
  obtain ⟨i, _, rfl⟩ := List.mem_map.1 h
  exact runL_len _ _ _
theorem tdiv_bd (a : Int) (k : Nat) (h0 : 0 ≤ a) (h1 : a ≤ 1000) (hk : 0 < k) : 0 ≤ Int.tdiv a k ∧ Int.tdiv a k ≤ 1000 := by
  rw [Int.tdiv_eq_ediv_of_nonneg h0]
  exact ⟨Int.ediv_nonneg h0 (by omega), Int.le_trans (Int.ediv_le_self _ h0) h1⟩
theorem mul_bd {i : Nat} {s : Int} (hi : i ≤ 6) (hs : 2 ≤ s ∧ s ≤ 24) : 0 ≤ (i : Int) * s ∧ (i : Int) * s ≤ 144 := by
  have : (i : Int) * s ≤ 6 * 24 := Int.mul_le_mul (by omega) hs.2 (by omega) (by omega)
  exact ⟨Int.mul_nonneg (by omega) (by omega), by omega⟩
def dn (a : Int) : Nat → List Int
  | 0 => []
  | n + 1 => a :: dn (a - 1) n
theorem dn_len (a : Int) (n : Nat) : (dn a n).length = n := by
  induction n generalizing a with
  | zero => rfl
  | succ n ih => simp [dn, ih]
theorem dn_snoc (a : Int) (n : Nat) : dn a (n + 1) = dn a n ++ [a - n] := by
  induction n generalizing a with
  | zero => simp [dn]
  | succ n ih =>
    rw [dn, ih (a - 1)]
    simp [dn]
    omega
def sweepA (f : Int) (m : Nat) (w : Bool) : List Int := marks f m ++ (if w = true then [f + m - 1] else [])
def sweepM (f : Int) (m : Nat) (w : Bool) : List Int := sweepA f m w ++ dn (f + m - 2) (m - 2) ++ (if (w && decide (1 < m)) = true then [f] else [])
theorem sweepA_len (f : Int) (m : Nat) (w : Bool) : (sweepA f m w).length ≤ m + 1 := by unfold sweepA; cases w <;> simp [marks_len]
theorem sweepM_len (f : Int) (m : Nat) (w : Bool) : (sweepM f m w).length ≤ 2 * m + 2 := by
  unfold sweepM
  have := sweepA_len f m w
  rw [List.length_append, List.length_append, dn_len]
  split <;> simp <;> omega
def partMany (s g i : Nat) : Nat := if i < s % g then s / g + 1 else s / g
def partWait (s g i : Nat) : Bool := decide (0 < s % g) && decide (s % g ≤ i)
def partsL (s g : Nat) : Nat → Nat → Int → List (List Int)
  | 0, _, _ => []
  | d + 1, i, f => sweepM f (partMany s g i) (partWait s g i) :: partsL s g d (i + 1) (f + partMany s g i)
def partsM (s g : Nat) : List (List Int) := partsL s g g 0 0
theorem partMany_bd {s g i : Nat} (hs : 2 ≤ s ∧ s ≤ 24) (hg : 1 ≤ g ∧ g ≤ 6) (hgs : g ≤ s) : 1 ≤ partMany s g i ∧ partMany s g i ≤ 24 := by
  unfold partMany
  have h1 : 0 < s / g := Nat.div_pos hgs (by omega)
  have h2 : s / g ≤ s := Nat.div_le_self s g
  by_cases c : i < s % g
  · rw [if_pos c]
    have h3 : g ≠ 1 := by intro e; subst e; rw [Nat.mod_one] at c; omega
    have h4 : s / g ≤ s / 2 := Nat.div_le_div_left (by omega) (by omega)
    omega
  · rw [if_neg c]; omega
theorem partsL_len (s g d i : Nat) (f : Int) : (partsL s g d i f).length = d := by
  induction d generalizing i f with
  | zero => rfl
  | succ d ih => simp [partsL, ih]
theorem partsL_mem {s g : Nat} (hs : 2 ≤ s ∧ s ≤ 24) (hg : 1 ≤ g ∧ g ≤ 6) (hgs : g ≤ s) {d i : Nat} {f : Int} {x : List Int} (h : x ∈ partsL s g d i f) : x.length ≤ 50 := by
  induction d generalizing i f with
  | zero => simp [partsL] at h
  | succ d ih =>
    rw [partsL] at h
    rcases List.mem_cons.1 h with rfl | h
    · have := sweepM_len f (partMany s g i) (partWait s g i)
      have := partMany_bd (i := i) hs hg hgs
      omega
    · exact ih h
theorem tdiv_nat (a n : Nat) : Int.tdiv (a : Int) (n : Int) = ((a / n : Nat) : Int) := by
  rw [Int.tdiv_eq_ediv_of_nonneg (by omega)]
  rfl
theorem part_wait {s g i : Nat} (hs : 2 ≤ s ∧ s ≤ 24) (hg : 1 ≤ g ∧ g ≤ 6) : decide ((partMany s g i : Int) < (((s + g - 1) / g : Nat) : Int)) = partWait s g i := by
  unfold partMany partWait
  have hd : (s + g - 1) / g = if 0 < s % g then s / g + 1 else s / g := by
    obtain rfl | rfl | rfl | rfl | rfl | rfl : g = 1 ∨ g = 2 ∨ g = 3 ∨ g = 4 ∨ g = 5 ∨ g = 6 := by omega
    all_goals (split <;> omega)
  rw [hd]
  by_cases c : 0 < s % g
  · by_cases c2 : i < s % g
    · rw [if_pos c, if_pos c2, decide_eq_false (by omega), decide_eq_false (show ¬ s % g ≤ i by omega), Bool.and_false]
    · rw [if_pos c, if_neg c2, decide_eq_true (by omega), decide_eq_true c, decide_eq_true (show s % g ≤ i by omega), Bool.and_true]
  · have : ¬ i < s % g := by omega
    rw [if_neg c, if_neg this, decide_eq_false (by omega), decide_eq_false c, Bool.false_and]
theorem allIn_rdZ {l : List Int} {a b : Int} (h : allIn l a b = true) {i : Int} (h0 : 0 ≤ i) (h1 : i < (l.length : Int)) : a ≤ rd l i ∧ rd l i ≤ b := by
  obtain ⟨n, rfl⟩ := Int.eq_ofNat_of_zero_le h0
  have hn : n < l.length := by omega
  have e := rd_get l n hn
  unfold allIn at h
  have := List.all_eq_true.1 h _ (List.getElem_mem hn)
  rw [inR_iff] at this
  rw [e]
  exact this
def stepW (s : Int) (r : Bool) (p x : Int) : Int := if r = true then Int.tmod (p + x + s) s else if inR (p + x) 0 (s - 1) = true then p + x else p
theorem stepW_bd {s : Int} {r : Bool} {p x : Int} (hs : 2 ≤ s) (hp : 0 ≤ p ∧ p ≤ s - 1) (hx : -1 ≤ x ∧ x ≤ 1) : 0 ≤ stepW s r p x ∧ stepW s r p x ≤ s - 1 := by
  unfold stepW
  by_cases c : r = true
  · rw [if_pos c]
    have h1 := Int.tmod_nonneg s (show 0 ≤ p + x + s by omega)
    have h2 := Int.tmod_lt_of_pos (p + x + s) (show 0 < s by omega)
    omega
  · rw [if_neg c]
    by_cases d : inR (p + x) 0 (s - 1) = true
    · rw [if_pos d]
      exact inR_iff.1 d
    · rw [if_neg d]
      exact hp
theorem stepW_zero {s : Int} {r : Bool} {p : Int} (hs : 2 ≤ s) (hp : 0 ≤ p ∧ p ≤ s - 1) : stepW s r p 0 = p := by
  unfold stepW
  by_cases c : r = true
  · rw [if_pos c, Int.add_zero, Int.tmod_eq_emod_of_nonneg (by omega), Int.add_emod_right, Int.emod_eq_of_lt (by omega) (by omega)]
  · rw [if_neg c, Int.add_zero, if_pos (inR_iff.2 hp)]
/-- A walker's move at a time. -/
def mvW (f d : Int) (l : List Int) (t : Nat) : Int := if d ≤ (t : Int) then f * rd l (Int.tmod ((t : Int) - d) (l.length : Int)) else 0
/-- A walker's place at a time. -/
def atW (s : Int) (r : Bool) (st f d : Int) (l : List Int) : Nat → Int
  | 0 => st
  | t + 1 => stepW s r (atW s r st f d l t) (mvW f d l t)
def walkM (s : Int) (r : Bool) (st f d : Int) (l : List Int) (n : Nat) : List Int := (List.range (n + 1)).map (atW s r st f d l)
theorem walkM_len (s : Int) (r : Bool) (st f d : Int) (l : List Int) (n : Nat) : (walkM s r st f d l n).length = n + 1 := by simp [walkM]
theorem walkM_snoc (s : Int) (r : Bool) (st f d : Int) (l : List Int) (n : Nat) : walkM s r st f d l (n + 1) = walkM s r st f d l n ++ [atW s r st f d l (n + 1)] := by
  unfold walkM
  rw [List.range_succ (n := n + 1)]
  simp
theorem walkM_zero (s : Int) (r : Bool) (st f d : Int) (l : List Int) : walkM s r st f d l 0 = [st] := by simp [walkM, atW]
theorem walkM_rd (s : Int) (r : Bool) (st f d : Int) (l : List Int) (n i : Nat) (h : i ≤ n) : rd (walkM s r st f d l n) (i : Int) = atW s r st f d l i := by
  rw [rd_get _ _ (by rw [walkM_len]; omega)]
  simp [walkM]
/-- The facts of a walker that is valid. -/
theorem walkerOk_bd {s st f d : Int} {l : List Int} (h : walkerOk s st f d l = true) : (0 ≤ st ∧ st ≤ s - 1) ∧ (f = 1 ∨ f = -1) ∧ (0 ≤ d ∧ d ≤ 60) ∧ (1 ≤ (l.length : Int) ∧ (l.length : Int) ≤ 24) ∧ allIn l (-1) 1 = true := by
  unfold walkerOk movesOk at h
  simp only [Bool.and_eq_true, Bool.or_eq_true, decide_eq_true_eq, inR_iff] at h
  exact ⟨h.1.1.1, h.1.1.2, h.1.2, h.2.1, h.2.2⟩
theorem mvW_ix {d : Int} {l : List Int} {t : Nat} (hl : 1 ≤ (l.length : Int)) (c : d ≤ (t : Int)) : 0 ≤ Int.tmod ((t : Int) - d) (l.length : Int) ∧ Int.tmod ((t : Int) - d) (l.length : Int) < (l.length : Int) :=
  ⟨Int.tmod_nonneg _ (by omega), Int.tmod_lt_of_pos _ (by omega)⟩
theorem mvW_bd {f d : Int} {l : List Int} {t : Nat} (hf : f = 1 ∨ f = -1) (hl : 1 ≤ (l.length : Int)) (ha : allIn l (-1) 1 = true) : -1 ≤ mvW f d l t ∧ mvW f d l t ≤ 1 := by
  unfold mvW
  by_cases c : d ≤ (t : Int)
  · rw [if_pos c]
    have hi := mvW_ix hl c
    have := allIn_rdZ ha hi.1 hi.2
    rcases hf with rfl | rfl <;> omega
  · rw [if_neg c]; omega
theorem atW_bd {s : Int} {r : Bool} {st f d : Int} {l : List Int} (hs : 2 ≤ s) (h : walkerOk s st f d l = true) : ∀ t, 0 ≤ atW s r st f d l t ∧ atW s r st f d l t ≤ s - 1
  | 0 => (walkerOk_bd h).1
  | t + 1 => stepW_bd hs (atW_bd hs h t) (mvW_bd (walkerOk_bd h).2.1 (walkerOk_bd h).2.2.2.1.1 (walkerOk_bd h).2.2.2.2)
/-- The first time, from t on and d times long, at which all walks are at one place, or -1. -/
def meetF (ws : List (List Int)) : Nat → Nat → Int
  | 0, _ => -1
  | d + 1, t => if (ws.all fun w => rd w (t : Int) == rd (ws.headD []) (t : Int)) = true then (t : Int) else meetF ws d (t + 1)
theorem meetF_succ (ws : List (List Int)) (d t : Nat) : meetF ws (d + 1) t = if (ws.all fun w => rd w (t : Int) == rd (ws.headD []) (t : Int)) = true then (t : Int) else meetF ws d (t + 1) := rfl
theorem meetF_bd (ws : List (List Int)) : ∀ d t, meetF ws d t = -1 ∨ ((t : Int) ≤ meetF ws d t ∧ meetF ws d t < (t : Int) + d)
  | 0, t => .inl rfl
  | d + 1, t => by
    unfold meetF
    split
    · right; omega
    · rcases meetF_bd ws d (t + 1) with h | h
      · exact .inl h
      · right; omega
/-- From place i on, d places long: each is at most one away from the one ahead of it. -/
def chnM (s : Int) (r : Bool) (l : List Int) : Nat → Nat → Bool
  | _, 0 => true
  | i, d + 1 => decide (gapM s r (rd l ((i : Int) - 1)) (rd l (i : Int)) ≤ 1) && chnM s r l (i + 1) d
theorem chnM_succ (s : Int) (r : Bool) (l : List Int) (i d : Nat) : chnM s r l i (d + 1) = (decide (gapM s r (rd l ((i : Int) - 1)) (rd l (i : Int)) ≤ 1) && chnM s r l (i + 1) d) := rfl
def walkOkM (s : Int) (r : Bool) (l : List Int) : Bool := inR (l.length : Int) 1 61 && allIn l 0 (s - 1) && chnM s r l 1 (l.length - 1)
def leaversOk (s : Int) (r : Bool) (ls : List (List Int)) : Bool := inR (ls.length : Int) 1 4 && ls.all (walkOkM s r)
/-- The place of the first x in a list whose places begin with i, or -1. -/
def firstM (x : Int) : List Int → Nat → Int
  | [], _ => -1
  | y :: t, i => if y = x then (i : Int) else firstM x t (i + 1)
theorem firstM_bd (x : Int) : ∀ (l : List Int) (i : Nat), firstM x l i = -1 ∨ ((i : Int) ≤ firstM x l i ∧ firstM x l i < (i : Int) + l.length)
  | [], i => .inl rfl
  | y :: t, i => by
    simp only [firstM, List.length_cons]
    split
    · right; omega
    · rcases firstM_bd x t (i + 1) with h | h
      · exact .inl h
      · right; omega
/-- The better of the time held and a list's first. -/
def betM (x b : Int) (l : List Int) : Int := if 0 ≤ firstM x l 0 ∧ (b < 0 ∨ firstM x l 0 < b) then firstM x l 0 else b
def bestM (x : Int) (b : Int) (ls : List (List Int)) : Int := ls.foldl (betM x) b
/-- The place at a time; the last one where the list has ended. -/
def atM (l : List Int) (t : Int) : Int := rd l (if (l.length : Int) - 1 < t then (l.length : Int) - 1 else t)
def farM (s : Int) (r : Bool) (x t : Int) (m : Int) (ls : List (List Int)) : Int := ls.foldl (fun m l => if m < gapM s r (atM l t) x then gapM s r (atM l t) x else m) m
def leaveM (s : Int) (r : Bool) (ls : List (List Int)) (x : Int) : Int := if bestM x (-1) ls < 0 then -1 else bestM x (-1) ls + farM s r x (bestM x (-1) ls) 0 ls
theorem betM_bd (x b : Int) (l : List Int) (n : Int) (hl : (l.length : Int) ≤ n) (hb : -1 ≤ b ∧ b ≤ n) : -1 ≤ betM x b l ∧ betM x b l ≤ n := by
  unfold betM
  have := firstM_bd x l 0
  split <;> omega
theorem bestM_bd (x : Int) (n : Int) : ∀ (ls : List (List Int)) (b : Int), (∀ l ∈ ls, (l.length : Int) ≤ n) → -1 ≤ b ∧ b ≤ n → -1 ≤ bestM x b ls ∧ bestM x b ls ≤ n
  | [], b, _, hb => hb
  | l :: t, b, h, hb => bestM_bd x n t _ (fun y hy => h y (List.mem_cons_of_mem _ hy)) (betM_bd x b l n (h l (List.mem_cons_self ..)) hb)
theorem atM_bd {s : Int} {l : List Int} {t : Int} (hl : 1 ≤ l.length) (ha : allIn l 0 (s - 1) = true) (ht : 0 ≤ t) : 0 ≤ atM l t ∧ atM l t ≤ s - 1 := by
  unfold atM
  have : ∃ n : Nat, n < l.length ∧ (if (l.length : Int) - 1 < t then (l.length : Int) - 1 else t) = (n : Int) := by
    by_cases c : (l.length : Int) - 1 < t
    · exact ⟨l.length - 1, by omega, by rw [if_pos c]; omega⟩
    · exact ⟨t.toNat, by omega, by rw [if_neg c]; omega⟩
  obtain ⟨n, hn, e⟩ := this
  rw [e]
  exact rd_bd ha n hn
theorem farM_bd (s : Int) (r : Bool) (x t n : Int) : ∀ (ls : List (List Int)) (m : Int), (∀ l ∈ ls, gapM s r (atM l t) x ≤ n) → m ≤ n → m ≤ farM s r x t m ls ∧ farM s r x t m ls ≤ n
  | [], m, _, hm => ⟨Int.le_refl _, hm⟩
  | l :: q, m, h, hm => by
    have hl := h l (List.mem_cons_self ..)
    have := farM_bd s r x t n q (if m < gapM s r (atM l t) x then gapM s r (atM l t) x else m) (fun y hy => h y (List.mem_cons_of_mem _ hy)) (by split <;> omega)
    refine ⟨?_, this.2⟩
    refine Int.le_trans ?_ this.1
    split <;> omega
def leavesM (s : Int) (r : Bool) (ls : List (List Int)) (n : Nat) : List Int := (List.range n).map fun (i : Nat) => leaveM s r ls (i : Int)
theorem leavesM_snoc (s : Int) (r : Bool) (ls : List (List Int)) (n : Nat) : leavesM s r ls (n + 1) = leavesM s r ls n ++ [leaveM s r ls (n : Int)] := by unfold leavesM; rw [List.range_succ]; simp
theorem leavesM_len (s : Int) (r : Bool) (ls : List (List Int)) (n : Nat) : (leavesM s r ls n).length = n := by simp [leavesM]
/-- A place is visited at a time by one of some rounds; the times from t on, d of them, at which it is. -/
def visQM (ls : List (List Int)) (p : Int) (t : Nat) : Bool := ls.any (fun l => rd l (t : Int) == p)
def visM (ls : List (List Int)) (p : Int) : Nat → Nat → List Int
  | 0, _ => []
  | d + 1, t => if visQM ls p t = true then (t : Int) :: visM ls p d (t + 1) else visM ls p d (t + 1)
theorem visM_succ (ls : List (List Int)) (p : Int) (d t : Nat) : visM ls p (d + 1) t = if visQM ls p t = true then (t : Int) :: visM ls p d (t + 1) else visM ls p d (t + 1) := rfl
theorem visM_len (ls : List (List Int)) (p : Int) : ∀ d t, (visM ls p d t).length ≤ d
  | 0, _ => by simp [visM]
  | d + 1, t => by
    rw [visM_succ]
    have := visM_len ls p d (t + 1)
    split
    · rw [List.length_cons]; omega
    · omega
theorem patrolOk_bd {s : Int} {r : Bool} {ls : List (List Int)} (h : patrolOk s r ls = true) : (1 ≤ ls.length ∧ ls.length ≤ 6) ∧ (1 ≤ (ls.headD []).length ∧ (ls.headD []).length ≤ 60) ∧ ∀ l ∈ ls, l.length = (ls.headD []).length ∧ roundOk s r l = true := by
  unfold patrolOk at h
  rw [Bool.and_eq_true, Bool.and_eq_true, List.all_eq_true] at h
  have h1 := inR_iff.1 h.1.1
  have h2 := inR_iff.1 h.1.2
  refine ⟨⟨by omega, by omega⟩, ⟨by omega, by omega⟩, fun l hl => ?_⟩
  have := h.2 l hl
  rw [Bool.and_eq_true, decide_eq_true_eq] at this
  exact this
theorem spec_l5Good_eq (k : Nat) (s : Int) (r : Bool) (ls : List (List Int)) (hl : ls.length ≤ 1048576) (hx : ∀ x ∈ ls, x.length ≤ 1048576) (hk : 300 < k) : spec_l5Good.f k s r ls = some (road s r && patrolOk s r ls) := by
  unfold spec_l5Good.f
  rw [spec_l2Road_eq, Option.bind_some]
  cases hr : road s r with
  | false => simp
  | true =>
    rw [if_pos rfl, spec_l5Patrol_eq k s r hr ls hl hx hk]
    simp
open Go.Proofs.Ytppkommlmloenaa.Own in
theorem anyOP_eq {α : Type} {q : α → Option Bool} {p : α → Bool} : ∀ {l : List α}, (∀ x ∈ l, q x = some (p x)) → anyO q l = some (l.any p)
  | [], _ => rfl
  | x :: t, h => by
    simp only [anyO]
    rw [h x (List.mem_cons_self ..), Option.bind_some, anyOP_eq (fun y hy => h y (List.mem_cons_of_mem _ hy)), List.any_cons]
    cases p x <;> simp
theorem impl_arePatrols_eq (k : Nat) (s : Int) (r : Bool) (ps : List (List (List Int))) (hx : ∀ ls ∈ ps, ls.length ≤ 1048576 ∧ ∀ x ∈ ls, x.length ≤ 1048576) (hk : 2097500 < k) :
    impl_arePatrols.f k s r ps = some (road s r && ps.all (patrolOk s r)) := by
  unfold impl_arePatrols.f
  rw [impl_IsRoad_eq, Option.bind_some]
  cases hr : road s r with
  | false => simp
  | true =>
    rw [if_pos rfl, anyOP_eq (p := fun x => !patrolOk s r x)]
    · rw [Option.bind_some, Bool.true_and]
      congr 1
      clear hx
      induction ps with
      | nil => rfl
      | cons x ls ih => rw [List.any_cons, List.all_cons, Bool.not_or, Bool.not_not, ih]
    · intro x hm
      rw [impl_Road_isPatrol_eq k s r hr x (hx x hm).1 (hx x hm).2 hk]
      rfl
theorem impl_arePatrols1 (k : Nat) (s : Int) (r : Bool) (ls : List (List Int)) (hl : ls.length ≤ 1048576) (hx : ∀ x ∈ ls, x.length ≤ 1048576) (hk : 2097500 < k) : impl_arePatrols.f k s r [ls] = some (road s r && patrolOk s r ls) := by
  rw [impl_arePatrols_eq k s r [ls] (fun y hy => by simp at hy; subst hy; exact ⟨hl, hx⟩) hk]
  simp
/-- The time between a visit and the next one; the greatest of them from the i-th on; the idle times of places. -/
def gapT (L : Nat) (T : List Int) (i : Nat) : Int := (if i + 1 < T.length then rd T ((i + 1 : Nat) : Int) else (L : Int) + rd T 0) - rd T (i : Int)
def idleF (L : Nat) (T : List Int) : Nat → Nat → Int → Int
  | 0, _, m => m
  | d + 1, i, m => idleF L T d (i + 1) (mx m (gapT L T i))
theorem idleF_succ (L : Nat) (T : List Int) (d i : Nat) (m : Int) : idleF L T (d + 1) i m = idleF L T d (i + 1) (mx m (gapT L T i)) := rfl
def idleM (ls : List (List Int)) (L : Nat) (p : Nat) : Int := idleF L (visM ls (p : Int) L 0) (visM ls (p : Int) L 0).length 0 (-1)
def idlesM (ls : List (List Int)) (L : Nat) : Nat → Nat → List Int
  | 0, _ => []
  | d + 1, p => idleM ls L p :: idlesM ls L d (p + 1)
theorem idlesM_len (ls : List (List Int)) (L : Nat) : ∀ d p, (idlesM ls L d p).length = d
  | 0, _ => rfl
  | d + 1, p => by simp [idlesM, idlesM_len ls L d (p + 1)]
theorem visM_bd (ls : List (List Int)) (p : Int) : ∀ d t, ∀ x ∈ visM ls p d t, (t : Int) ≤ x ∧ x < (t : Int) + d
  | 0, t => by simp [visM]
  | d + 1, t => by
    intro x hx
    rw [visM_succ] at hx
    have ih := visM_bd ls p d (t + 1)
    split at hx
    · rcases List.mem_cons.1 hx with rfl | hx
      · omega
      · have := ih x hx; omega
    · have := ih x hx; omega
theorem rdT_bd {L : Nat} {T : List Int} (hT : ∀ x ∈ T, 0 ≤ x ∧ x < (L : Int)) (i : Nat) (hi : i < T.length) : 0 ≤ rd T (i : Int) ∧ rd T (i : Int) < (L : Int) := by
  rw [rd_get T i hi]
  exact hT _ (List.getElem_mem hi)
theorem gapT_bd {L : Nat} {T : List Int} (hT : ∀ x ∈ T, 0 ≤ x ∧ x < (L : Int)) (i : Nat) (hi : i < T.length) : -(L : Int) ≤ gapT L T i ∧ gapT L T i ≤ 2 * (L : Int) := by
  have h1 := rdT_bd hT i hi
  have h2 := rdT_bd hT 0 (by omega)
  rw [Int.natCast_zero] at h2
  unfold gapT
  split
  · rename_i h
    have h3 := rdT_bd hT (i + 1) h
    omega
  · omega
theorem mx_bd (a b : Int) : a ≤ mx a b ∧ b ≤ mx a b ∧ (mx a b = a ∨ mx a b = b) := by unfold mx; split <;> omega
theorem idleF_bd {L : Nat} {T : List Int} (hT : ∀ x ∈ T, 0 ≤ x ∧ x < (L : Int)) : ∀ (d i : Nat) (m : Int), i + d = T.length → m ≤ 2 * (L : Int) → m ≤ idleF L T d i m ∧ idleF L T d i m ≤ 2 * (L : Int)
  | 0, i, m, _, hm => ⟨Int.le_refl _, hm⟩
  | d + 1, i, m, h, hm => by
    have h1 := gapT_bd hT i (by omega)
    have h2 := mx_bd m (gapT L T i)
    have := idleF_bd hT d (i + 1) (mx m (gapT L T i)) (by omega) (by omega)
    rw [idleF_succ]
    omega
theorem visM_T (ls : List (List Int)) (p : Int) (L : Nat) : ∀ x ∈ visM ls p L 0, 0 ≤ x ∧ x < (L : Int) := fun x hx => by have := visM_bd ls p L 0 x hx; omega
theorem idleM_bd (ls : List (List Int)) (L p : Nat) : -1 ≤ idleM ls L p ∧ idleM ls L p ≤ 2 * (L : Int) := by
  have := idleF_bd (visM_T ls (p : Int) L) (visM ls (p : Int) L 0).length 0 (-1) (by omega) (by omega)
  exact this
theorem hi2_mx5 (a b : Int) : (if b < a then a else b) = mx a b := by unfold mx; split <;> split <;> omega
/-- The greatest of some numbers, or -1 if one is less than 0. -/
def pauseM (T : List Int) : Int := if (T.any fun x => decide (x < 0)) = true then -1 else T.foldl mx 0
theorem foldl_mx_le (T : List Int) : ∀ m : Int, m ≤ T.foldl mx m := by
  induction T with
  | nil => intro m; simp
  | cons x t ih => intro m; have := ih (mx m x); have := mx_bd m x; rw [List.foldl_cons]; omega
theorem pauseM_pos {T : List Int} (h : (T.any fun x => decide (x < 0)) = false) : 0 ≤ pauseM T := by
  unfold pauseM
  rw [h, if_neg (by simp)]
  exact foldl_mx_le T 0
theorem idlesM_bd (ls : List (List Int)) (L : Nat) : ∀ d p, ∀ x ∈ idlesM ls L d p, -1 ≤ x ∧ x ≤ 2 * (L : Int)
  | 0, _ => by simp [idlesM]
  | d + 1, p => by
    intro x hx
    rcases List.mem_cons.1 hx with rfl | hx
    · exact idleM_bd ls L p
    · exact idlesM_bd ls L d (p + 1) x hx
theorem idlesM_neg (ls : List (List Int)) (L d p : Nat) : ((idlesM ls L d p).any fun y => decide (y = -1)) = ((idlesM ls L d p).any fun y => decide (y < 0)) := by
  rw [Bool.eq_iff_iff]
  simp only [List.any_eq_true, decide_eq_true_eq]
  constructor
  · rintro ⟨y, hy, rfl⟩; exact ⟨-1, hy, by omega⟩
  · rintro ⟨y, hy, h⟩; exact ⟨y, hy, by have := idlesM_bd ls L d p y hy; omega⟩
/-- The patrol of g guards; its pause. -/
def patM (s : Nat) (r : Bool) (g : Nat) : List (List Int) := if r = true then ringM (s : Int) g g else partsM s g
def pzM (s : Nat) (r : Bool) (g : Nat) : Int := pauseM (idlesM (patM s r g) ((patM s r g).headD []).length s 0)
def patChk (s : Nat) (r : Bool) (g : Nat) : Bool := decide (0 < (patM s r g).length) && decide ((patM s r g).length ≤ 6) && decide (((patM s r g).headD []).length ≤ 60) && (patM s r g).all (fun l => l.length == ((patM s r g).headD []).length) && (List.range s).all (fun p => (patM s r g).any fun l => l.any (fun x => x == (p : Int)))
theorem patChk_all : ((List.range' 2 23).all fun s => (List.range' 1 6).all fun g => [true, false].all fun r => !(r || decide (g ≤ s)) || patChk s r g) = true := by decide +kernel
theorem pzM_all : ((List.range' 2 5).all fun s => [true, false].all fun r => !(!r || decide (3 ≤ s)) || decide (pzM s r s ≤ 1)) = true := by decide +kernel
theorem patChk_of {s g : Nat} {r : Bool} (hs : 2 ≤ s ∧ s ≤ 24) (hg : 1 ≤ g ∧ g ≤ 6) (h : r = true ∨ g ≤ s) : patChk s r g = true := by
  have h1 := List.all_eq_true.1 patChk_all s (List.mem_range'_1.2 (by omega))
  have h2 := List.all_eq_true.1 h1 g (List.mem_range'_1.2 (by omega))
  have h3 := List.all_eq_true.1 h2 r (by cases r <;> simp)
  have e : (r || decide (g ≤ s)) = true := by rcases h with rfl | h <;> simp [*]
  rw [e] at h3
  simpa using h3
theorem pzM_of {s : Nat} {r : Bool} (hs : 2 ≤ s ∧ s ≤ 6) (h : r = true → 3 ≤ s) : pzM s r s ≤ 1 := by
  have h1 := List.all_eq_true.1 pzM_all s (List.mem_range'_1.2 (by omega))
  have h3 := List.all_eq_true.1 h1 r (by cases r <;> simp)
  have e : (!r || decide (3 ≤ s)) = true := by
    cases r with
    | true => simpa using h rfl
    | false => rfl
  rw [e] at h3
  simpa using h3
theorem visM_ne (ls : List (List Int)) (p : Int) : ∀ (d t i : Nat), t ≤ i → i < t + d → visQM ls p i = true → 0 < (visM ls p d t).length
  | 0, t, i, h1, h2, _ => by omega
  | d + 1, t, i, h1, h2, hq => by
    rw [visM_succ]
    by_cases c : visQM ls p t = true
    · rw [if_pos c]; simp
    · rw [if_neg c]
      by_cases e : i = t
      · subst e; exact absurd hq c
      · exact visM_ne ls p d (t + 1) i (by omega) (by omega) hq
theorem idleF_ge {L : Nat} {T : List Int} (hT : ∀ x ∈ T, 0 ≤ x ∧ x < (L : Int)) : ∀ (d i : Nat) (m : Int), i + d = T.length → 0 < d → 1 ≤ idleF L T d i m
  | 0, _, _, _, h => by omega
  | 1, i, m, h, _ => by
    have h1 := rdT_bd hT i (by omega)
    have h2 := rdT_bd hT 0 (by omega)
    rw [Int.natCast_zero] at h2
    have h3 := mx_bd m (gapT L T i)
    have hg : gapT L T i = (L : Int) + rd T 0 - rd T (i : Int) := by unfold gapT; rw [if_neg (by omega)]
    show 1 ≤ mx m (gapT L T i)
    omega
  | d + 2, i, m, h, _ => by
    rw [idleF_succ]
    exact idleF_ge hT (d + 1) (i + 1) _ (by omega) (by omega)
theorem idles_pos {ls : List (List Int)} {L s : Nat} (hw : ∀ l ∈ ls, l.length = L) (hv : (List.range s).all (fun p => ls.any fun l => l.any (fun x => x == (p : Int))) = true) : ∀ d p, p + d = s → ((idlesM ls L d p).any fun x => decide (x < 0)) = false
  | 0, _, _ => rfl
  | d + 1, p, h => by
    have h1 := List.all_eq_true.1 hv p (List.mem_range.2 (by omega))
    obtain ⟨l, hl, h2⟩ := List.any_eq_true.1 h1
    obtain ⟨x, hx, h3⟩ := List.any_eq_true.1 h2
    obtain ⟨i, hi, rfl⟩ := List.mem_iff_getElem.1 hx
    have hL := hw l hl
    have hq : visQM ls (p : Int) i = true := by
      unfold visQM
      exact List.any_eq_true.2 ⟨l, hl, by rw [rd_get l i hi]; exact h3⟩
    have hn := visM_ne ls (p : Int) L 0 i (by omega) (by omega) hq
    have h4 := idleF_ge (visM_T ls (p : Int) L) (visM ls (p : Int) L 0).length 0 (-1) (by omega) hn
    have h5 := idles_pos hw hv d (p + 1) (by omega)
    have e : idlesM ls L (d + 1) p = idleM ls L p :: idlesM ls L d (p + 1) := rfl
    rw [e, List.any_cons, h5]
    have h6 : 1 ≤ idleM ls L p := h4
    simp; omega
theorem patM_facts {s g : Nat} {r : Bool} (hs : 2 ≤ s ∧ s ≤ 24) (hg : 1 ≤ g ∧ g ≤ 6) (h : r = true ∨ g ≤ s) : (0 < (patM s r g).length ∧ (patM s r g).length ≤ 6) ∧ ((patM s r g).headD []).length ≤ 60 ∧ (∀ l ∈ patM s r g, l.length = ((patM s r g).headD []).length) ∧ ((idlesM (patM s r g) ((patM s r g).headD []).length s 0).any fun x => decide (x < 0)) = false := by
  have hc := patChk_of hs hg h
  unfold patChk at hc
  simp only [Bool.and_eq_true, decide_eq_true_eq] at hc
  obtain ⟨⟨⟨⟨h1, h2⟩, h3⟩, h4⟩, h5⟩ := hc
  have hw : ∀ l ∈ patM s r g, l.length = ((patM s r g).headD []).length := fun l hl => by have := List.all_eq_true.1 h4 l hl; simpa using this
  exact ⟨⟨h1, h2⟩, h3, hw, idles_pos hw h5 s 0 (by omega)⟩
/-- The least number of guards from g on, of d numbers. -/
def gnM (s : Nat) (r : Bool) (pause : Int) : Nat → Nat → Int × Bool
  | 0, _ => (0, false)
  | d + 1, g => if pzM s r g ≤ pause then ((g : Int), true) else gnM s r pause d (g + 1)
theorem gnM_succ (s : Nat) (r : Bool) (pause : Int) (d g : Nat) : gnM s r pause (d + 1) g = if pzM s r g ≤ pause then ((g : Int), true) else gnM s r pause d (g + 1) := rfl
theorem map_drop_step {α β : Type} (f : α → β) (l : List α) (i : Nat) (h : i < l.length) (acc : List β) : acc ++ (l.drop i).map f = (acc ++ [f l[i]]) ++ (l.drop (i + 1)).map f := by
  rw [List.drop_eq_getElem_cons h, List.map_cons, List.append_assoc]; rfl
theorem allIn_mem {l : List Int} {a b : Int} (h : allIn l a b = true) : ∀ x ∈ l, a ≤ x ∧ x ≤ b := fun x hx => inR_iff.1 (List.all_eq_true.1 h x hx)
theorem roundOk_in {s : Int} {r : Bool} {l : List Int} (h : roundOk s r l = true) : allIn l 0 (s - 1) = true := by
  unfold roundOk at h
  rw [Bool.and_eq_true] at h
  exact h.1
theorem patrolOk_mem {s : Int} {r : Bool} {ls : List (List Int)} (h : patrolOk s r ls = true) : ∀ l ∈ ls, (1 ≤ l.length ∧ l.length ≤ 60) ∧ ∀ x ∈ l, 0 ≤ x ∧ x ≤ s - 1 := by
  have hb := patrolOk_bd h
  intro l hl
  have := hb.2.2 l hl
  exact ⟨by omega, allIn_mem (roundOk_in this.2)⟩
/-- What a law with a table of rows as its result asks, where the result is known. -/
def mirL (s : Int) (l : List Int) : List Int := l.map fun x => s - 1 - x
theorem mirL_len (s : Int) (l : List Int) : (mirL s l).length = l.length := by simp [mirL]
/-- From the i-th on, d numbers of a list: none stands before. -/
def distF (l : List Int) : Nat → Nat → Bool
  | 0, _ => true
  | d + 1, i => !((l.take i).any fun y => decide (y = rd l (i : Int))) && distF l d (i + 1)
theorem distF_succ (l : List Int) (d i : Nat) : distF l (d + 1) i = (!((l.take i).any fun y => decide (y = rd l (i : Int))) && distF l d (i + 1)) := rfl
def rotM (c : Nat) (l : List Int) : List Int := l.drop c ++ l.take c
theorem rotM_len (c : Nat) (l : List Int) : (rotM c l).length = l.length := by unfold rotM; simp; omega
theorem rotM_at (c : Nat) (l : List Int) (hc : c < l.length) (t : Nat) (ht : t < l.length) : (rotM c l)[t]? = some (rd l (((t + c) % l.length : Nat) : Int)) := by
  unfold rotM
  have hr : ∀ a : Nat, a < l.length → l[a]? = some (rd l (a : Int)) := fun a ha => by rw [rd_get l a ha, List.getElem?_eq_getElem ha]
  by_cases h : t < l.length - c
  · rw [List.getElem?_append_left (by rw [List.length_drop]; omega), List.getElem?_drop, Nat.mod_eq_of_lt (by omega), Nat.add_comm c t]
    exact hr _ (by omega)
  · rw [List.getElem?_append_right (by rw [List.length_drop]; omega), List.length_drop, List.getElem?_take, if_pos (by omega)]
    have e : (t + c) % l.length = t - (l.length - c) := by rw [Nat.mod_eq_sub_mod (by omega), Nat.mod_eq_of_lt (by omega)]; omega
    rw [e]
    exact hr _ (by omega)
theorem walkerOk_at {s st f d : Int} {l : List Int} (h : walkerOk s st f d l = true) (p : Nat) (hp : (p : Int) < s) : walkerOk s (p : Int) f d l = true := by
  unfold walkerOk at h ⊢
  simp only [Bool.and_eq_true] at h ⊢
  exact ⟨⟨⟨inR_iff.2 ⟨by omega, by omega⟩, h.1.1.2⟩, h.1.2⟩, h.2⟩
theorem rangeMap_snoc {α : Type} (g : Nat → α) (n : Nat) : (List.range (n + 1)).map g = (List.range n).map g ++ [g n] := by rw [List.range_succ]; simp
/-- The walks from the first n places. -/
def rowsW (S : Nat) (r : Bool) (f d : Int) (l : List Int) (n : Nat) : List (List Int) := (List.range n).map fun (p : Nat) => walkM (S : Int) r (p : Int) f d l 60
theorem rowsW_len (S : Nat) (r : Bool) (f d : Int) (l : List Int) (n : Nat) : (rowsW S r f d l n).length = n := by simp [rowsW]
theorem rowsW_snoc (S : Nat) (r : Bool) (f d : Int) (l : List Int) (n : Nat) : rowsW S r f d l n ++ [walkM (S : Int) r (n : Int) f d l 60] = rowsW S r f d l (n + 1) := (rangeMap_snoc _ n).symm
/-- One row of the table: the times at which the walk w meets the walks ws. -/
def rowT (w : List Int) (ws : List (List Int)) (n : Nat) : List Int := (ws.take n).map fun v => meetF [w, v] 61 0
theorem rowT_snoc (w : List Int) (ws : List (List Int)) (n : Nat) (h : n < ws.length) : rowT w ws n ++ [meetF [w, ws[n]] 61 0] = rowT w ws (n + 1) := by
  unfold rowT
  rw [List.take_succ_eq_append_getElem h, List.map_append]
  rfl
theorem rowT_len (w : List Int) (ws : List (List Int)) (n : Nat) (h : n ≤ ws.length) : (rowT w ws n).length = n := by unfold rowT; simp; omega
def tabT (us ws : List (List Int)) (n : Nat) : List (List Int) := (us.take n).map fun w => rowT w ws ws.length
theorem tabT_snoc (us ws : List (List Int)) (n : Nat) (h : n < us.length) : tabT us ws n ++ [rowT us[n] ws ws.length] = tabT us ws (n + 1) := by
  unfold tabT
  rw [List.take_succ_eq_append_getElem h, List.map_append]
  rfl
theorem tabT_len (us ws : List (List Int)) (n : Nat) (h : n ≤ us.length) : (tabT us ws n).length = n := by unfold tabT; simp; omega
theorem tabT_rows (us ws : List (List Int)) (n : Nat) : ∀ x ∈ tabT us ws n, x.length = ws.length := by
  intro x hx
  obtain ⟨w, _, rfl⟩ := List.mem_map.1 hx
  exact rowT_len _ _ _ (Nat.le_refl _)
theorem tabT_vals (us ws : List (List Int)) (n : Nat) : ∀ x ∈ tabT us ws n, ∀ y ∈ x, y = -1 ∨ 0 ≤ y := by
  intro x hx y hy
  obtain ⟨w, _, rfl⟩ := List.mem_map.1 hx
  obtain ⟨v, _, rfl⟩ := List.mem_map.1 hy
  rcases meetF_bd [w, v] 61 0 with h | h
  · exact .inl h
  · exact .inr (by omega)
theorem rowsW_61 (S : Nat) (r : Bool) (f d : Int) (l : List Int) (n : Nat) : ∀ x ∈ rowsW S r f d l n, x.length = 61 := by
  intro x hx
  obtain ⟨p, _, rfl⟩ := List.mem_map.1 hx
  rw [walkM_len]
def labelOk (l : List Int) : Bool := inR (l.length : Int) 1 6 && allIn l 0 1
def toldM (S : Nat) (l : List Int) : List Int := l.flatMap fun x => List.replicate S x
theorem toldM_len (S : Nat) : ∀ l : List Int, (toldM S l).length = S * l.length
  | [] => by simp [toldM]
  | x :: l => by
    show (List.replicate S x ++ toldM S l).length = _
    rw [List.length_append, toldM_len S l, List.length_replicate, List.length_cons, Nat.mul_succ, Nat.add_comm]
theorem toldM_ok (S : Nat) (l : List Int) (hS : 2 ≤ S ∧ S ≤ 24) (hl : labelOk l = true) (h : S * l.length ≤ 24) : walkerOk (S : Int) 0 1 0 (toldM S l) = true := by
  unfold labelOk at hl
  rw [Bool.and_eq_true, inR_iff] at hl
  have h1 : 2 * 1 ≤ S * l.length := Nat.mul_le_mul (by omega) (by omega)
  have hn := toldM_len S l
  have ha : allIn (toldM S l) (-1) 1 = true := by
    have h2 := hl.2
    unfold allIn at h2 ⊢
    rw [List.all_eq_true] at h2 ⊢
    intro y hy
    obtain ⟨x, hx, hy⟩ := List.mem_flatMap.1 hy
    obtain rfl := (List.mem_replicate.1 hy).2
    have := inR_iff.1 (h2 y hx)
    exact inR_iff.2 ⟨by omega, by omega⟩
  unfold walkerOk movesOk
  rw [inR_iff.2 (show (0 : Int) ≤ 0 ∧ (0 : Int) ≤ (S : Int) - 1 by omega), inR_iff.2 (show (0 : Int) ≤ 0 ∧ (0 : Int) ≤ 60 by omega), ha, inR_iff.2 (show (1 : Int) ≤ ((toldM S l).length : Int) ∧ ((toldM S l).length : Int) ≤ 24 by omega)]
  simp
/-- The orders that follow the order o, from carrier j on, d carriers long. -/
def nextO (o : List Int) : Nat → Nat → List (List Int)
  | 0, _ => []
  | d + 1, j => (if (o.any fun y => decide (y = (j : Int))) = true then [] else [o ++ [(j : Int)]]) ++ nextO o d (j + 1)
theorem nextO_succ (o : List Int) (d j : Nat) : nextO o (d + 1) j = (if (o.any fun y => decide (y = (j : Int))) = true then [] else [o ++ [(j : Int)]]) ++ nextO o d (j + 1) := rfl
theorem mem_nextO (o p : List Int) : ∀ d j, p ∈ nextO o d j ↔ ∃ i : Nat, j ≤ i ∧ i < j + d ∧ ¬ (i : Int) ∈ o ∧ p = o ++ [(i : Int)]
  | 0, j => by
    constructor
    · intro h; cases h
    · rintro ⟨i, h, h', _⟩; omega
  | d + 1, j => by
    rw [nextO_succ, List.mem_append, mem_nextO o p d (j + 1)]
    by_cases c : (o.any fun y => decide (y = (j : Int))) = true
    · rw [if_pos c]
      have cm : (j : Int) ∈ o := by
        obtain ⟨y, hy, e⟩ := List.any_eq_true.1 c
        rw [← of_decide_eq_true e]; exact hy
      constructor
      · rintro (h | ⟨i, h1, h2, h3⟩)
        · cases h
        · exact ⟨i, by omega, by omega, h3⟩
      · rintro ⟨i, h1, h2, h3, h4⟩
        right
        refine ⟨i, ?_, by omega, h3, h4⟩
        rcases Nat.lt_or_ge j i with h | h
        · exact h
        · exact absurd (show (i : Int) ∈ o by rw [show i = j by omega]; exact cm) h3
    · rw [if_neg c]
      have cm : ¬ (j : Int) ∈ o := fun hm => c (List.any_eq_true.2 ⟨_, hm, decide_eq_true rfl⟩)
      constructor
      · rintro (h | ⟨i, h1, h2, h3⟩)
        · exact ⟨j, by omega, by omega, cm, by simpa using h⟩
        · exact ⟨i, by omega, by omega, h3⟩
      · rintro ⟨i, h1, h2, h3, h4⟩
        rcases Nat.lt_or_ge j i with h | h
        · exact .inr ⟨i, h, by omega, h3, h4⟩
        · left; rw [h4, show i = j by omega]; simp
theorem nextO_len (o : List Int) : ∀ d j, (nextO o d j).length ≤ d
  | 0, j => by simp [nextO]
  | d + 1, j => by
    have := nextO_len o d (j + 1)
    rw [nextO_succ, List.length_append]
    split <;> simp <;> omega
/-- The orders of m carriers of n. -/
def levO (n : Nat) : Nat → List (List Int)
  | 0 => [[]]
  | m + 1 => (levO n m).flatMap fun o => nextO o n 0
theorem levO_succ (n m : Nat) : levO n (m + 1) = (levO n m).flatMap fun o => nextO o n 0 := rfl
theorem levO_end : ∀ n : Fin 7, levO n (n + 1) = [] := by decide +kernel
theorem levO_size : ∀ n : Fin 7, ∀ m : Fin 7, (levO n m).length ≤ 720 := by decide +kernel
theorem levO_mem {n m : Nat} {p : List Int} (h : p ∈ levO n (m + 1)) : ∃ o ∈ levO n m, ∃ i : Nat, i < n ∧ ¬ (i : Int) ∈ o ∧ p = o ++ [(i : Int)] := by
  rw [levO_succ, List.mem_flatMap] at h
  obtain ⟨o, ho, h⟩ := h
  obtain ⟨i, _, h2, h3, h4⟩ := (mem_nextO o p n 0).1 h
  exact ⟨o, ho, i, by omega, h3, h4⟩
theorem levO_of {n m : Nat} {o : List Int} (ho : o ∈ levO n m) (i : Nat) (hi : i < n) (hn : ¬ (i : Int) ∈ o) : o ++ [(i : Int)] ∈ levO n (m + 1) := by
  rw [levO_succ, List.mem_flatMap]
  exact ⟨o, ho, (mem_nextO o _ n 0).2 ⟨i, by omega, by omega, hn, rfl⟩⟩
theorem levO_len {n : Nat} : ∀ {m : Nat} {o : List Int}, o ∈ levO n m → o.length = m ∧ ∀ x ∈ o, 0 ≤ x ∧ x < (n : Int)
  | 0, o, h => by
    have : o = [] := by simpa [levO] using h
    subst this
    simp
  | m + 1, p, h => by
    obtain ⟨o, ho, i, hi, _, rfl⟩ := levO_mem h
    have := levO_len ho
    refine ⟨by simp [this.1], fun x hx => ?_⟩
    rcases List.mem_append.1 hx with hx | hx
    · exact this.2 x hx
    · have : x = (i : Int) := by simpa using hx
      omega
def bestO (g : Int → Int → Int) (a : Int) (n : Nat) : Nat → Nat → Int → Int
  | 0, _, b => b
  | q + 1, m, b => bestO g a n q (m + 1) ((levO n m).foldl (fun z o => mx z (o.foldl g a)) b)
theorem bestO_nil (g : Int → Int → Int) (a : Int) (n : Nat) : ∀ q m b, levO n m = [] → bestO g a n q m b = b
  | 0, _, _, _ => rfl
  | q + 1, m, b, h => by
    show bestO g a n q (m + 1) ((levO n m).foldl _ b) = b
    rw [h]
    exact bestO_nil g a n q (m + 1) b (by rw [levO_succ, h]; rfl)
theorem fold_mx_ge (f : List Int → Int) : ∀ (l : List (List Int)) (b : Int), b ≤ l.foldl (fun z o => mx z (f o)) b ∧ ∀ o ∈ l, f o ≤ l.foldl (fun z o => mx z (f o)) b
  | [], b => ⟨Int.le_refl _, fun o h => by cases h⟩
  | x :: l, b => by
    have h := fold_mx_ge f l (mx b (f x))
    have h1 : b ≤ mx b (f x) := by unfold mx; split <;> omega
    have h2 : f x ≤ mx b (f x) := by unfold mx; split <;> omega
    rw [List.foldl_cons]
    refine ⟨by omega, fun o ho => ?_⟩
    rcases List.mem_cons.1 ho with rfl | ho
    · omega
    · exact h.2 o ho
theorem fold_mx_le (f : List Int → Int) (U : Int) : ∀ (l : List (List Int)) (b : Int), b ≤ U → (∀ o ∈ l, f o ≤ U) → l.foldl (fun z o => mx z (f o)) b ≤ U
  | [], b, h, _ => h
  | x :: l, b, h, hx => by
    rw [List.foldl_cons]
    have := hx x (List.mem_cons_self ..)
    exact fold_mx_le f U l _ (by unfold mx; split <;> omega) (fun o ho => hx o (List.mem_cons_of_mem _ ho))
theorem bestO_le (g : Int → Int → Int) (a : Int) (n : Nat) (U : Int) (h : ∀ m, ∀ o ∈ levO n m, o.foldl g a ≤ U) : ∀ q m b, b ≤ U → bestO g a n q m b ≤ U
  | 0, _, _, hb => hb
  | q + 1, m, b, hb => bestO_le g a n U h q (m + 1) _ (fold_mx_le _ U _ _ hb (h m))
theorem bestO_ge0 (g : Int → Int → Int) (a : Int) (n : Nat) : ∀ q m b, b ≤ bestO g a n q m b
  | 0, _, _ => Int.le_refl _
  | q + 1, m, b => Int.le_trans (fold_mx_ge _ _ _).1 (bestO_ge0 g a n q (m + 1) _)
theorem bestO_ge (g : Int → Int → Int) (a : Int) (n : Nat) (o : List Int) : ∀ q m b m', m ≤ m' → m' < m + q → o ∈ levO n m' → o.foldl g a ≤ bestO g a n q m b
  | 0, m, b, m', h, h', _ => by omega
  | q + 1, m, b, m', h, h', ho => by
    rcases Nat.lt_or_ge m m' with c | c
    · exact bestO_ge g a n o q (m + 1) _ m' c (by omega) ho
    · obtain rfl : m' = m := by omega
      exact Int.le_trans ((fold_mx_ge _ _ _).2 o ho) (bestO_ge0 g a n q (m' + 1) _)
/-- One number of the table over sets. -/
def dpI (g : Int → Int → Int) (D : Nat → Int) (c : Nat) : Nat → Nat → Int → Int
  | 0, _, b => b
  | d + 1, i, b => dpI g D c d (i + 1) (if c.testBit i = true then mx b (g (D (c - 2 ^ i)) (i : Int)) else b)
theorem dpI_succ (g : Int → Int → Int) (D : Nat → Int) (c d i : Nat) (b : Int) : dpI g D c (d + 1) i b = dpI g D c d (i + 1) (if c.testBit i = true then mx b (g (D (c - 2 ^ i)) (i : Int)) else b) := rfl
theorem dpI_ge (g : Int → Int → Int) (D : Nat → Int) (c : Nat) : ∀ d i b, b ≤ dpI g D c d i b
  | 0, _, _ => Int.le_refl _
  | d + 1, i, b => by
    rw [dpI_succ]
    refine Int.le_trans ?_ (dpI_ge g D c d (i + 1) _)
    split
    · unfold mx; split <;> omega
    · omega
theorem dpI_bit (g : Int → Int → Int) (D : Nat → Int) (c j : Nat) (hj : c.testBit j = true) : ∀ d i b, i ≤ j → j < i + d → g (D (c - 2 ^ j)) (j : Int) ≤ dpI g D c d i b
  | 0, i, b, h, h' => by omega
  | d + 1, i, b, h, h' => by
    rw [dpI_succ]
    rcases Nat.lt_or_ge i j with e | e
    · exact dpI_bit g D c j hj d (i + 1) _ e (by omega)
    · obtain rfl : i = j := by omega
      refine Int.le_trans ?_ (dpI_ge g D c d (i + 1) _)
      rw [if_pos hj]
      unfold mx; split <;> omega
theorem dpI_or (g : Int → Int → Int) (D : Nat → Int) (c : Nat) : ∀ d i b, dpI g D c d i b = b ∨ ∃ j, i ≤ j ∧ j < i + d ∧ c.testBit j = true ∧ dpI g D c d i b = g (D (c - 2 ^ j)) (j : Int)
  | 0, _, _ => .inl rfl
  | d + 1, i, b => by
    rw [dpI_succ]
    rcases dpI_or g D c d (i + 1) (if c.testBit i = true then mx b (g (D (c - 2 ^ i)) (i : Int)) else b) with h | ⟨j, h1, h2, h3, h4⟩
    · rw [h]
      by_cases t : c.testBit i = true
      · rw [if_pos t]
        unfold mx
        split
        · exact .inr ⟨i, by omega, by omega, t, rfl⟩
        · exact .inl rfl
      · rw [if_neg t]
        exact .inl rfl
    · exact .inr ⟨j, by omega, by omega, h3, h4⟩
theorem bit1 : ∀ c : Fin 64, ∀ i : Fin 6, c.val.testBit i.val = true → c.val - 2 ^ i.val < c.val ∧ (c.val - 2 ^ i.val).testBit i.val = false ∧ ∀ j : Fin 6, (c.val - 2 ^ i.val).testBit j.val = true → c.val.testBit j.val = true := by decide +kernel
theorem bit2 : ∀ n : Fin 7, ∀ c : Fin 64, ∀ i : Fin 6, c.val < 2 ^ n.val → i.val < n.val → c.val.testBit i.val = false → c.val + 2 ^ i.val < 2 ^ n.val ∧ (c.val + 2 ^ i.val).testBit i.val = true ∧ ∀ j : Fin 6, (c.val + 2 ^ i.val).testBit j.val = true → j = i ∨ c.val.testBit j.val = true := by decide +kernel
theorem bit3 : ∀ n : Fin 7, ∀ c : Fin 64, c.val < 2 ^ n.val → c.val = 2 ^ n.val - 1 ∨ ∃ i : Fin 6, i.val < n.val ∧ c.val.testBit i.val = false := by decide +kernel
theorem pow_le64 (n : Nat) (hn : n ≤ 6) : 2 ^ n ≤ 64 ∧ 1 ≤ 2 ^ n := ⟨Nat.pow_le_pow_right (by omega) hn, Nat.one_le_two_pow⟩
/-- The best over all orders is the table's last number. -/
theorem bestO_eq (g : Int → Int → Int) (a : Int) (n : Nat) (hn : n ≤ 6) (D : Nat → Int) (hD : ∀ c, c < 2 ^ n → D c = dpI g D c n 0 a) (hg : ∀ x i, x ≤ g x i) (ha : 0 ≤ a) (hm : ∀ x y : Int, ∀ i, 0 ≤ x → x ≤ y → g x i ≤ g y i) : bestO g a n (n + 1) 0 a = D (2 ^ n - 1) := by
  have fge : ∀ (o : List Int) (x : Int), x ≤ o.foldl g x := by
    intro o
    induction o with
    | nil => intro x; exact Int.le_refl _
    | cons i o ih => intro x; exact Int.le_trans (hg x i) (ih _)
  have hp := pow_le64 n hn
  have up : ∀ c, c < 2 ^ n → ∀ i, i < n → c.testBit i = false → g (D c) (i : Int) ≤ D (c + 2 ^ i) := by
    intro c hc i hi ht
    have h := bit2 ⟨n, by omega⟩ ⟨c, by omega⟩ ⟨i, by omega⟩ hc hi ht
    simp only at h
    rw [hD (c + 2 ^ i) h.1]
    have := dpI_bit g D (c + 2 ^ i) i h.2.1 n 0 a (by omega) (by omega)
    rwa [Nat.add_sub_cancel] at this
  have full : ∀ q c, c + q = 2 ^ n → 0 < q → D c ≤ D (2 ^ n - 1) := by
    intro q
    induction q using Nat.strongRecOn with
    | _ q ih =>
      intro c hc hq
      rcases bit3 ⟨n, by omega⟩ ⟨c, by omega⟩ (by show c < 2 ^ n; omega) with h | ⟨i, hi, ht⟩
      · simp only at h
        rw [h]
        exact Int.le_refl _
      · have h := bit2 ⟨n, by omega⟩ ⟨c, by omega⟩ i (by show c < 2 ^ n; omega) hi ht
        simp only at h hi ht
        have h1 := up c (by omega) i.val hi ht
        have h2 := hg (D c) (i.val : Int)
        have hpos : 0 < 2 ^ i.val := Nat.two_pow_pos _
        have h3 := ih (q - 2 ^ i.val) (by omega) (c + 2 ^ i.val) (by omega) (by omega)
        omega
  have upper : ∀ m, ∀ o ∈ levO n m, ∃ c, c < 2 ^ n ∧ (∀ j, j < n → c.testBit j = true → (j : Int) ∈ o) ∧ o.foldl g a ≤ D c := by
    intro m
    induction m with
    | zero =>
      intro o ho
      have : o = [] := by simpa [levO] using ho
      subst this
      refine ⟨0, by omega, fun j _ hj => by simp at hj, ?_⟩
      rw [hD 0 (by omega)]
      exact dpI_ge g D 0 n 0 a
    | succ m ih =>
      intro p hp'
      obtain ⟨o, ho, i, hi, hni, rfl⟩ := levO_mem hp'
      obtain ⟨c, hc, hb, hf⟩ := ih o ho
      have ht : c.testBit i = false := by
        cases h : c.testBit i with
        | false => rfl
        | true => exact absurd (hb i hi h) hni
      have h := bit2 ⟨n, by omega⟩ ⟨c, by omega⟩ ⟨i, by omega⟩ hc hi ht
      simp only at h
      refine ⟨c + 2 ^ i, h.1, fun j hj hjb => ?_, ?_⟩
      · rcases h.2.2 ⟨j, by omega⟩ hjb with e | e
        · have : j = i := congrArg Fin.val e
          rw [this]; simp
        · exact List.mem_append_left _ (hb j hj e)
      · rw [List.foldl_append]
        exact Int.le_trans (hm _ _ _ (Int.le_trans ha (fge o a)) hf) (up c hc i hi ht)
  have lower : ∀ c, c < 2 ^ n → ∃ m, m ≤ n ∧ ∃ o ∈ levO n m, (∀ j, j < n → (j : Int) ∈ o → c.testBit j = true) ∧ D c ≤ o.foldl g a := by
    intro c
    induction c using Nat.strongRecOn with
    | _ c ih =>
      intro hc
      rcases dpI_or g D c n 0 a with h | ⟨i, _, hi, ht, h⟩
      · refine ⟨0, by omega, [], by simp [levO], fun j _ hj => (by cases hj), ?_⟩
        rw [hD c hc, h]
        exact Int.le_refl _
      · have hi : i < n := by omega
        have hb := bit1 ⟨c, by omega⟩ ⟨i, by omega⟩ ht
        simp only at hb
        obtain ⟨m, hmn, o, ho, hob, hof⟩ := ih (c - 2 ^ i) hb.1 (by omega)
        have hni : ¬ (i : Int) ∈ o := fun hin => by
          have := hob i hi hin
          rw [hb.2.1] at this
          cases this
        have hnew := levO_of ho i hi hni
        refine ⟨m + 1, ?_, o ++ [(i : Int)], hnew, fun j hj hjm => ?_, ?_⟩
        · rcases Nat.lt_or_ge m n with e | e
          · exact e
          · obtain rfl : m = n := by omega
            have := levO_end ⟨m, by omega⟩
            simp only at this
            rw [this] at hnew
            cases hnew
        · rcases List.mem_append.1 hjm with e | e
          · exact hb.2.2 ⟨j, by omega⟩ (hob j hj e)
          · have e' : (j : Int) = (i : Int) := by simpa using e
            rw [show j = i by omega]
            exact ht
        · rw [hD c hc, h, List.foldl_append]
          have h0 := dpI_ge g D (c - 2 ^ i) n 0 a
          rw [← hD (c - 2 ^ i) (by omega)] at h0
          exact hm _ _ _ (Int.le_trans ha h0) hof
  apply Int.le_antisymm
  · refine bestO_le g a n _ (fun m o ho => ?_) (n + 1) 0 a ?_
    · obtain ⟨c, hc, _, hf⟩ := upper m o ho
      exact Int.le_trans hf (full (2 ^ n - c) c (by omega) (by omega))
    · rw [hD _ (by omega)]
      exact dpI_ge ..
  · obtain ⟨m, hmn, o, ho, _, hof⟩ := lower (2 ^ n - 1) (by omega)
    exact Int.le_trans hof (bestO_ge g a n o (n + 1) 0 a m (by omega) (by omega) ho)
/-! ### A list over and over -/
theorem repI_zero (l : List Int) : repI l 0 = [] := by simp [repI]
theorem repI_succ (l : List Int) (h0 : 0 < l.length) (t : Nat) : repI l (t + 1) = repI l t ++ l := by
  apply List.ext_getElem?
  intro i
  have e : l.length * (t + 1) = l.length * t + l.length := Nat.mul_succ _ _
  rcases Nat.lt_or_ge i (l.length * t) with hi | hi
  · rw [List.getElem?_append_left (by rw [repI_len]; exact hi), repI_get l (t + 1) i (by omega), repI_get l t i hi]
  · rw [List.getElem?_append_right (by rw [repI_len]; exact hi), repI_len]
    rcases Nat.lt_or_ge (i - l.length * t) l.length with h2 | h2
    · rw [repI_get l (t + 1) i (by omega)]
      have hm : i % l.length = i - l.length * t := by
        conv => lhs; rw [show i = i - l.length * t + l.length * t by omega]
        rw [Nat.add_mul_mod_self_left, Nat.mod_eq_of_lt h2]
      rw [hm]
      unfold rd
      rw [Int.toNat_natCast, List.getD_eq_getElem?_getD, List.getElem?_eq_getElem h2]
      rfl
    · rw [List.getElem?_eq_none (by rw [repI_len]; omega), List.getElem?_eq_none (by omega)]
theorem repI_rd (l : List Int) (c i : Nat) (h : i < l.length * c) : rd (repI l c) (i : Int) = rd l ((i % l.length : Nat) : Int) := by
  have := repI_get l c i h
  conv => lhs; unfold rd
  rw [Int.toNat_natCast, List.getD_eq_getElem?_getD, this]
  rfl
theorem repI_mem (l : List Int) (c : Nat) (h0 : 0 < l.length) : ∀ x ∈ repI l c, x ∈ l := by
  intro x hx
  obtain ⟨i, _, rfl⟩ := List.mem_map.1 hx
  have h := Nat.mod_lt i h0
  unfold rd
  rw [Int.toNat_natCast, List.getD_eq_getElem?_getD, List.getElem?_eq_getElem h]
  exact List.getElem_mem h
theorem slices_Repeat_eq (k : Nat) (l : List Int) (c : Nat) (h0 : 0 < l.length) (h1 : l.length ≤ 65536) (h2 : 1 ≤ c) (h3 : c ≤ 65536) : slices_Repeat_int_int.f k l (c : Int) = some (repI l c) := by
  unfold slices_Repeat_int_int.f
  rw [if_pos ⟨h0, h1, by omega, by omega⟩, Int.toNat_natCast]
theorem gcd_step (a b : Nat) : Nat.gcd a b = Nat.gcd b (a % b) := by
  rw [Nat.gcd_comm, Nat.gcd_rec, Nat.gcd_comm]
theorem spec_l3Gcd_l0 : ∀ (n b a k : Nat), b ≤ n → n < k → spec_l3Gcd.l0 k (a : Int) (b : Int) = some ((Nat.gcd a b : Nat) : Int)
  | n, 0, a, k, _, hk => by
    obtain ⟨k, rfl⟩ := succ_of (k := k) (by omega)
    simp only [spec_l3Gcd.l0]
    rw [if_neg (by omega), Nat.gcd_zero_right]
  | 0, b + 1, a, k, h, _ => by omega
  | n + 1, b + 1, a, k, h, hk => by
    obtain ⟨k, rfl⟩ := succ_of (k := k) (by omega)
    simp only [spec_l3Gcd.l0]
    rw [if_pos (by omega), if_neg (by omega), tmod_nat, spec_l3Gcd_l0 n (a % (b + 1)) (b + 1) k (by have := Nat.mod_lt a (show 0 < b + 1 by omega); omega) (by omega), ← gcd_step]
theorem spec_l3Gcd_eq (k a b : Nat) (h : b < k) : spec_l3Gcd.f k (a : Int) (b : Int) = some ((Nat.gcd a b : Nat) : Int) := spec_l3Gcd_l0 b b a k (Nat.le_refl _) h
theorem gcd_step' (a b : Nat) : Nat.gcd a b = Nat.gcd b (a % b) := by
  rw [Nat.gcd_comm, Nat.gcd_rec, Nat.gcd_comm]
theorem impl_divisor_l0 : ∀ (n b a k : Nat), b ≤ n → n < k → impl_divisor.l0 k (a : Int) (b : Int) = some ((Nat.gcd a b : Nat) : Int)
  | n, 0, a, k, _, hk => by
    obtain ⟨k, rfl⟩ := succ_of (k := k) (by omega)
    simp only [impl_divisor.l0]
    rw [if_pos (by omega), Nat.gcd_zero_right]
  | 0, b + 1, a, k, h, _ => by omega
  | n + 1, b + 1, a, k, h, hk => by
    obtain ⟨k, rfl⟩ := succ_of (k := k) (by omega)
    simp only [impl_divisor.l0]
    rw [if_neg (by omega), tmod_nat, impl_divisor_l0 n (a % (b + 1)) (b + 1) k (by have := Nat.mod_lt a (show 0 < b + 1 by omega); omega) (by omega), ← gcd_step']
theorem impl_divisor_eq (k a b : Nat) (h : b < k) : impl_divisor.f k (a : Int) (b : Int) = some ((Nat.gcd a b : Nat) : Int) := impl_divisor_l0 b b a k (Nat.le_refl _) h
def longM (P : Nat) (ls : List (List Int)) : List (List Int) := ls.map fun l => repI l (P / l.length)
theorem rdss_get (ls : List (List Int)) (i : Nat) (h : i < ls.length) : rd_L1 ls (i : Int) = ls[i] := by
  unfold rd_L1
  rw [Int.toNat_natCast, List.getD_eq_getElem?_getD, List.getElem?_eq_getElem h]
  rfl
theorem spec_l5Long_l1 (ls : List (List Int)) (P i c : Nat) (hi : i < ls.length) (h0 : 0 < ls[i].length) (hP : ls[i].length * c = P) (hPb : P ≤ 3600) (acc : List (List Int)) (ha : acc.length ≤ 1000) : ∀ (d t k : Nat), t + d = c →
    spec_l5Long.l1 (k + d + 1) ls (P : Int) acc (i : Int) (repI ls[i] t) = spec_l5Long.l0 k ls (P : Int) (acc ++ [repI ls[i] c]) (wrap64 ((i : Int) + 1))
  | 0, t, k, h => by
    obtain rfl : t = c := by omega
    simp only [spec_l5Long.l1, Nat.add_zero]
    rw [if_neg (by rw [repI_len]; omega), if_pos (by omega)]
  | d + 1, t, k, h => by
    have hle : ls[i].length * t < P := by rw [← hP]; exact Nat.mul_lt_mul_of_pos_left (by omega) h0
    have hlb : ls[i].length ≤ P := by rw [← hP]; exact Nat.le_mul_of_pos_right _ (by omega)
    have ih := spec_l5Long_l1 ls P i c hi h0 hP hPb acc ha d (t + 1) k (by omega)
    rw [← ih, show k + (d + 1) + 1 = k + d + 1 + 1 from rfl]
    generalize k + d + 1 = m
    conv => lhs; simp only [spec_l5Long.l1]
    rw [if_pos (by rw [repI_len]; omega), if_pos (by omega), if_pos (by omega), rdss_get ls i hi, if_pos (by rw [repI_len]; omega), ← repI_succ ls[i] h0 t]
theorem spec_l5Long_l0 (ls : List (List Int)) (P : Nat) (hPb : P ≤ 3600) (hl : ls.length ≤ 6) (hx : ∀ l ∈ ls, 0 < l.length ∧ l.length ∣ P) (B : Nat) (hB : 3700 ≤ B) : ∀ (d i k : Nat) (acc : List (List Int)), i + d = ls.length → acc.length ≤ i → d * B < k →
    spec_l5Long.l0 k ls (P : Int) acc (i : Int) = some (acc ++ longM P (ls.drop i))
  | 0, i, k, acc, h, ha, hk => by
    obtain ⟨k, rfl⟩ := succ_of (k := k) (by omega)
    simp only [spec_l5Long.l0]
    rw [if_neg (by omega), drop_end ls i (by omega)]
    simp [longM]
  | d + 1, i, k, acc, h, ha, hk => by
    have hi : i < ls.length := by omega
    have hm := hx ls[i] (List.getElem_mem hi)
    obtain ⟨c, hc⟩ := hm.2
    have hcb : c ≤ P := by rw [hc]; exact Nat.le_mul_of_pos_left _ hm.1
    have eB : (d + 1) * B = d * B + B := Nat.succ_mul d B
    obtain ⟨k', rfl⟩ : ∃ k', k = k' + c + 1 + 1 := ⟨k - c - 2, by omega⟩
    conv => lhs; simp only [spec_l5Long.l0]
    rw [if_pos (by omega), ← repI_zero ls[i], spec_l5Long_l1 ls P i c hi hm.1 hc.symm hPb acc (by omega) c 0 k' (by omega), wrap_succ (n := ls.length) hi (by omega), spec_l5Long_l0 ls P hPb hl hx B hB d (i + 1) k' _ (by omega) (by simp; omega) (by omega)]
    have hq : P / ls[i].length = c := by rw [hc]; exact Nat.mul_div_cancel_left _ hm.1
    unfold longM
    rw [map_drop_step (fun l : List Int => repI l (P / l.length)) ls i hi acc, hq]
theorem spec_l5Long_eq (k : Nat) (ls : List (List Int)) (P : Nat) (hPb : P ≤ 3600) (hl : ls.length ≤ 6) (hx : ∀ l ∈ ls, 0 < l.length ∧ l.length ∣ P) (hk : 25000 < k) : spec_l5Long.f k ls (P : Int) = some (longM P ls) := by
  unfold spec_l5Long.f
  have := spec_l5Long_l0 ls P hPb hl hx 4000 (by omega) ls.length 0 k [] (by omega) (by simp) (by omega)
  simpa using this
theorem impl_changedJoin_l0 (ls : List (List Int)) (P : Nat) (hP0 : 0 < P) (hPb : P ≤ 3600) (hl : ls.length ≤ 6) (hx : ∀ l ∈ ls, 0 < l.length ∧ l.length ∣ P) : ∀ (d i k : Nat) (acc : List (List Int)), i + d = ls.length → acc.length ≤ i → d + 10 < k →
    impl_changedRounds__JoinPatrols_1.l0 k acc ls (ls.length : Int) (i : Int) (P : Int) = some (acc ++ longM P (ls.drop i))
  | 0, i, k, acc, h, ha, hk => by
    obtain ⟨k, rfl⟩ := succ_of (k := k) (by omega)
    simp only [impl_changedRounds__JoinPatrols_1.l0]
    rw [if_neg (by omega), drop_end ls i (by omega)]
    simp [longM]
  | d + 1, i, k, acc, h, ha, hk => by
    obtain ⟨k, rfl⟩ := succ_of (k := k) (by omega)
    have hi : i < ls.length := by omega
    have hm := hx ls[i] (List.getElem_mem hi)
    obtain ⟨c, hc⟩ := hm.2
    have hcb : c ≤ P := by rw [hc]; exact Nat.le_mul_of_pos_left _ hm.1
    have hlb : ls[i].length ≤ P := Nat.le_of_dvd hP0 hm.2
    have hc0 : 0 < c := by
      rcases Nat.eq_zero_or_pos c with h | h
      · subst h; omega
      · exact h
    have hq : P / ls[i].length = c := by rw [hc]; exact Nat.mul_div_cancel_left _ hm.1
    have hone : impl_JoinPatrols_1.f k ls[i] (P : Int) = some (repI ls[i] (P / ls[i].length)) := by
      unfold impl_JoinPatrols_1.f
      have ht : Int.tdiv (P : Int) (ls[i].length : Int) = (c : Int) := by
        rw [Int.tdiv_eq_ediv_of_nonneg (by omega), ← Int.natCast_ediv, hq]
      rw [if_neg (by omega), ht, wrap64_id (by omega) (by omega), slices_Repeat_eq k _ c hm.1 (by omega) hc0 (by omega), hq]
      rfl
    simp only [impl_changedRounds__JoinPatrols_1.l0]
    rw [if_pos (by omega), if_pos (by omega), if_pos (by omega), rdss_get ls i hi, hone, Option.bind_some, if_pos (by omega), wrap_succ (n := ls.length) hi (by omega), impl_changedJoin_l0 ls P hP0 hPb hl hx d (i + 1) k _ (by omega) (by simp; omega) (by omega)]
    unfold longM
    rw [map_drop_step (fun l : List Int => repI l (P / l.length)) ls i hi acc]
theorem impl_changedJoin_eq (k : Nat) (ls : List (List Int)) (P : Nat) (hP0 : 0 < P) (hPb : P ≤ 3600) (hl : ls.length ≤ 6) (hx : ∀ l ∈ ls, 0 < l.length ∧ l.length ∣ P) (hk : 30 < k) : impl_changedRounds__JoinPatrols_1.f k ls (P : Int) = some (longM P ls) := by
  unfold impl_changedRounds__JoinPatrols_1.f
  have := impl_changedJoin_l0 ls P hP0 hPb hl hx ls.length 0 k [] (by omega) (by simp) (by omega)
  simpa using this
theorem roundOk_rep {s : Int} {r : Bool} {l : List Int} (h : roundOk s r l = true) (h0 : 0 < l.length) (c : Nat) : roundOk s r (repI l c) = true := by
  unfold roundOk at h ⊢
  rw [Bool.and_eq_true] at h ⊢
  refine ⟨?_, ?_⟩
  · unfold allIn
    rw [List.all_eq_true]
    exact fun x hx => List.all_eq_true.1 h.1 x (repI_mem l c h0 x hx)
  · have h2 := h.2
    unfold cycM at h2 ⊢
    rw [List.all_eq_true] at h2 ⊢
    intro j hj
    rw [List.mem_range'_1, repI_len] at hj
    have hjl := Nat.mod_lt j h0
    have h3 := h2 (j % l.length) (by rw [List.mem_range'_1]; omega)
    have hlen : 0 < l.length * c := by omega
    have e2 : (j + 1) % (l.length * c) % l.length = (j % l.length + 1) % l.length := by
      rw [Nat.mod_mul_right_mod, Nat.add_mod, Nat.add_mod (j % l.length) 1, Nat.mod_mod]
    rw [repI_len, repI_rd l c j (by omega), repI_rd l c _ (Nat.mod_lt _ hlen), e2]
    exact h3
theorem lcm_div {m n : Nat} : m / Nat.gcd m n * n = m * (n / Nat.gcd m n) := by
  rw [Nat.div_mul_right_comm (Nat.gcd_dvd_left m n), Nat.mul_div_assoc _ (Nat.gcd_dvd_right m n)]
theorem patrol_div {s : Int} {r : Bool} {ls : List (List Int)} (h : patrolOk s r ls = true) {P : Nat} (hd : (ls.headD []).length ∣ P) : ∀ l ∈ ls, 0 < l.length ∧ l.length ∣ P := by
  intro l hl
  have hb := patrolOk_bd h
  have := (hb.2.2 l hl).1
  refine ⟨by omega, ?_⟩
  rw [this]
  exact hd
theorem longM_mem {P : Nat} {ls : List (List Int)} (hx : ∀ l ∈ ls, 0 < l.length ∧ l.length ∣ P) : ∀ y ∈ longM P ls, y.length = P ∧ ∃ l ∈ ls, y = repI l (P / l.length) := by
  intro y hy
  obtain ⟨l, hl, rfl⟩ := List.mem_map.1 hy
  refine ⟨by rw [repI_len, Nat.mul_div_cancel' (hx l hl).2], l, hl, rfl⟩
theorem joined_ok {s : Int} {r : Bool} {a b : List (List Int)} (ha : patrolOk s r a = true) (hb : patrolOk s r b = true) {P : Nat} (hP0 : 0 < P) (h1 : (a.headD []).length ∣ P) (h2 : (b.headD []).length ∣ P) :
    patrolOk s r (longM P a ++ longM P b) = (decide (a.length + b.length ≤ 6) && decide (P ≤ 60)) := by
  have Ha := patrolOk_bd ha
  have Hb := patrolOk_bd hb
  have da := patrol_div ha h1
  have db := patrol_div hb h2
  have hlen : (longM P a ++ longM P b).length = a.length + b.length := by simp [longM]
  have hall : ∀ y ∈ longM P a ++ longM P b, y.length = P ∧ roundOk s r y = true := by
    intro y hy
    rcases List.mem_append.1 hy with hy | hy
    · obtain ⟨e, l, hl, rfl⟩ := longM_mem da y hy
      exact ⟨e, roundOk_rep (Ha.2.2 l hl).2 (da l hl).1 _⟩
    · obtain ⟨e, l, hl, rfl⟩ := longM_mem db y hy
      exact ⟨e, roundOk_rep (Hb.2.2 l hl).2 (db l hl).1 _⟩
  have hh : ((longM P a ++ longM P b).headD []).length = P := (hall _ (headD_mem _ [] (by omega))).1
  have hAll : (longM P a ++ longM P b).all (fun l => decide (l.length = ((longM P a ++ longM P b).headD []).length) && roundOk s r l) = true := by
    rw [List.all_eq_true]
    intro y hy
    rw [hh, (hall y hy).1, (hall y hy).2]
    simp
  unfold patrolOk
  rw [hAll, hh, hlen, Bool.and_true]
  congr 1
  · unfold inR
    rw [Bool.eq_iff_iff, Bool.and_eq_true, decide_eq_true_eq, decide_eq_true_eq, decide_eq_true_eq]
    omega
  · unfold inR
    rw [Bool.eq_iff_iff, Bool.and_eq_true, decide_eq_true_eq, decide_eq_true_eq, decide_eq_true_eq]
    omega
/-- What both join patrols to. -/
def joinM (s : Int) (r : Bool) (a b : List (List Int)) : List (List Int) × Bool :=
  if (road s r && (patrolOk s r a && patrolOk s r b)) = true then
    (if a.length + b.length ≤ 6 ∧ (a.headD []).length / Nat.gcd (a.headD []).length (b.headD []).length * (b.headD []).length ≤ 60 then
      (longM ((a.headD []).length / Nat.gcd (a.headD []).length (b.headD []).length * (b.headD []).length) a ++ longM ((a.headD []).length / Nat.gcd (a.headD []).length (b.headD []).length * (b.headD []).length) b, true) else ([], false))
  else ([], false)
theorem rdss_zero (ls : List (List Int)) : rd_L1 ls 0 = ls.headD [] := by unfold rd_L1; cases ls <;> simp
theorem join_period {m n : Nat} (hm : 1 ≤ m) (hm2 : m ≤ 60) (hn : 1 ≤ n) (hn2 : n ≤ 60) : 0 < Nat.gcd m n ∧ Nat.gcd m n ≤ 60 ∧ 0 < m / Nat.gcd m n * n ∧ m / Nat.gcd m n * n ≤ 3600 ∧ m ∣ m / Nat.gcd m n * n ∧ n ∣ m / Nat.gcd m n * n ∧ wrap64 (wrap64 ((m : Int) / ((Nat.gcd m n : Nat) : Int)) * (n : Int)) = ((m / Nat.gcd m n * n : Nat) : Int) := by
  have hg := Nat.gcd_pos_of_pos_left n (show 0 < m by omega)
  have hgl := Nat.gcd_le_left n (show 0 < m by omega)
  have hd : m / Nat.gcd m n ≤ 60 := Nat.le_trans (Nat.div_le_self _ _) hm2
  have hd0 : 0 < m / Nat.gcd m n := Nat.div_pos hgl hg
  have hp : m / Nat.gcd m n * n ≤ 60 * 60 := Nat.mul_le_mul hd hn2
  have hp0 : 0 < m / Nat.gcd m n * n := Nat.mul_pos hd0 (by omega)
  refine ⟨hg, by omega, hp0, by omega, ?_, Nat.dvd_mul_left _ _, ?_⟩
  · rw [lcm_div]
    exact Nat.dvd_mul_right _ _
  · rw [← Int.natCast_ediv, wrap64_id (x := ((m / Nat.gcd m n : Nat) : Int)) (by omega) (by omega), ← Int.natCast_mul, wrap64_id (by omega) (by omega)]
theorem spec_JoinPatrols_eq (k : Nat) (s : Int) (r : Bool) (a b : List (List Int)) (hla : a.length ≤ 1048576) (hxa : ∀ x ∈ a, x.length ≤ 1048576) (hlb : b.length ≤ 1048576) (hxb : ∀ x ∈ b, x.length ≤ 1048576) (hk : 2097600 < k) :
    spec_JoinPatrols.f k s r a b = some (joinM s r a b) := by
  obtain ⟨k, rfl⟩ := succ_of (k := k) (by omega)
  unfold spec_JoinPatrols.f joinM
  rw [spec_l5Good_eq _ s r a hla hxa (by omega), Option.bind_some]
  cases hr : road s r with
  | false => simp [spec_JoinPatrols.j0]
  | true =>
    cases hpa : patrolOk s r a with
    | false => simp [spec_JoinPatrols.j0]
    | true =>
      rw [Bool.and_self, if_pos rfl, spec_l5Patrol_eq _ s r hr b hlb hxb (by omega), Option.bind_some]
      cases hpb : patrolOk s r b with
      | false => simp [spec_JoinPatrols.j0]
      | true =>
        have Ha := patrolOk_bd hpa
        have Hb := patrolOk_bd hpb
        simp only [spec_JoinPatrols.j0, Bool.not_true, Bool.and_self, if_true]
        rw [if_neg (by simp), if_pos (by omega), if_pos (by omega), rdss_zero, rdss_zero]
        have hP := join_period Ha.2.1.1 Ha.2.1.2 Hb.2.1.1 Hb.2.1.2
        rw [spec_l3Gcd_eq k _ _ (by omega), Option.bind_some, if_neg (by omega), hP.2.2.2.2.2.2]
        generalize hPe : (a.headD []).length / Nat.gcd (a.headD []).length (b.headD []).length * (b.headD []).length = P at hP ⊢
        obtain ⟨_, _, hP0, hPb, hd1, hd2, _⟩ := hP
        clear hPe
        have da := patrol_div hpa hd1
        have db := patrol_div hpb hd2
        rw [spec_l5Long_eq k a P hPb Ha.1.2 da (by omega), Option.bind_some, spec_l5Long_eq k b P hPb Hb.1.2 db (by omega), Option.bind_some]
        have la : (longM P a).length = a.length := by simp [longM]
        have lb : (longM P b).length = b.length := by simp [longM]
        rw [if_pos (by omega), Option.bind_some, spec_l5Patrol_eq k s r hr _ (by rw [List.length_append]; omega) (fun x hx => by
          rcases List.mem_append.1 hx with hx | hx
          · have := (longM_mem da x hx).1; omega
          · have := (longM_mem db x hx).1; omega) (by omega), Option.bind_some, joined_ok hpa hpb hP0 hd1 hd2]
        by_cases c : a.length + b.length ≤ 6 ∧ P ≤ 60
        · rw [if_pos c, if_pos (by simp [c])]
        · rw [if_neg c, if_neg (by simpa using c)]
theorem impl_JoinPatrols_eq (k : Nat) (s : Int) (r : Bool) (a b : List (List Int)) (hla : a.length ≤ 1048576) (hxa : ∀ x ∈ a, x.length ≤ 1048576) (hlb : b.length ≤ 1048576) (hxb : ∀ x ∈ b, x.length ≤ 1048576) (hk : 2097600 < k) :
    impl_JoinPatrols.f k s r a b = some (joinM s r a b) := by
  obtain ⟨k, rfl⟩ := succ_of (k := k) (by omega)
  unfold impl_JoinPatrols.f joinM
  rw [impl_arePatrols_eq _ s r [a, b] (fun ls hls => by
    simp at hls
    rcases hls with rfl | rfl
    · exact ⟨hla, hxa⟩
    · exact ⟨hlb, hxb⟩) (by omega), Option.bind_some]
  simp only [List.all_cons, List.all_nil, Bool.and_true]
  by_cases h : (road s r && (patrolOk s r a && patrolOk s r b)) = true
  · rw [if_pos h, if_pos h]
    rw [Bool.and_eq_true, Bool.and_eq_true] at h
    have Ha := patrolOk_bd h.2.1
    have Hb := patrolOk_bd h.2.2
    have hP := join_period Ha.2.1.1 Ha.2.1.2 Hb.2.1.1 Hb.2.1.2
    rw [if_pos (by omega), if_pos (by omega), rdss_zero, rdss_zero, impl_divisor_eq _ _ _ (by omega), Option.bind_some, if_neg (by omega), hP.2.2.2.2.2.2, wrap64_id (x := (a.length : Int) + (b.length : Int)) (by omega) (by omega)]
    generalize hPe : (a.headD []).length / Nat.gcd (a.headD []).length (b.headD []).length * (b.headD []).length = P at hP ⊢
    obtain ⟨_, _, hP0, hPb, hd1, hd2, _⟩ := hP
    clear hPe
    have da := patrol_div h.2.1 hd1
    have db := patrol_div h.2.2 hd2
    by_cases c : (a.length : Int) + (b.length : Int) > 6
    · rw [if_pos c, if_neg (by omega)]
      simp only [impl_JoinPatrols.j0, if_true]
    · rw [if_neg c]
      by_cases c2 : P ≤ 60
      · rw [if_pos (by omega), show decide ((P : Int) > 60) = false by simp; omega]
        simp only [impl_JoinPatrols.j0]
        have la : (longM P a).length = a.length := by simp [longM]
        have lb : (longM P b).length = b.length := by simp [longM]
        rw [if_neg (by simp), impl_changedJoin_eq k a P hP0 hPb Ha.1.2 da (by omega), Option.bind_some, impl_changedJoin_eq k b P hP0 hPb Hb.1.2 db (by omega), Option.bind_some, if_pos (by omega)]
      · rw [if_neg (by omega), show decide ((P : Int) > 60) = true by simp; omega]
        simp only [impl_JoinPatrols.j0, if_true]
  · rw [if_neg h, if_neg h]
theorem joinM_bd (s : Int) (r : Bool) (a b : List (List Int)) : (joinM s r a b).1.length ≤ 6 ∧ ∀ x ∈ (joinM s r a b).1, x.length ≤ 60 := by
  unfold joinM
  by_cases h : (road s r && (patrolOk s r a && patrolOk s r b)) = true
  · rw [if_pos h]
    rw [Bool.and_eq_true, Bool.and_eq_true] at h
    have Ha := patrolOk_bd h.2.1
    have Hb := patrolOk_bd h.2.2
    have hP := join_period Ha.2.1.1 Ha.2.1.2 Hb.2.1.1 Hb.2.1.2
    generalize hPe : (a.headD []).length / Nat.gcd (a.headD []).length (b.headD []).length * (b.headD []).length = P at hP ⊢
    obtain ⟨_, _, hP0, hPb, hd1, hd2, _⟩ := hP
    clear hPe
    have da := patrol_div h.2.1 hd1
    have db := patrol_div h.2.2 hd2
    by_cases c : a.length + b.length ≤ 6 ∧ P ≤ 60
    · rw [if_pos c]
      refine ⟨by simp [longM]; omega, fun x hx => ?_⟩
      rcases List.mem_append.1 hx with hx | hx
      · have := (longM_mem da x hx).1; omega
      · have := (longM_mem db x hx).1; omega
    · rw [if_neg c]
      simp
  · rw [if_neg h]
    simp

theorem FnExactJoinPatrols (a0_0 : Int) (a0_1 : Bool) (l1 : List (List (Int))) (l2 : List (List (Int)))
    (h0 : ((Lit.int .i64 (a0_0)).wf = true)) (h1 : True) (h2 : (l1.length ≤ maxLen ∧ ∀ y0 ∈ l1, (y0.length ≤ maxLen ∧ ∀ y1 ∈ y0, ((Lit.int .i64 (y1)).wf = true)))) (h3 : (l2.length ≤ maxLen ∧ ∀ y0 ∈ l2, (y0.length ≤ maxLen ∧ ∀ y1 ∈ y0, ((Lit.int .i64 (y1)).wf = true)))) :
    ∃ k, laws_FnExactJoinPatrols.Ok k a0_0 a0_1 l1 l2 := by
  have hm := h2.1
  have hm2 := h3.1
  unfold maxLen at hm hm2
  have hmx : ∀ x ∈ l1, x.length ≤ 9223372036854775807 := fun x hx => by have := (h2.2 x hx).1; unfold maxLen at this; omega
  have hmx2 : ∀ x ∈ l2, x.length ≤ 9223372036854775807 := fun x hx => by have := (h3.2 x hx).1; unfold maxLen at this; omega
  refine ⟨4194304, ?_⟩
  unfold laws_FnExactJoinPatrols.Ok
  obtain ⟨t, ht, hta, hb⟩ := laws_szIntSS_eq 4194304 l1 1048576 (by omega) (by omega) (by omega) hmx (by omega)
  refine ⟨t, ht, ?_⟩
  by_cases c : t < 0
  · exact .inl c
  right
  refine ⟨by omega, ?_⟩
  have hb := hb (by omega)
  obtain ⟨t2, ht2, hta2, hb2⟩ := laws_szIntSS_eq 4194304 l2 t (by omega) (by omega) (by omega) hmx2 (by omega)
  refine ⟨t2, ht2, ?_⟩
  by_cases c2 : t2 < 0
  · exact .inl c2
  right
  have hb2 := hb2 (by omega)
  have hl : l1.length ≤ 1048576 := by omega
  have hx : ∀ x ∈ l1, x.length ≤ 1048576 := fun x hx => by have := hb.2 x hx; omega
  have hl2 : l2.length ≤ 1048576 := by omega
  have hx2 : ∀ x ∈ l2, x.length ≤ 1048576 := fun x hx => by have := hb2.2 x hx; omega
  have htot : tot l1 ≤ 1099511627776 := Nat.le_trans (tot_le hx) (by omega)
  have htot2 : tot l2 ≤ 1099511627776 := Nat.le_trans (tot_le hx2) (by omega)
  have hs := spec_JoinPatrols_eq 4194304 a0_0 a0_1 l1 l2 hl hx hl2 hx2 (by omega)
  have hi := impl_JoinPatrols_eq 4194304 a0_0 a0_1 l1 l2 hl hx hl2 hx2 (by omega)
  have hv := joinM_bd a0_0 a0_1 l1 l2
  generalize joinM a0_0 a0_1 l1 l2 = vb at hs hi hv
  obtain ⟨v, b⟩ := vb
  have hn : v.length ≤ 6 := hv.1
  have hvx : ∀ x ∈ v, x.length ≤ 60 := hv.2
  have hvx' : ∀ x ∈ v, x.length ≤ 1048576 := fun x hx => by have := hvx x hx; omega
  have hvt : tot v ≤ 1099511627776 := Nat.le_trans (tot_le hvx) (by omega)
  exact ⟨by omega, a0_0, a0_1, l1, l2, v, b, 1 + tot l1, marksSS 1 l1, 1 + tot l1 + tot l2, marksSS (1 + tot l1) l2, 1 + tot v, marksSS 1 v, rfl, laws_toIntSS_eq 4194304 l1 hl hx (by omega), laws_toIntSS_eq 4194304 l2 hl2 hx2 (by omega), hs, hi, laws_eqIntSS_self 4194304 v (by omega) hvx' (by omega), laws_eqIntSS_self 4194304 l1 hl hx (by omega), laws_eqIntSS_self 4194304 l2 hl2 hx2 (by omega), laws_markIntSS_eq 4194304 l1 hl hx htot (by omega), laws_markIntSS_eqA 4194304 l2 (1 + tot l1) (by omega) (by omega) hl2 hx2 htot2 (by omega), laws_markIntSS_eq 4194304 v (by omega) hvx' hvt (by omega), laws_heldIntSS_eq 4194304 v (by omega) hvx' hvt (by omega), by omega, by omega, by omega⟩

end Go.Proofs.Ytppkommlmloenaa.Pure
