/- Plain facts on numbers and lists: what the functions that the law FnExactIsRelay reaches answer, and that the law's own function answers true. No program, no memory. -/
import Derived.Test.YthgbkekfekcfaaaPFnExactIsRelayx1
import Derived.Test.YthgbkekfekcfaaaPFnExactIsRelayx2
import Derived.Test.YthgbkekfekcfaaaPFnExactIsRelayx3
import Derived.Test.YthgbkekfekcfaaaPFnExactIsRelayx4
import Derived.Test.YthgbkekfekcfaaaPFnExactIsRelayx5
import Derived.Test.YthgbkekfekcfaaaPFnExactIsRelayx6
import Derived.Test.YthgbkekfekcfaaaPFnExactIsRelayx7
namespace Go.Proofs.Ythgbkekfekcfaaa.Pure
open Go.RowKit Go.Proofs.Ythgbkekfekcfaaa.PFnExactIsRelay Go.Proofs.YthgbkekfekcfaaaW.PrintWords Go.Proofs.YthgbkekfekcfaaaW.PrintLast Go.Proofs.YthgbkekfekcfaaaW.PrintMore
set_option linter.unusedVariables false
set_option linter.unusedSimpArgs false
theorem wrap64_id {x : Int} (h1 : -9223372036854775808 ≤ x) (h2 : x ≤ 9223372036854775807) : wrap64 x = x := by unfold wrap64; omega
theorem i64_of {x : Int} (h : (Lit.int .i64 x).wf = true) : -9223372036854775808 ≤ x ∧ x ≤ 9223372036854775807 := by
  simp [Lit.wf, IntKind.min, IntKind.max, IntKind.bits, IntKind.signed, IntKind.wrap] at h
  omega
def inR (x a b : Int) : Bool := decide (a ≤ x) && decide (x ≤ b)
theorem inR_iff {x a b : Int} : inR x a b = true ↔ a ≤ x ∧ x ≤ b := by unfold inR; simp
theorem inR_not {x a b : Int} : inR x a b = false ↔ ¬ (a ≤ x ∧ x ≤ b) := by rw [← inR_iff]; simp
def road (s : Int) (r : Bool) : Bool := inR s 2 24 && (!r || decide (3 ≤ s))
theorem road_bd {s : Int} {r : Bool} (h : road s r = true) : 2 ≤ s ∧ s ≤ 24 ∧ (r = true → 3 ≤ s) := by
  unfold road at h
  rw [Bool.and_eq_true, inR_iff] at h
  refine ⟨h.1.1, h.1.2, fun hr => ?_⟩
  have := h.2
  simp [hr] at this
  exact this
theorem spec_l1In_eq (a b c : Int) : spec_l1In.f a b c = some (inR a b c) := by
  unfold spec_l1In.f inR
  by_cases h : a ≥ b
  · have h' : b ≤ a := h
    simp [h, h']
  · have h' : ¬ b ≤ a := h
    simp [h, h']
theorem impl_within_eq (a b c : Int) : impl_within.f a b c = some (inR a b c) := by
  unfold impl_within.f inR
  by_cases h : a ≥ b
  · have h' : b ≤ a := h
    simp [h, h']
  · have h' : ¬ b ≤ a := h
    simp [h, h']
theorem spec_l2Road_eq (s : Int) (r : Bool) : spec_l2Road.f s r = some (road s r) := by
  unfold spec_l2Road.f road
  rw [spec_l1In_eq, Option.bind_some]
  cases inR s 2 24 <;> cases r <;> simp
  omega
theorem impl_IsRoad_eq (s : Int) (r : Bool) : impl_IsRoad.f s r = some (road s r) := by
  unfold impl_IsRoad.f road
  rw [impl_within_eq, Option.bind_some]
  cases inR s 2 24 <;> cases r <;> simp
theorem laws_toRoad_eq (s : Int) (r : Bool) : laws_toRoad.f s r = some (s, r) := rfl
theorem wrap_succ {i n : Nat} (h : i < n) (hn : n ≤ 9223372036854775807) : wrap64 ((i : Int) + 1) = ((i + 1 : Nat) : Int) := by unfold wrap64; omega
theorem drop_rd (l : List Int) (i : Nat) (h : i < l.length) : l.drop i = rd l (i : Int) :: l.drop (i + 1) := by
  rw [List.drop_eq_getElem_cons h]
  unfold rd
  simp [List.getD_eq_getElem?_getD, h]
theorem rd_get (l : List Int) (i : Nat) (h : i < l.length) : rd l (i : Int) = l[i] := by
  unfold rd
  simp [List.getD_eq_getElem?_getD, h]
theorem succ_of {k : Nat} (h : 0 < k) : ∃ m, k = m + 1 := ⟨k - 1, by omega⟩
theorem headD_mem {α : Type} (ls : List α) (z : α) (h : 0 < ls.length) : ls.headD z ∈ ls := by cases ls <;> simp_all
theorem drop_end {α : Type} (l : List α) (i : Nat) (h : l.length ≤ i) : l.drop i = [] := List.drop_of_length_le h
def allIn (l : List Int) (a b : Int) : Bool := l.all (fun x => inR x a b)
/-- Numbers in line, from a on. -/
def marks (a : Int) : Nat → List Int
  | 0 => []
  | n + 1 => a :: marks (a + 1) n
theorem marks_len (a : Int) (n : Nat) : (marks a n).length = n := by
  induction n generalizing a with
  | zero => rfl
  | succ n ih => simp [marks, ih]
theorem marks_snoc (a : Int) (n : Nat) : marks a (n + 1) = marks a n ++ [a + n] := by
  induction n generalizing a with
  | zero => simp [marks]
  | succ n ih =>
    rw [marks, ih (a + 1)]
    simp [marks]
    omega
theorem marks_rd (a : Int) (n i : Nat) (h : i < n) : rd (marks a n) (i : Int) = a + i := by
  rw [rd_get _ _ (by rw [marks_len]; exact h)]
  induction n generalizing a i with
  | zero => omega
  | succ n ih =>
    cases i with
    | zero => simp [marks]
    | succ i =>
      simp only [marks, List.getElem_cons_succ]
      rw [ih (a + 1) i (by omega)]
      omega
theorem impl_allWithin_l0 (lo hi : Int) (l : List Int) (hl : l.length ≤ 9223372036854775807) : ∀ (d i k : Nat), i + d = l.length → d < k →
    impl_allWithin.l0 k lo hi l (l.length : Int) (i : Int) = some (allIn (l.drop i) lo hi)
  | 0, i, k, h, hk => by
    obtain ⟨k, rfl⟩ := succ_of (k := k) (by omega)
    simp only [impl_allWithin.l0]
    rw [if_neg (by omega), drop_end l i (by omega)]
    rfl
  | d + 1, i, k, h, hk => by
    obtain ⟨k, rfl⟩ := succ_of (k := k) (by omega)
    simp only [impl_allWithin.l0]
    rw [if_pos (by omega), if_pos (by omega), if_pos (by omega), impl_within_eq, Option.bind_some, wrap_succ (n := l.length) (by omega) hl, impl_allWithin_l0 lo hi l hl d (i + 1) k (by omega) (by omega), drop_rd l i (by omega)]
    unfold allIn
    rw [List.all_cons]
    cases inR (rd l (i : Int)) lo hi <;> simp
theorem impl_allWithin_eq (k : Nat) (l : List Int) (a b : Int) (hl : l.length ≤ 9223372036854775807) (hk : l.length < k) : impl_allWithin.f k l a b = some (allIn l a b) := by
  unfold impl_allWithin.f
  have := impl_allWithin_l0 a b l hl l.length 0 k (by omega) hk
  simpa using this
theorem impl_Road_has_eq (k : Nat) (s : Int) (r : Bool) (l : List Int) (hl : l.length ≤ 9223372036854775807) (hk : l.length < k) : impl_Road_has.f k s r l = some (allIn l 0 (wrap64 (s - 1))) := by
  unfold impl_Road_has.f
  rw [impl_allWithin_eq k l _ _ hl hk, Option.bind_some]
theorem impl_Road_has1 (k : Nat) (s : Int) (r : Bool) (x : Int) (hs : road s r = true) (hk : 1 < k) : impl_Road_has.f k s r [x] = some (inR x 0 (s - 1)) := by
  rw [impl_Road_has_eq k s r [x] (by simp) (by simpa using hk)]
  have := road_bd hs
  rw [wrap64_id (by omega) (by omega)]
  simp [allIn]
theorem impl_Road_hasN (k : Nat) (s : Int) (r : Bool) (l : List Int) (hs : road s r = true) (hl : l.length ≤ 9223372036854775807) (hk : l.length < k) : impl_Road_has.f k s r l = some (allIn l 0 (s - 1)) := by
  rw [impl_Road_has_eq k s r l hl hk]
  have := road_bd hs
  rw [wrap64_id (by omega) (by omega)]
theorem spec_l2Place_eq (s : Int) (r : Bool) (x : Int) : spec_l2Place.f s r x = some (road s r && inR x 0 (s - 1)) := by
  unfold spec_l2Place.f
  rw [spec_l2Road_eq, Option.bind_some]
  cases h : road s r with
  | false => simp
  | true =>
    have := road_bd h
    rw [wrap64_id (by omega) (by omega)]
    simp [spec_l1In_eq]
def runL (s x : Int) (n : Nat) : List Int := (List.range n).map (fun (i : Nat) => Int.tmod (x + i) s)
theorem runL_snoc (s x : Int) (n : Nat) : runL s x (n + 1) = runL s x n ++ [Int.tmod (x + n) s] := by unfold runL; rw [List.range_succ]; simp
theorem runL_len (s x : Int) (n : Nat) : (runL s x n).length = n := by simp [runL]
def fits (s : Int) (r : Bool) (x n : Int) : Bool := inR x 0 (s - 1) && inR n 0 s && (r || decide (x + n ≤ s))
def carrierOk (s f0 f1 f2 : Int) : Bool := inR f0 0 (s - 1) && inR f1 0 48 && inR f2 0 20
theorem laws_szCarrierS_eq (l : List S63) (a : Int) (ha : 0 ≤ a) (hA : a ≤ 1048576) (hl : l.length ≤ maxLen) :
    laws_szCarrierS.f l a = some (if a < l.length then -1 else a - l.length) := by
  unfold maxLen at hl
  unfold laws_szCarrierS.f
  rw [wrap64_id (by omega) (by omega)]
  by_cases c : a < (l.length : Int)
  · rw [if_pos (by omega), if_pos c]
  · rw [if_neg (by omega), if_neg c]
theorem laws_toCarrier_eq (a b c : Int) : laws_toCarrier.f a b c = some (a, b, c) := rfl
def toC (x : S63) : S61 := ⟨x.f0, x.f1, x.f2⟩
theorem rdC_lawget (l : List S63) (i : Nat) (h : i < l.length) : rd_T63 l (i : Int) = l[i] := by
  unfold rd_T63
  simp [List.getD_eq_getElem?_getD, h]
theorem laws_toCarrierS_l0 (l : List S63) (hl : l.length ≤ 9223372036854775807) : ∀ (d i k : Nat), i + d = l.length → d < k →
    laws_toCarrierS.l0 k l ((l.map toC).take i ++ List.replicate d z61) (i : Int) = some (l.map toC)
  | 0, i, k, h, hk => by
    obtain ⟨k, rfl⟩ := succ_of (k := k) (by omega)
    simp only [laws_toCarrierS.l0]
    rw [if_neg (by omega), List.take_of_length_le (by simp; omega)]
    simp
  | d + 1, i, k, h, hk => by
    obtain ⟨k, rfl⟩ := succ_of (k := k) (by omega)
    simp only [laws_toCarrierS.l0]
    rw [if_pos (by omega), if_pos (by omega), laws_toCarrier_eq, Option.bind_some, if_pos (by simp; omega), wrap_succ (n := l.length) (by omega) hl]
    have e : ((l.map toC).take i ++ List.replicate (d + 1) z61).set ((i : Int)).toNat (⟨(rd_T63 l (i : Int)).f0, (rd_T63 l (i : Int)).f1, (rd_T63 l (i : Int)).f2⟩ : S61) = (l.map toC).take (i + 1) ++ List.replicate d z61 := by
      rw [Int.toNat_natCast, List.set_append_right _ _ (by simp; omega)]
      rw [List.length_take, List.length_map, Nat.min_eq_left (by omega), Nat.sub_self, List.replicate_succ, List.set_cons_zero, rdC_lawget l i (by omega)]
      rw [List.take_succ_eq_append_getElem (show i < (l.map toC).length by simp; omega), List.append_assoc, List.getElem_map]
      rfl
    rw [e]
    exact laws_toCarrierS_l0 l hl d (i + 1) k (by omega) (by omega)
theorem laws_toCarrierS_eq (k : Nat) (l : List S63) (hl : l.length ≤ 11728124029610) (hk : l.length < k) : laws_toCarrierS.f k l = some (l.map toC) := by
  unfold laws_toCarrierS.f
  rw [if_pos (by omega), if_pos (by simpa using hl)]
  have := laws_toCarrierS_l0 l (by omega) l.length 0 k (by omega) hk
  simpa using this
theorem impl_isLine_eq (s : Int) (r : Bool) : impl_isLine.f s r = some (road s r && !r) := by
  unfold impl_isLine.f
  rw [impl_IsRoad_eq, Option.bind_some]
  cases road s r <;> simp
theorem spec_l3Line_eq (s : Int) (r : Bool) (x : Int) : spec_l3Line.f s r x = some (road s r && !r && inR x 0 (s - 1)) := by
  unfold spec_l3Line.f
  rw [spec_l2Road_eq, Option.bind_some]
  cases h : road s r with
  | false => simp
  | true =>
    have := road_bd h
    rw [wrap64_id (by omega) (by omega)]
    cases r <;> simp [spec_l1In_eq]
theorem spec_l7Carrier_eq (s : Int) (r : Bool) (a b c : Int) : spec_l7Carrier.f s r a b c = some (road s r && !r && carrierOk s a b c) := by
  unfold spec_l7Carrier.f carrierOk
  rw [spec_l3Line_eq, Option.bind_some]
  simp only [spec_l1In_eq, Option.bind_some]
  cases road s r <;> cases r <;> cases inR a 0 (s - 1) <;> cases inR b 0 48 <;> simp
theorem rdC_get (l : List S61) (i : Nat) (h : i < l.length) : rd_T61 l (i : Int) = l[i] := by
  unfold rd_T61
  simp [List.getD_eq_getElem?_getD, h]
theorem drop_rdC (l : List S61) (i : Nat) (h : i < l.length) : l.drop i = rd_T61 l (i : Int) :: l.drop (i + 1) := by
  rw [List.drop_eq_getElem_cons h, rdC_get l i h]
def carriersOk (s : Int) (l : List S61) : Bool := l.all (fun c => carrierOk s c.f0 c.f1 c.f2)
theorem spec_l7Carriers_l0 (s : Int) (r : Bool) (l : List S61) (hl : l.length ≤ 9223372036854775807) : ∀ (d i k : Nat), i + d = l.length → d < k →
    spec_l7Carriers.l0 k l (i : Int) s r = some (road s r && !r && carriersOk s (l.drop i) && decide ((l.length : Int) ≤ 6))
  | 0, i, k, h, hk => by
    obtain ⟨k, rfl⟩ := succ_of (k := k) (by omega)
    simp only [spec_l7Carriers.l0]
    rw [if_neg (by omega), drop_end l i (by omega), spec_l2Road_eq, Option.bind_some]
    cases road s r <;> cases r <;> simp [carriersOk]
  | d + 1, i, k, h, hk => by
    obtain ⟨k, rfl⟩ := succ_of (k := k) (by omega)
    simp only [spec_l7Carriers.l0]
    rw [if_pos (by omega), if_pos (by omega), spec_l7Carrier_eq, Option.bind_some, wrap_succ (n := l.length) (by omega) hl, spec_l7Carriers_l0 s r l hl d (i + 1) k (by omega) (by omega), drop_rdC l i (by omega)]
    unfold carriersOk
    rw [List.all_cons]
    cases road s r <;> cases r <;> cases carrierOk s (rd_T61 l (i : Int)).f0 (rd_T61 l (i : Int)).f1 (rd_T61 l (i : Int)).f2 <;> simp
theorem spec_l7Carriers_eq (k : Nat) (s : Int) (r : Bool) (l : List S61) (hl : l.length ≤ 9223372036854775807) (hk : l.length < k) :
    spec_l7Carriers.f k s r l = some (road s r && !r && carriersOk s l && decide ((l.length : Int) ≤ 6)) := by
  unfold spec_l7Carriers.f
  have := spec_l7Carriers_l0 s r l hl l.length 0 k (by omega) hk
  simpa using this
theorem impl_Road_areCarriers_l0 (s : Int) (r : Bool) (hr : road s r = true) (l : List S61) (hl : l.length ≤ 9223372036854775807) : ∀ (d i k : Nat), i + d = l.length → d + 2 < k →
    impl_Road_areCarriers.l0 k l l (l.length : Int) (i : Int) s r = some (carriersOk s (l.drop i) && decide ((l.length : Int) ≤ 6))
  | 0, i, k, h, hk => by
    obtain ⟨k, rfl⟩ := succ_of (k := k) (by omega)
    simp only [impl_Road_areCarriers.l0]
    rw [if_neg (by omega), drop_end l i (by omega)]
    simp [carriersOk]
  | d + 1, i, k, h, hk => by
    obtain ⟨k, rfl⟩ := succ_of (k := k) (by omega)
    simp only [impl_Road_areCarriers.l0]
    rw [if_pos (by omega), if_pos (by omega), if_pos (by omega), impl_Road_has1 k s r _ hr (by omega), Option.bind_some, wrap_succ (n := l.length) (by omega) hl, impl_Road_areCarriers_l0 s r hr l hl d (i + 1) k (by omega) (by omega), drop_rdC l i (by omega)]
    simp only [impl_within_eq, Option.bind_some]
    unfold carriersOk
    rw [List.all_cons]
    unfold carrierOk
    cases inR (rd_T61 l (i : Int)).f0 0 (s - 1) <;> cases inR (rd_T61 l (i : Int)).f1 0 48 <;> cases inR (rd_T61 l (i : Int)).f2 0 20 <;> simp
theorem impl_Road_areCarriers_eq (k : Nat) (s : Int) (r : Bool) (hr : road s r = true) (l : List S61) (hl : l.length ≤ 9223372036854775807) (hk : l.length + 2 < k) :
    impl_Road_areCarriers.f k s r l = some (carriersOk s l && decide ((l.length : Int) ≤ 6)) := by
  unfold impl_Road_areCarriers.f
  have := impl_Road_areCarriers_l0 s r hr l hl l.length 0 k (by omega) hk
  simpa using this
theorem laws_eqCarrier_self (a b c : Int) : laws_eqCarrier.f a b c a b c = some true := by
  unfold laws_eqCarrier.f
  rw [if_pos rfl, if_pos rfl, if_pos rfl]
theorem laws_eqCarrierS_l0 (l : List S61) (hl : l.length ≤ 9223372036854775807) : ∀ (d i k : Nat), i + d = l.length → d < k → laws_eqCarrierS.l0 k l l (i : Int) = some true
  | 0, i, k, h, hk => by
    obtain ⟨k, rfl⟩ := succ_of (k := k) (by omega)
    simp only [laws_eqCarrierS.l0]
    rw [if_neg (by omega)]
  | d + 1, i, k, h, hk => by
    obtain ⟨k, rfl⟩ := succ_of (k := k) (by omega)
    simp only [laws_eqCarrierS.l0]
    rw [if_pos (by omega), if_pos (by omega), if_pos (by omega), laws_eqCarrier_self, Option.bind_some, if_pos rfl, wrap_succ (n := l.length) (by omega) hl]
    exact laws_eqCarrierS_l0 l hl d (i + 1) k (by omega) (by omega)
theorem laws_eqCarrierS_self (k : Nat) (l : List S61) (hl : l.length ≤ 9223372036854775807) (hk : l.length < k) : laws_eqCarrierS.f k l l = some true := by
  unfold laws_eqCarrierS.f
  rw [if_pos rfl]
  have := laws_eqCarrierS_l0 l hl l.length 0 k (by omega) hk
  simpa using this
def gapM (s : Int) (r : Bool) (a b : Int) : Int :=
  let d := if a - b < b - a then b - a else a - b
  if r = true then (if s - d < d then s - d else d) else d
theorem gapM_bd {s : Int} {r : Bool} {a b : Int} (hs : 2 ≤ s) (ha : 0 ≤ a ∧ a ≤ s - 1) (hb : 0 ≤ b ∧ b ≤ s - 1) : 0 ≤ gapM s r a b ∧ gapM s r a b ≤ s - 1 := by
  unfold gapM
  simp only
  split <;> split <;> (try split) <;> omega
theorem impl_Road_gap_eq (s : Int) (r : Bool) (a b : Int) (hs : 0 ≤ s ∧ s ≤ 1000) (ha : -1000000 ≤ a ∧ a ≤ 1000000) (hb : -1000000 ≤ b ∧ b ≤ 1000000) : impl_Road_gap.f s r a b = some (gapM s r a b) := by
  unfold impl_Road_gap.f gapM
  have e1 : wrap64 (a - b) = a - b := wrap64_id (by omega) (by omega)
  have e2 : wrap64 (b - a) = b - a := wrap64_id (by omega) (by omega)
  rw [e1, e2]
  have e : mx (a - b) (b - a) = if a - b < b - a then b - a else a - b := rfl
  rw [e]
  have e3 : wrap64 (s - (if a - b < b - a then b - a else a - b)) = s - (if a - b < b - a then b - a else a - b) := wrap64_id (by split <;> omega) (by split <;> omega)
  rw [e3]
  unfold mn
  cases r <;> simp
def lo2 (a b : Int) : Int := if a < b then a else b
theorem spec_l1Least_eq (a b : Int) : spec_l1Least.f a b = some (lo2 a b) := by unfold spec_l1Least.f lo2; split <;> rfl
def hi2 (a b : Int) : Int := if b < a then a else b
theorem spec_l1Most_eq (a b : Int) : spec_l1Most.f a b = some (hi2 a b) := by unfold spec_l1Most.f hi2; by_cases h : b < a <;> simp [h]
theorem spec_l2Gap_eq (s : Int) (r : Bool) (a b : Int) (hs : 0 ≤ s ∧ s ≤ 1000) (ha : -1000000 ≤ a ∧ a ≤ 1000000) (hb : -1000000 ≤ b ∧ b ≤ 1000000) : spec_l2Gap.f s r a b = some (gapM s r a b) := by
  unfold spec_l2Gap.f gapM
  rw [wrap64_id (x := a - b) (by omega) (by omega), wrap64_id (x := b - a) (by omega) (by omega), spec_l1Most_eq, Option.bind_some]
  have e : hi2 (a - b) (b - a) = if a - b < b - a then b - a else a - b := by unfold hi2; split <;> split <;> omega
  rw [e]
  have e3 : wrap64 (s - (if a - b < b - a then b - a else a - b)) = s - (if a - b < b - a then b - a else a - b) := wrap64_id (by split <;> omega) (by split <;> omega)
  rw [e3, spec_l1Least_eq]
  unfold lo2
  cases r <;> simp
  split <;> split <;> omega
def legM (s : Int) (r : Bool) (f0 f1 x : Int) : Int := if f1 - gapM s r f0 x < 0 then -1 else (if s - 1 < x + (f1 - gapM s r f0 x) then s - 1 else x + (f1 - gapM s r f0 x))
theorem carrierOk_bd {s a b c : Int} (h : carrierOk s a b c = true) : (0 ≤ a ∧ a ≤ s - 1) ∧ (0 ≤ b ∧ b ≤ 48) ∧ (0 ≤ c ∧ c ≤ 20) := by
  unfold carrierOk at h
  rw [Bool.and_eq_true, Bool.and_eq_true, inR_iff, inR_iff, inR_iff] at h
  exact ⟨h.1.1, h.1.2, h.2⟩
def movesOk (l : List Int) : Bool := inR (l.length : Int) 1 24 && allIn l (-1) 1
def walkerOk (s st f d : Int) (l : List Int) : Bool := inR st 0 (s - 1) && (decide (f = 1) || decide (f = -1)) && inR d 0 60 && movesOk l
/-- The least gap of p to a list of places, at most m. -/
def nearM (s : Int) (r : Bool) (p : Int) : List Int → Int → Int
  | [], m => m
  | q :: t, m => nearM s r p t (if gapM s r p q < m then gapM s r p q else m)
def farOth (s : Int) (r : Bool) (l : List Int) : Nat → Int → Int → Int → Int × Int
  | 0, _, f, o => (f, o)
  | d + 1, p, f, o => farOth s r l d (p + 1) (if f < nearM s r p l s then nearM s r p l s else f) (if nearM s r p l s > 0 then o + 1 else o)
def finM (n : Nat) (x : Int × Int) : Int := if x.1 < Int.tdiv (x.2 + n - 1) n then Int.tdiv (x.2 + n - 1) n else x.1
def boundM (s : Int) (r : Bool) (l : List Int) : Int := finM l.length (farOth s r l s.toNat 0 0 0)
theorem allIn_rd {l : List Int} {a b : Int} (h : allIn l a b = true) (i : Nat) (hi : i < l.length) : a ≤ rd l (i : Int) ∧ rd l (i : Int) ≤ b := by
  unfold allIn at h
  rw [List.all_eq_true] at h
  rw [rd_get l i hi]
  exact inR_iff.1 (h _ (List.getElem_mem hi))
/-- Each place of a round, from i on, is near to the next one. -/
def cycM (s : Int) (r : Bool) (l : List Int) (i d : Nat) : Bool := (List.range' i d).all (fun j => decide (gapM s r (rd l (j : Int)) (rd l (((j + 1) % l.length : Nat) : Int)) ≤ 1))
theorem cycM_succ (s : Int) (r : Bool) (l : List Int) (i d : Nat) : cycM s r l i (d + 1) = (decide (gapM s r (rd l (i : Int)) (rd l (((i + 1) % l.length : Nat) : Int)) ≤ 1) && cycM s r l (i + 1) d) := by
  unfold cycM
  rw [List.range'_succ, List.all_cons]
def roundOk (s : Int) (r : Bool) (l : List Int) : Bool := allIn l 0 (s - 1) && cycM s r l 0 l.length
def patrolOk (s : Int) (r : Bool) (ls : List (List Int)) : Bool := inR (ls.length : Int) 1 6 && inR ((ls.headD []).length : Int) 1 60 && ls.all (fun l => decide (l.length = (ls.headD []).length) && roundOk s r l)
theorem tmod_nat (a n : Nat) : Int.tmod (a : Int) (n : Int) = ((a % n : Nat) : Int) := by
  rw [Int.tmod_eq_emod_of_nonneg (by omega)]
  rfl
theorem rd_bd {l : List Int} {a b : Int} (h : allIn l a b = true) (i : Nat) (hi : i < l.length) : a ≤ rd l (i : Int) ∧ rd l (i : Int) ≤ b := allIn_rd h i hi
def tot : List (List Int) → Nat
  | [] => 0
  | x :: t => x.length + tot t
theorem tot_append (a b : List (List Int)) : tot (a ++ b) = tot a + tot b := by induction a with
  | nil => simp [tot]
  | cons x t ih => simp [tot, ih]; omega
def marksSS (a : Int) : List (List Int) → List (List Int)
  | [] => []
  | x :: t => marks a x.length :: marksSS (a + x.length) t
theorem marksSS_len (a : Int) (l : List (List Int)) : (marksSS a l).length = l.length := by
  induction l generalizing a with
  | nil => rfl
  | cons x t ih => simp [marksSS, ih]
theorem marksSS_append (a : Int) (l t : List (List Int)) : marksSS a (l ++ t) = marksSS a l ++ marksSS (a + tot l) t := by
  induction l generalizing a with
  | nil => simp [marksSS, tot]
  | cons x l ih =>
    simp only [List.cons_append, marksSS, tot, ih]
    rw [show a + (x.length : Int) + (tot l : Int) = a + ((x.length + tot l : Nat) : Int) by omega]
def ringM (s : Int) (k : Nat) (n : Nat) : List (List Int) := (List.range n).map (fun (i : Nat) => runL s (Int.tdiv (i * s) k) s.toNat)
theorem ringM_snoc (s : Int) (k n : Nat) : ringM s k (n + 1) = ringM s k n ++ [runL s (Int.tdiv (n * s) k) s.toNat] := by unfold ringM; rw [List.range_succ]; simp
theorem ringM_len (s : Int) (k n : Nat) : (ringM s k n).length = n := by simp [ringM]
theorem ringM_mem {s : Int} {k n : Nat} {x : List Int} (h : x ∈ ringM s k n) : x.length = s.toNat := by
  unfold ringM at h
  obtain ⟨i, _, rfl⟩ := List.mem_map.1 h
  exact runL_len _ _ _
theorem tdiv_bd (a : Int) (k : Nat) (h0 : 0 ≤ a) (h1 : a ≤ 1000) (hk : 0 < k) : 0 ≤ Int.tdiv a k ∧ Int.tdiv a k ≤ 1000 := by
  rw [Int.tdiv_eq_ediv_of_nonneg h0]
  exact ⟨Int.ediv_nonneg h0 (by omega), Int.le_trans (Int.ediv_le_self _ h0) h1⟩
theorem mul_bd {i : Nat} {s : Int} (hi : i ≤ 6) (hs : 2 ≤ s ∧ s ≤ 24) : 0 ≤ (i : Int) * s ∧ (i : Int) * s ≤ 144 := by
  have : (i : Int) * s ≤ 6 * 24 := Int.mul_le_mul (by omega) hs.2 (by omega) (by omega)
  exact ⟨Int.mul_nonneg (by omega) (by omega), by omega⟩
def dn (a : Int) : Nat → List Int
  | 0 => []
  | n + 1 => a :: dn (a - 1) n
theorem dn_len (a : Int) (n : Nat) : (dn a n).length = n := by
  induction n generalizing a with
  | zero => rfl
  | succ n ih => simp [dn, ih]
theorem dn_snoc (a : Int) (n : Nat) : dn a (n + 1) = dn a n ++ [a - n] := by
  induction n generalizing a with
  | zero => simp [dn]
  | succ n ih =>
    rw [dn, ih (a - 1)]
    simp [dn]
    omega
def sweepA (f : Int) (m : Nat) (w : Bool) : List Int := marks f m ++ (if w = true then [f + m - 1] else [])
def sweepM (f : Int) (m : Nat) (w : Bool) : List Int := sweepA f m w ++ dn (f + m - 2) (m - 2) ++ (if (w && decide (1 < m)) = true then [f] else [])
theorem sweepA_len (f : Int) (m : Nat) (w : Bool) : (sweepA f m w).length ≤ m + 1 := by unfold sweepA; cases w <;> simp [marks_len]
theorem sweepM_len (f : Int) (m : Nat) (w : Bool) : (sweepM f m w).length ≤ 2 * m + 2 := by
  unfold sweepM
  have := sweepA_len f m w
  rw [List.length_append, List.length_append, dn_len]
  split <;> simp <;> omega
def partMany (s g i : Nat) : Nat := if i < s % g then s / g + 1 else s / g
def partWait (s g i : Nat) : Bool := decide (0 < s % g) && decide (s % g ≤ i)
def partsL (s g : Nat) : Nat → Nat → Int → List (List Int)
  | 0, _, _ => []
  | d + 1, i, f => sweepM f (partMany s g i) (partWait s g i) :: partsL s g d (i + 1) (f + partMany s g i)
def partsM (s g : Nat) : List (List Int) := partsL s g g 0 0
theorem partMany_bd {s g i : Nat} (hs : 2 ≤ s ∧ s ≤ 24) (hg : 1 ≤ g ∧ g ≤ 6) (hgs : g ≤ s) : 1 ≤ partMany s g i ∧ partMany s g i ≤ 24 := by
  unfold partMany
  have h1 : 0 < s / g := Nat.div_pos hgs (by omega)
  have h2 : s / g ≤ s := Nat.div_le_self s g
  by_cases c : i < s % g
  · rw [if_pos c]
    have h3 : g ≠ 1 := by intro e; subst e; rw [Nat.mod_one] at c; omega
    have h4 : s / g ≤ s / 2 := Nat.div_le_div_left (by omega) (by omega)
    omega
  · rw [if_neg c]; omega
theorem partsL_len (s g d i : Nat) (f : Int) : (partsL s g d i f).length = d := by
  induction d generalizing i f with
  | zero => rfl
  | succ d ih => simp [partsL, ih]
theorem partsL_mem {s g : Nat} (hs : 2 ≤ s ∧ s ≤ 24) (hg : 1 ≤ g ∧ g ≤ 6) (hgs : g ≤ s) {d i : Nat} {f : Int} {x : List Int} (h : x ∈ partsL s g d i f) : x.length ≤ 50 := by
  induction d generalizing i f with
  | zero => simp [partsL] at h
  | succ d ih =>
    rw [partsL] at h
    rcases List.mem_cons.1 h with rfl | h
    · have := sweepM_len f (partMany s g i) (partWait s g i)
      have := partMany_bd (i := i) hs hg hgs
      omega
    · exact ih h
theorem tdiv_nat (a n : Nat) : Int.tdiv (a : Int) (n : Int) = ((a / n : Nat) : Int) := by
  rw [Int.tdiv_eq_ediv_of_nonneg (by omega)]
  rfl
theorem part_wait {s g i : Nat} (hs : 2 ≤ s ∧ s ≤ 24) (hg : 1 ≤ g ∧ g ≤ 6) : decide ((partMany s g i : Int) < (((s + g - 1) / g : Nat) : Int)) = partWait s g i := by
  unfold partMany partWait
  have hd : (s + g - 1) / g = if 0 < s % g then s / g + 1 else s / g := by
    obtain rfl | rfl | rfl | rfl | rfl | rfl : g = 1 ∨ g = 2 ∨ g = 3 ∨ g = 4 ∨ g = 5 ∨ g = 6 := by omega
    all_goals (split <;> omega)
  rw [hd]
  by_cases c : 0 < s % g
  · by_cases c2 : i < s % g
    · rw [if_pos c, if_pos c2, decide_eq_false (by omega), decide_eq_false (show ¬ s % g ≤ i by omega), Bool.and_false]
    · rw [if_pos c, if_neg c2, decide_eq_true (by omega), decide_eq_true c, decide_eq_true (show s % g ≤ i by omega), Bool.and_true]
  · have : ¬ i < s % g := by omega
    rw [if_neg c, if_neg this, decide_eq_false (by omega), decide_eq_false c, Bool.false_and]
theorem allIn_rdZ {l : List Int} {a b : Int} (h : allIn l a b = true) {i : Int} (h0 : 0 ≤ i) (h1 : i < (l.length : Int)) : a ≤ rd l i ∧ rd l i ≤ b := by
  obtain ⟨n, rfl⟩ := Int.eq_ofNat_of_zero_le h0
  have hn : n < l.length := by omega
  have e := rd_get l n hn
  unfold allIn at h
  have := List.all_eq_true.1 h _ (List.getElem_mem hn)
  rw [inR_iff] at this
  rw [e]
  exact this
def stepW (s : Int) (r : Bool) (p x : Int) : Int := if r = true then Int.tmod (p + x + s) s else if inR (p + x) 0 (s - 1) = true then p + x else p
theorem stepW_bd {s : Int} {r : Bool} {p x : Int} (hs : 2 ≤ s) (hp : 0 ≤ p ∧ p ≤ s - 1) (hx : -1 ≤ x ∧ x ≤ 1) : 0 ≤ stepW s r p x ∧ stepW s r p x ≤ s - 1 := by
  unfold stepW
  by_cases c : r = true
  · rw [if_pos c]
    have h1 := Int.tmod_nonneg s (show 0 ≤ p + x + s by omega)
    have h2 := Int.tmod_lt_of_pos (p + x + s) (show 0 < s by omega)
    omega
  · rw [if_neg c]
    by_cases d : inR (p + x) 0 (s - 1) = true
    · rw [if_pos d]
      exact inR_iff.1 d
    · rw [if_neg d]
      exact hp
theorem stepW_zero {s : Int} {r : Bool} {p : Int} (hs : 2 ≤ s) (hp : 0 ≤ p ∧ p ≤ s - 1) : stepW s r p 0 = p := by
  unfold stepW
  by_cases c : r = true
  · rw [if_pos c, Int.add_zero, Int.tmod_eq_emod_of_nonneg (by omega), Int.add_emod_right, Int.emod_eq_of_lt (by omega) (by omega)]
  · rw [if_neg c, Int.add_zero, if_pos (inR_iff.2 hp)]
/-- A walker's move at a time. -/
def mvW (f d : Int) (l : List Int) (t : Nat) : Int := if d ≤ (t : Int) then f * rd l (Int.tmod ((t : Int) - d) (l.length : Int)) else 0
/-- A walker's place at a time. -/
def atW (s : Int) (r : Bool) (st f d : Int) (l : List Int) : Nat → Int
  | 0 => st
  | t + 1 => stepW s r (atW s r st f d l t) (mvW f d l t)
def walkM (s : Int) (r : Bool) (st f d : Int) (l : List Int) (n : Nat) : List Int := (List.range (n + 1)).map (atW s r st f d l)
theorem walkM_len (s : Int) (r : Bool) (st f d : Int) (l : List Int) (n : Nat) : (walkM s r st f d l n).length = n + 1 := by simp [walkM]
theorem walkM_snoc (s : Int) (r : Bool) (st f d : Int) (l : List Int) (n : Nat) : walkM s r st f d l (n + 1) = walkM s r st f d l n ++ [atW s r st f d l (n + 1)] := by
  unfold walkM
  rw [List.range_succ (n := n + 1)]
  simp
theorem walkM_zero (s : Int) (r : Bool) (st f d : Int) (l : List Int) : walkM s r st f d l 0 = [st] := by simp [walkM, atW]
theorem walkM_rd (s : Int) (r : Bool) (st f d : Int) (l : List Int) (n i : Nat) (h : i ≤ n) : rd (walkM s r st f d l n) (i : Int) = atW s r st f d l i := by
  rw [rd_get _ _ (by rw [walkM_len]; omega)]
  simp [walkM]
/-- The facts of a walker that is valid. -/
theorem walkerOk_bd {s st f d : Int} {l : List Int} (h : walkerOk s st f d l = true) : (0 ≤ st ∧ st ≤ s - 1) ∧ (f = 1 ∨ f = -1) ∧ (0 ≤ d ∧ d ≤ 60) ∧ (1 ≤ (l.length : Int) ∧ (l.length : Int) ≤ 24) ∧ allIn l (-1) 1 = true := by
  unfold walkerOk movesOk at h
  simp only [Bool.and_eq_true, Bool.or_eq_true, decide_eq_true_eq, inR_iff] at h
  exact ⟨h.1.1.1, h.1.1.2, h.1.2, h.2.1, h.2.2⟩
theorem mvW_ix {d : Int} {l : List Int} {t : Nat} (hl : 1 ≤ (l.length : Int)) (c : d ≤ (t : Int)) : 0 ≤ Int.tmod ((t : Int) - d) (l.length : Int) ∧ Int.tmod ((t : Int) - d) (l.length : Int) < (l.length : Int) :=
  ⟨Int.tmod_nonneg _ (by omega), Int.tmod_lt_of_pos _ (by omega)⟩
theorem mvW_bd {f d : Int} {l : List Int} {t : Nat} (hf : f = 1 ∨ f = -1) (hl : 1 ≤ (l.length : Int)) (ha : allIn l (-1) 1 = true) : -1 ≤ mvW f d l t ∧ mvW f d l t ≤ 1 := by
  unfold mvW
  by_cases c : d ≤ (t : Int)
  · rw [if_pos c]
    have hi := mvW_ix hl c
    have := allIn_rdZ ha hi.1 hi.2
    rcases hf with rfl | rfl <;> omega
  · rw [if_neg c]; omega
theorem atW_bd {s : Int} {r : Bool} {st f d : Int} {l : List Int} (hs : 2 ≤ s) (h : walkerOk s st f d l = true) : ∀ t, 0 ≤ atW s r st f d l t ∧ atW s r st f d l t ≤ s - 1
  | 0 => (walkerOk_bd h).1
  | t + 1 => stepW_bd hs (atW_bd hs h t) (mvW_bd (walkerOk_bd h).2.1 (walkerOk_bd h).2.2.2.1.1 (walkerOk_bd h).2.2.2.2)
/-- The first time, from t on and d times long, at which all walks are at one place, or -1. -/
def meetF (ws : List (List Int)) : Nat → Nat → Int
  | 0, _ => -1
  | d + 1, t => if (ws.all fun w => rd w (t : Int) == rd (ws.headD []) (t : Int)) = true then (t : Int) else meetF ws d (t + 1)
theorem meetF_succ (ws : List (List Int)) (d t : Nat) : meetF ws (d + 1) t = if (ws.all fun w => rd w (t : Int) == rd (ws.headD []) (t : Int)) = true then (t : Int) else meetF ws d (t + 1) := rfl
theorem meetF_bd (ws : List (List Int)) : ∀ d t, meetF ws d t = -1 ∨ ((t : Int) ≤ meetF ws d t ∧ meetF ws d t < (t : Int) + d)
  | 0, t => .inl rfl
  | d + 1, t => by
    unfold meetF
    split
    · right; omega
    · rcases meetF_bd ws d (t + 1) with h | h
      · exact .inl h
      · right; omega
/-- From place i on, d places long: each is at most one away from the one ahead of it. -/
def chnM (s : Int) (r : Bool) (l : List Int) : Nat → Nat → Bool
  | _, 0 => true
  | i, d + 1 => decide (gapM s r (rd l ((i : Int) - 1)) (rd l (i : Int)) ≤ 1) && chnM s r l (i + 1) d
theorem chnM_succ (s : Int) (r : Bool) (l : List Int) (i d : Nat) : chnM s r l i (d + 1) = (decide (gapM s r (rd l ((i : Int) - 1)) (rd l (i : Int)) ≤ 1) && chnM s r l (i + 1) d) := rfl
def walkOkM (s : Int) (r : Bool) (l : List Int) : Bool := inR (l.length : Int) 1 61 && allIn l 0 (s - 1) && chnM s r l 1 (l.length - 1)
def leaversOk (s : Int) (r : Bool) (ls : List (List Int)) : Bool := inR (ls.length : Int) 1 4 && ls.all (walkOkM s r)
/-- The place of the first x in a list whose places begin with i, or -1. -/
def firstM (x : Int) : List Int → Nat → Int
  | [], _ => -1
  | y :: t, i => if y = x then (i : Int) else firstM x t (i + 1)
theorem firstM_bd (x : Int) : ∀ (l : List Int) (i : Nat), firstM x l i = -1 ∨ ((i : Int) ≤ firstM x l i ∧ firstM x l i < (i : Int) + l.length)
  | [], i => .inl rfl
  | y :: t, i => by
    simp only [firstM, List.length_cons]
    split
    · right; omega
    · rcases firstM_bd x t (i + 1) with h | h
      · exact .inl h
      · right; omega
/-- The better of the time held and a list's first. -/
def betM (x b : Int) (l : List Int) : Int := if 0 ≤ firstM x l 0 ∧ (b < 0 ∨ firstM x l 0 < b) then firstM x l 0 else b
def bestM (x : Int) (b : Int) (ls : List (List Int)) : Int := ls.foldl (betM x) b
/-- The place at a time; the last one where the list has ended. -/
def atM (l : List Int) (t : Int) : Int := rd l (if (l.length : Int) - 1 < t then (l.length : Int) - 1 else t)
def farM (s : Int) (r : Bool) (x t : Int) (m : Int) (ls : List (List Int)) : Int := ls.foldl (fun m l => if m < gapM s r (atM l t) x then gapM s r (atM l t) x else m) m
def leaveM (s : Int) (r : Bool) (ls : List (List Int)) (x : Int) : Int := if bestM x (-1) ls < 0 then -1 else bestM x (-1) ls + farM s r x (bestM x (-1) ls) 0 ls
theorem betM_bd (x b : Int) (l : List Int) (n : Int) (hl : (l.length : Int) ≤ n) (hb : -1 ≤ b ∧ b ≤ n) : -1 ≤ betM x b l ∧ betM x b l ≤ n := by
  unfold betM
  have := firstM_bd x l 0
  split <;> omega
theorem bestM_bd (x : Int) (n : Int) : ∀ (ls : List (List Int)) (b : Int), (∀ l ∈ ls, (l.length : Int) ≤ n) → -1 ≤ b ∧ b ≤ n → -1 ≤ bestM x b ls ∧ bestM x b ls ≤ n
  | [], b, _, hb => hb
  | l :: t, b, h, hb => bestM_bd x n t _ (fun y hy => h y (List.mem_cons_of_mem _ hy)) (betM_bd x b l n (h l (List.mem_cons_self ..)) hb)
theorem atM_bd {s : Int} {l : List Int} {t : Int} (hl : 1 ≤ l.length) (ha : allIn l 0 (s - 1) = true) (ht : 0 ≤ t) : 0 ≤ atM l t ∧ atM l t ≤ s - 1 := by
  unfold atM
  have : ∃ n : Nat, n < l.length ∧ (if (l.length : Int) - 1 < t then (l.length : Int) - 1 else t) = (n : Int) := by
    by_cases c : (l.length : Int) - 1 < t
    · exact ⟨l.length - 1, by omega, by rw [if_pos c]; omega⟩
    · exact ⟨t.toNat, by omega, by rw [if_neg c]; omega⟩
  obtain ⟨n, hn, e⟩ := this
  rw [e]
  exact rd_bd ha n hn
theorem farM_bd (s : Int) (r : Bool) (x t n : Int) : ∀ (ls : List (List Int)) (m : Int), (∀ l ∈ ls, gapM s r (atM l t) x ≤ n) → m ≤ n → m ≤ farM s r x t m ls ∧ farM s r x t m ls ≤ n
  | [], m, _, hm => ⟨Int.le_refl _, hm⟩
  | l :: q, m, h, hm => by
    have hl := h l (List.mem_cons_self ..)
    have := farM_bd s r x t n q (if m < gapM s r (atM l t) x then gapM s r (atM l t) x else m) (fun y hy => h y (List.mem_cons_of_mem _ hy)) (by split <;> omega)
    refine ⟨?_, this.2⟩
    refine Int.le_trans ?_ this.1
    split <;> omega
def leavesM (s : Int) (r : Bool) (ls : List (List Int)) (n : Nat) : List Int := (List.range n).map fun (i : Nat) => leaveM s r ls (i : Int)
theorem leavesM_snoc (s : Int) (r : Bool) (ls : List (List Int)) (n : Nat) : leavesM s r ls (n + 1) = leavesM s r ls n ++ [leaveM s r ls (n : Int)] := by unfold leavesM; rw [List.range_succ]; simp
theorem leavesM_len (s : Int) (r : Bool) (ls : List (List Int)) (n : Nat) : (leavesM s r ls n).length = n := by simp [leavesM]
def worstM (L : List Int) : Int × Bool := if (L.any fun x => decide (x < 0)) = true then (0, false) else (L.foldl mx 0, true)
/-- A place is visited at a time by one of some rounds; the times from t on, d of them, at which it is. -/
def visQM (ls : List (List Int)) (p : Int) (t : Nat) : Bool := ls.any (fun l => rd l (t : Int) == p)
def visM (ls : List (List Int)) (p : Int) : Nat → Nat → List Int
  | 0, _ => []
  | d + 1, t => if visQM ls p t = true then (t : Int) :: visM ls p d (t + 1) else visM ls p d (t + 1)
theorem visM_succ (ls : List (List Int)) (p : Int) (d t : Nat) : visM ls p (d + 1) t = if visQM ls p t = true then (t : Int) :: visM ls p d (t + 1) else visM ls p d (t + 1) := rfl
theorem visM_len (ls : List (List Int)) (p : Int) : ∀ d t, (visM ls p d t).length ≤ d
  | 0, _ => by simp [visM]
  | d + 1, t => by
    rw [visM_succ]
    have := visM_len ls p d (t + 1)
    split
    · rw [List.length_cons]; omega
    · omega
theorem patrolOk_bd {s : Int} {r : Bool} {ls : List (List Int)} (h : patrolOk s r ls = true) : (1 ≤ ls.length ∧ ls.length ≤ 6) ∧ (1 ≤ (ls.headD []).length ∧ (ls.headD []).length ≤ 60) ∧ ∀ l ∈ ls, l.length = (ls.headD []).length ∧ roundOk s r l = true := by
  unfold patrolOk at h
  rw [Bool.and_eq_true, Bool.and_eq_true, List.all_eq_true] at h
  have h1 := inR_iff.1 h.1.1
  have h2 := inR_iff.1 h.1.2
  refine ⟨⟨by omega, by omega⟩, ⟨by omega, by omega⟩, fun l hl => ?_⟩
  have := h.2 l hl
  rw [Bool.and_eq_true, decide_eq_true_eq] at this
  exact this
/-- The time between a visit and the next one; the greatest of them from the i-th on; the idle times of places. -/
def gapT (L : Nat) (T : List Int) (i : Nat) : Int := (if i + 1 < T.length then rd T ((i + 1 : Nat) : Int) else (L : Int) + rd T 0) - rd T (i : Int)
def idleF (L : Nat) (T : List Int) : Nat → Nat → Int → Int
  | 0, _, m => m
  | d + 1, i, m => idleF L T d (i + 1) (mx m (gapT L T i))
theorem idleF_succ (L : Nat) (T : List Int) (d i : Nat) (m : Int) : idleF L T (d + 1) i m = idleF L T d (i + 1) (mx m (gapT L T i)) := rfl
def idleM (ls : List (List Int)) (L : Nat) (p : Nat) : Int := idleF L (visM ls (p : Int) L 0) (visM ls (p : Int) L 0).length 0 (-1)
def idlesM (ls : List (List Int)) (L : Nat) : Nat → Nat → List Int
  | 0, _ => []
  | d + 1, p => idleM ls L p :: idlesM ls L d (p + 1)
theorem idlesM_len (ls : List (List Int)) (L : Nat) : ∀ d p, (idlesM ls L d p).length = d
  | 0, _ => rfl
  | d + 1, p => by simp [idlesM, idlesM_len ls L d (p + 1)]
theorem visM_bd (ls : List (List Int)) (p : Int) : ∀ d t, ∀ x ∈ visM ls p d t, (t : Int) ≤ x ∧ x < (t : Int) + d
  | 0, t => by simp [visM]
  | d + 1, t => by
    intro x hx
    rw [visM_succ] at hx
    have ih := visM_bd ls p d (t + 1)
    split at hx
    · rcases List.mem_cons.1 hx with rfl | hx
      · omega
      · have := ih x hx; omega
    · have := ih x hx; omega
theorem rdT_bd {L : Nat} {T : List Int} (hT : ∀ x ∈ T, 0 ≤ x ∧ x < (L : Int)) (i : Nat) (hi : i < T.length) : 0 ≤ rd T (i : Int) ∧ rd T (i : Int) < (L : Int) := by
  rw [rd_get T i hi]
  exact hT _ (List.getElem_mem hi)
theorem gapT_bd {L : Nat} {T : List Int} (hT : ∀ x ∈ T, 0 ≤ x ∧ x < (L : Int)) (i : Nat) (hi : i < T.length) : -(L : Int) ≤ gapT L T i ∧ gapT L T i ≤ 2 * (L : Int) := by
  have h1 := rdT_bd hT i hi
  have h2 := rdT_bd hT 0 (by omega)
  rw [Int.natCast_zero] at h2
  unfold gapT
  split
  · rename_i h
    have h3 := rdT_bd hT (i + 1) h
    omega
  · omega
theorem mx_bd (a b : Int) : a ≤ mx a b ∧ b ≤ mx a b ∧ (mx a b = a ∨ mx a b = b) := by unfold mx; split <;> omega
theorem idleF_bd {L : Nat} {T : List Int} (hT : ∀ x ∈ T, 0 ≤ x ∧ x < (L : Int)) : ∀ (d i : Nat) (m : Int), i + d = T.length → m ≤ 2 * (L : Int) → m ≤ idleF L T d i m ∧ idleF L T d i m ≤ 2 * (L : Int)
  | 0, i, m, _, hm => ⟨Int.le_refl _, hm⟩
  | d + 1, i, m, h, hm => by
    have h1 := gapT_bd hT i (by omega)
    have h2 := mx_bd m (gapT L T i)
    have := idleF_bd hT d (i + 1) (mx m (gapT L T i)) (by omega) (by omega)
    rw [idleF_succ]
    omega
theorem visM_T (ls : List (List Int)) (p : Int) (L : Nat) : ∀ x ∈ visM ls p L 0, 0 ≤ x ∧ x < (L : Int) := fun x hx => by have := visM_bd ls p L 0 x hx; omega
theorem idleM_bd (ls : List (List Int)) (L p : Nat) : -1 ≤ idleM ls L p ∧ idleM ls L p ≤ 2 * (L : Int) := by
  have := idleF_bd (visM_T ls (p : Int) L) (visM ls (p : Int) L 0).length 0 (-1) (by omega) (by omega)
  exact this
theorem hi2_mx5 (a b : Int) : (if b < a then a else b) = mx a b := by unfold mx; split <;> split <;> omega
/-- The greatest of some numbers, or -1 if one is less than 0. -/
def pauseM (T : List Int) : Int := if (T.any fun x => decide (x < 0)) = true then -1 else T.foldl mx 0
theorem foldl_mx_le (T : List Int) : ∀ m : Int, m ≤ T.foldl mx m := by
  induction T with
  | nil => intro m; simp
  | cons x t ih => intro m; have := ih (mx m x); have := mx_bd m x; rw [List.foldl_cons]; omega
theorem pauseM_pos {T : List Int} (h : (T.any fun x => decide (x < 0)) = false) : 0 ≤ pauseM T := by
  unfold pauseM
  rw [h, if_neg (by simp)]
  exact foldl_mx_le T 0
theorem idlesM_bd (ls : List (List Int)) (L : Nat) : ∀ d p, ∀ x ∈ idlesM ls L d p, -1 ≤ x ∧ x ≤ 2 * (L : Int)
  | 0, _ => by simp [idlesM]
  | d + 1, p => by
    intro x hx
    rcases List.mem_cons.1 hx with rfl | hx
    · exact idleM_bd ls L p
    · exact idlesM_bd ls L d (p + 1) x hx
theorem idlesM_neg (ls : List (List Int)) (L d p : Nat) : ((idlesM ls L d p).any fun y => decide (y = -1)) = ((idlesM ls L d p).any fun y => decide (y < 0)) := by
  rw [Bool.eq_iff_iff]
  simp only [List.any_eq_true, decide_eq_true_eq]
  constructor
  · rintro ⟨y, hy, rfl⟩; exact ⟨-1, hy, by omega⟩
  · rintro ⟨y, hy, h⟩; exact ⟨y, hy, by have := idlesM_bd ls L d p y hy; omega⟩
/-- The patrol of g guards; its pause. -/
def patM (s : Nat) (r : Bool) (g : Nat) : List (List Int) := if r = true then ringM (s : Int) g g else partsM s g
def pzM (s : Nat) (r : Bool) (g : Nat) : Int := pauseM (idlesM (patM s r g) ((patM s r g).headD []).length s 0)
def patChk (s : Nat) (r : Bool) (g : Nat) : Bool := decide (0 < (patM s r g).length) && decide ((patM s r g).length ≤ 6) && decide (((patM s r g).headD []).length ≤ 60) && (patM s r g).all (fun l => l.length == ((patM s r g).headD []).length) && (List.range s).all (fun p => (patM s r g).any fun l => l.any (fun x => x == (p : Int)))
theorem patChk_all : ((List.range' 2 23).all fun s => (List.range' 1 6).all fun g => [true, false].all fun r => !(r || decide (g ≤ s)) || patChk s r g) = true := by decide +kernel
theorem pzM_all : ((List.range' 2 5).all fun s => [true, false].all fun r => !(!r || decide (3 ≤ s)) || decide (pzM s r s ≤ 1)) = true := by decide +kernel
theorem patChk_of {s g : Nat} {r : Bool} (hs : 2 ≤ s ∧ s ≤ 24) (hg : 1 ≤ g ∧ g ≤ 6) (h : r = true ∨ g ≤ s) : patChk s r g = true := by
  have h1 := List.all_eq_true.1 patChk_all s (List.mem_range'_1.2 (by omega))
  have h2 := List.all_eq_true.1 h1 g (List.mem_range'_1.2 (by omega))
  have h3 := List.all_eq_true.1 h2 r (by cases r <;> simp)
  have e : (r || decide (g ≤ s)) = true := by rcases h with rfl | h <;> simp [*]
  rw [e] at h3
  simpa using h3
theorem pzM_of {s : Nat} {r : Bool} (hs : 2 ≤ s ∧ s ≤ 6) (h : r = true → 3 ≤ s) : pzM s r s ≤ 1 := by
  have h1 := List.all_eq_true.1 pzM_all s (List.mem_range'_1.2 (by omega))
  have h3 := List.all_eq_true.1 h1 r (by cases r <;> simp)
  have e : (!r || decide (3 ≤ s)) = true := by
    cases r with
    | true => simpa using h rfl
    | false => rfl
  rw [e] at h3
  simpa using h3
theorem visM_ne (ls : List (List Int)) (p : Int) : ∀ (d t i : Nat), t ≤ i → i < t + d → visQM ls p i = true → 0 < (visM ls p d t).length
  | 0, t, i, h1, h2, _ => by omega
  | d + 1, t, i, h1, h2, hq => by
    rw [visM_succ]
    by_cases c : visQM ls p t = true
    · rw [if_pos c]; simp
    · rw [if_neg c]
      by_cases e : i = t
      · subst e; exact absurd hq c
      · exact visM_ne ls p d (t + 1) i (by omega) (by omega) hq
theorem idleF_ge {L : Nat} {T : List Int} (hT : ∀ x ∈ T, 0 ≤ x ∧ x < (L : Int)) : ∀ (d i : Nat) (m : Int), i + d = T.length → 0 < d → 1 ≤ idleF L T d i m
  | 0, _, _, _, h => by omega
  | 1, i, m, h, _ => by
    have h1 := rdT_bd hT i (by omega)
    have h2 := rdT_bd hT 0 (by omega)
    rw [Int.natCast_zero] at h2
    have h3 := mx_bd m (gapT L T i)
    have hg : gapT L T i = (L : Int) + rd T 0 - rd T (i : Int) := by unfold gapT; rw [if_neg (by omega)]
    show 1 ≤ mx m (gapT L T i)
    omega
  | d + 2, i, m, h, _ => by
    rw [idleF_succ]
    exact idleF_ge hT (d + 1) (i + 1) _ (by omega) (by omega)
theorem idles_pos {ls : List (List Int)} {L s : Nat} (hw : ∀ l ∈ ls, l.length = L) (hv : (List.range s).all (fun p => ls.any fun l => l.any (fun x => x == (p : Int))) = true) : ∀ d p, p + d = s → ((idlesM ls L d p).any fun x => decide (x < 0)) = false
  | 0, _, _ => rfl
  | d + 1, p, h => by
    have h1 := List.all_eq_true.1 hv p (List.mem_range.2 (by omega))
    obtain ⟨l, hl, h2⟩ := List.any_eq_true.1 h1
    obtain ⟨x, hx, h3⟩ := List.any_eq_true.1 h2
    obtain ⟨i, hi, rfl⟩ := List.mem_iff_getElem.1 hx
    have hL := hw l hl
    have hq : visQM ls (p : Int) i = true := by
      unfold visQM
      exact List.any_eq_true.2 ⟨l, hl, by rw [rd_get l i hi]; exact h3⟩
    have hn := visM_ne ls (p : Int) L 0 i (by omega) (by omega) hq
    have h4 := idleF_ge (visM_T ls (p : Int) L) (visM ls (p : Int) L 0).length 0 (-1) (by omega) hn
    have h5 := idles_pos hw hv d (p + 1) (by omega)
    have e : idlesM ls L (d + 1) p = idleM ls L p :: idlesM ls L d (p + 1) := rfl
    rw [e, List.any_cons, h5]
    have h6 : 1 ≤ idleM ls L p := h4
    simp; omega
theorem patM_facts {s g : Nat} {r : Bool} (hs : 2 ≤ s ∧ s ≤ 24) (hg : 1 ≤ g ∧ g ≤ 6) (h : r = true ∨ g ≤ s) : (0 < (patM s r g).length ∧ (patM s r g).length ≤ 6) ∧ ((patM s r g).headD []).length ≤ 60 ∧ (∀ l ∈ patM s r g, l.length = ((patM s r g).headD []).length) ∧ ((idlesM (patM s r g) ((patM s r g).headD []).length s 0).any fun x => decide (x < 0)) = false := by
  have hc := patChk_of hs hg h
  unfold patChk at hc
  simp only [Bool.and_eq_true, decide_eq_true_eq] at hc
  obtain ⟨⟨⟨⟨h1, h2⟩, h3⟩, h4⟩, h5⟩ := hc
  have hw : ∀ l ∈ patM s r g, l.length = ((patM s r g).headD []).length := fun l hl => by have := List.all_eq_true.1 h4 l hl; simpa using this
  exact ⟨⟨h1, h2⟩, h3, hw, idles_pos hw h5 s 0 (by omega)⟩
/-- The least number of guards from g on, of d numbers. -/
def gnM (s : Nat) (r : Bool) (pause : Int) : Nat → Nat → Int × Bool
  | 0, _ => (0, false)
  | d + 1, g => if pzM s r g ≤ pause then ((g : Int), true) else gnM s r pause d (g + 1)
theorem gnM_succ (s : Nat) (r : Bool) (pause : Int) (d g : Nat) : gnM s r pause (d + 1) g = if pzM s r g ≤ pause then ((g : Int), true) else gnM s r pause d (g + 1) := rfl
theorem map_drop_step {α β : Type} (f : α → β) (l : List α) (i : Nat) (h : i < l.length) (acc : List β) : acc ++ (l.drop i).map f = (acc ++ [f l[i]]) ++ (l.drop (i + 1)).map f := by
  rw [List.drop_eq_getElem_cons h, List.map_cons, List.append_assoc]; rfl
theorem allIn_mem {l : List Int} {a b : Int} (h : allIn l a b = true) : ∀ x ∈ l, a ≤ x ∧ x ≤ b := fun x hx => inR_iff.1 (List.all_eq_true.1 h x hx)
theorem roundOk_in {s : Int} {r : Bool} {l : List Int} (h : roundOk s r l = true) : allIn l 0 (s - 1) = true := by
  unfold roundOk at h
  rw [Bool.and_eq_true] at h
  exact h.1
theorem patrolOk_mem {s : Int} {r : Bool} {ls : List (List Int)} (h : patrolOk s r ls = true) : ∀ l ∈ ls, (1 ≤ l.length ∧ l.length ≤ 60) ∧ ∀ x ∈ l, 0 ≤ x ∧ x ≤ s - 1 := by
  have hb := patrolOk_bd h
  intro l hl
  have := hb.2.2 l hl
  exact ⟨by omega, allIn_mem (roundOk_in this.2)⟩
/-- What a law with a table of rows as its result asks, where the result is known. -/
def mirL (s : Int) (l : List Int) : List Int := l.map fun x => s - 1 - x
theorem mirL_len (s : Int) (l : List Int) : (mirL s l).length = l.length := by simp [mirL]
theorem spec_l1Has_l0 (x : Int) (l : List Int) (hl : l.length ≤ 9223372036854775807) : ∀ (d i k : Nat), i + d = l.length → d < k → spec_l1Has.l0 k l x (i : Int) = some ((l.drop i).any fun y => decide (y = x))
  | 0, i, k, h, hk => by
    obtain ⟨k, rfl⟩ := succ_of (k := k) (by omega)
    simp only [spec_l1Has.l0]
    rw [if_neg (by omega), drop_end l i (by omega)]
    rfl
  | d + 1, i, k, h, hk => by
    obtain ⟨k, rfl⟩ := succ_of (k := k) (by omega)
    simp only [spec_l1Has.l0]
    rw [if_pos (by omega), if_pos (by omega), drop_rd l i (by omega), List.any_cons]
    by_cases c : rd l (i : Int) = x
    · rw [if_pos c, decide_eq_true c]
      rfl
    · rw [if_neg c, decide_eq_false c, Bool.false_or, wrap_succ (n := l.length) (by omega) hl]
      exact spec_l1Has_l0 x l hl d (i + 1) k (by omega) (by omega)
theorem spec_l1Has_eq (k : Nat) (x : Int) (l : List Int) (hl : l.length ≤ 9223372036854775807) (hk : l.length < k) : spec_l1Has.f k l x = some (l.any fun y => decide (y = x)) := by
  unfold spec_l1Has.f
  exact spec_l1Has_l0 x l hl l.length 0 k (by omega) hk
/-- From the i-th on, d numbers of a list: none stands before. -/
def distF (l : List Int) : Nat → Nat → Bool
  | 0, _ => true
  | d + 1, i => !((l.take i).any fun y => decide (y = rd l (i : Int))) && distF l d (i + 1)
theorem distF_succ (l : List Int) (d i : Nat) : distF l (d + 1) i = (!((l.take i).any fun y => decide (y = rd l (i : Int))) && distF l d (i + 1)) := rfl
/-- Where a carrier brings the parcel. -/
def stepM (s : Int) (r : Bool) (cs : List S61) (x i : Int) : Int := if legM s r (rd_T61 cs i).f0 (rd_T61 cs i).f1 x < x then x else legM s r (rd_T61 cs i).f0 (rd_T61 cs i).f1 x
theorem carriersOk_at {s : Int} {cs : List S61} (h : carriersOk s cs = true) (i : Int) (h0 : 0 ≤ i) (h1 : i < (cs.length : Int)) : carrierOk s (rd_T61 cs i).f0 (rd_T61 cs i).f1 (rd_T61 cs i).f2 = true := by
  obtain ⟨n, rfl⟩ : ∃ n : Nat, i = (n : Int) := ⟨i.toNat, by omega⟩
  rw [rdC_get cs n (by omega)]
  exact List.all_eq_true.1 h _ (List.getElem_mem (by omega))
theorem legM_bd {s : Int} {r : Bool} {f0 f1 x : Int} (hs : 2 ≤ s) (h0 : 0 ≤ f0 ∧ f0 ≤ s - 1) (h1 : 0 ≤ f1) (hx : 0 ≤ x ∧ x ≤ s - 1) : legM s r f0 f1 x = -1 ∨ (x ≤ legM s r f0 f1 x ∧ legM s r f0 f1 x ≤ s - 1) := by
  unfold legM
  split
  · exact .inl rfl
  · right
    split <;> omega
theorem stepM_bd {s : Int} {r : Bool} {cs : List S61} (hs : 2 ≤ s) (hc : carriersOk s cs = true) {x i : Int} (hx : 0 ≤ x ∧ x ≤ s - 1) (h0 : 0 ≤ i) (h1 : i < (cs.length : Int)) : x ≤ stepM s r cs x i ∧ stepM s r cs x i ≤ s - 1 := by
  have hb := carrierOk_bd (carriersOk_at hc i h0 h1)
  have := legM_bd (r := r) hs hb.1 hb.2.1.1 hx
  unfold stepM
  split <;> omega
theorem impl_isCarried1 (k : Nat) (s : Int) (r : Bool) (cs : List S61) (x : Int) (hl : cs.length ≤ 1048576) (hk : 1048600 < k) : impl_isCarried.f k s r cs [x] = some (road s r && !r && (carriersOk s cs && decide ((cs.length : Int) ≤ 6)) && inR x 0 (s - 1)) := by
  obtain ⟨k, rfl⟩ := succ_of (k := k) (by omega)
  unfold impl_isCarried.f
  rw [impl_isLine_eq, Option.bind_some]
  cases hr : road s r with
  | false => simp
  | true =>
    cases r with
    | true => simp
    | false =>
      rw [show (true && !false) = true from rfl, if_pos rfl, impl_Road_areCarriers_eq (k + 1) s false hr cs (by omega) (by omega), Option.bind_some]
      cases (carriersOk s cs && decide ((cs.length : Int) ≤ 6)) with
      | false => simp
      | true =>
        rw [if_pos rfl, impl_Road_has1 (k + 1) s false x hr (by omega), Option.bind_some]
        cases inR x 0 (s - 1) with
        | false => simp
        | true =>
          rw [if_pos rfl]
          have : slices_IsSorted_int_int.f (k + 1) [x] = some true := by
            unfold slices_IsSorted_int_int.f
            simp only [slices_IsSorted_int_int.l0]
            rw [show wrap64 ((([x] : List Int).length : Int) - 1) = 0 from by rw [wrap64_id (by simp) (by simp)]; simp, if_neg (by omega)]
          rw [this]
          rfl
def rotM (c : Nat) (l : List Int) : List Int := l.drop c ++ l.take c
theorem rotM_len (c : Nat) (l : List Int) : (rotM c l).length = l.length := by unfold rotM; simp; omega
theorem rotM_at (c : Nat) (l : List Int) (hc : c < l.length) (t : Nat) (ht : t < l.length) : (rotM c l)[t]? = some (rd l (((t + c) % l.length : Nat) : Int)) := by
  unfold rotM
  have hr : ∀ a : Nat, a < l.length → l[a]? = some (rd l (a : Int)) := fun a ha => by rw [rd_get l a ha, List.getElem?_eq_getElem ha]
  by_cases h : t < l.length - c
  · rw [List.getElem?_append_left (by rw [List.length_drop]; omega), List.getElem?_drop, Nat.mod_eq_of_lt (by omega), Nat.add_comm c t]
    exact hr _ (by omega)
  · rw [List.getElem?_append_right (by rw [List.length_drop]; omega), List.length_drop, List.getElem?_take, if_pos (by omega)]
    have e : (t + c) % l.length = t - (l.length - c) := by rw [Nat.mod_eq_sub_mod (by omega), Nat.mod_eq_of_lt (by omega)]; omega
    rw [e]
    exact hr _ (by omega)
theorem walkerOk_at {s st f d : Int} {l : List Int} (h : walkerOk s st f d l = true) (p : Nat) (hp : (p : Int) < s) : walkerOk s (p : Int) f d l = true := by
  unfold walkerOk at h ⊢
  simp only [Bool.and_eq_true] at h ⊢
  exact ⟨⟨⟨inR_iff.2 ⟨by omega, by omega⟩, h.1.1.2⟩, h.1.2⟩, h.2⟩
theorem rangeMap_snoc {α : Type} (g : Nat → α) (n : Nat) : (List.range (n + 1)).map g = (List.range n).map g ++ [g n] := by rw [List.range_succ]; simp
/-- The walks from the first n places. -/
def rowsW (S : Nat) (r : Bool) (f d : Int) (l : List Int) (n : Nat) : List (List Int) := (List.range n).map fun (p : Nat) => walkM (S : Int) r (p : Int) f d l 60
theorem rowsW_len (S : Nat) (r : Bool) (f d : Int) (l : List Int) (n : Nat) : (rowsW S r f d l n).length = n := by simp [rowsW]
theorem rowsW_snoc (S : Nat) (r : Bool) (f d : Int) (l : List Int) (n : Nat) : rowsW S r f d l n ++ [walkM (S : Int) r (n : Int) f d l 60] = rowsW S r f d l (n + 1) := (rangeMap_snoc _ n).symm
/-- One row of the table: the times at which the walk w meets the walks ws. -/
def rowT (w : List Int) (ws : List (List Int)) (n : Nat) : List Int := (ws.take n).map fun v => meetF [w, v] 61 0
theorem rowT_snoc (w : List Int) (ws : List (List Int)) (n : Nat) (h : n < ws.length) : rowT w ws n ++ [meetF [w, ws[n]] 61 0] = rowT w ws (n + 1) := by
  unfold rowT
  rw [List.take_succ_eq_append_getElem h, List.map_append]
  rfl
theorem rowT_len (w : List Int) (ws : List (List Int)) (n : Nat) (h : n ≤ ws.length) : (rowT w ws n).length = n := by unfold rowT; simp; omega
def tabT (us ws : List (List Int)) (n : Nat) : List (List Int) := (us.take n).map fun w => rowT w ws ws.length
theorem tabT_snoc (us ws : List (List Int)) (n : Nat) (h : n < us.length) : tabT us ws n ++ [rowT us[n] ws ws.length] = tabT us ws (n + 1) := by
  unfold tabT
  rw [List.take_succ_eq_append_getElem h, List.map_append]
  rfl
theorem tabT_len (us ws : List (List Int)) (n : Nat) (h : n ≤ us.length) : (tabT us ws n).length = n := by unfold tabT; simp; omega
theorem tabT_rows (us ws : List (List Int)) (n : Nat) : ∀ x ∈ tabT us ws n, x.length = ws.length := by
  intro x hx
  obtain ⟨w, _, rfl⟩ := List.mem_map.1 hx
  exact rowT_len _ _ _ (Nat.le_refl _)
theorem tabT_vals (us ws : List (List Int)) (n : Nat) : ∀ x ∈ tabT us ws n, ∀ y ∈ x, y = -1 ∨ 0 ≤ y := by
  intro x hx y hy
  obtain ⟨w, _, rfl⟩ := List.mem_map.1 hx
  obtain ⟨v, _, rfl⟩ := List.mem_map.1 hy
  rcases meetF_bd [w, v] 61 0 with h | h
  · exact .inl h
  · exact .inr (by omega)
theorem rowsW_61 (S : Nat) (r : Bool) (f d : Int) (l : List Int) (n : Nat) : ∀ x ∈ rowsW S r f d l n, x.length = 61 := by
  intro x hx
  obtain ⟨p, _, rfl⟩ := List.mem_map.1 hx
  rw [walkM_len]
def labelOk (l : List Int) : Bool := inR (l.length : Int) 1 6 && allIn l 0 1
def toldM (S : Nat) (l : List Int) : List Int := l.flatMap fun x => List.replicate S x
theorem toldM_len (S : Nat) : ∀ l : List Int, (toldM S l).length = S * l.length
  | [] => by simp [toldM]
  | x :: l => by
    show (List.replicate S x ++ toldM S l).length = _
    rw [List.length_append, toldM_len S l, List.length_replicate, List.length_cons, Nat.mul_succ, Nat.add_comm]
theorem toldM_ok (S : Nat) (l : List Int) (hS : 2 ≤ S ∧ S ≤ 24) (hl : labelOk l = true) (h : S * l.length ≤ 24) : walkerOk (S : Int) 0 1 0 (toldM S l) = true := by
  unfold labelOk at hl
  rw [Bool.and_eq_true, inR_iff] at hl
  have h1 : 2 * 1 ≤ S * l.length := Nat.mul_le_mul (by omega) (by omega)
  have hn := toldM_len S l
  have ha : allIn (toldM S l) (-1) 1 = true := by
    have h2 := hl.2
    unfold allIn at h2 ⊢
    rw [List.all_eq_true] at h2 ⊢
    intro y hy
    obtain ⟨x, hx, hy⟩ := List.mem_flatMap.1 hy
    obtain rfl := (List.mem_replicate.1 hy).2
    have := inR_iff.1 (h2 y hx)
    exact inR_iff.2 ⟨by omega, by omega⟩
  unfold walkerOk movesOk
  rw [inR_iff.2 (show (0 : Int) ≤ 0 ∧ (0 : Int) ≤ (S : Int) - 1 by omega), inR_iff.2 (show (0 : Int) ≤ 0 ∧ (0 : Int) ≤ 60 by omega), ha, inR_iff.2 (show (1 : Int) ≤ ((toldM S l).length : Int) ∧ ((toldM S l).length : Int) ≤ 24 by omega)]
  simp
/-- The orders that follow the order o, from carrier j on, d carriers long. -/
def nextO (o : List Int) : Nat → Nat → List (List Int)
  | 0, _ => []
  | d + 1, j => (if (o.any fun y => decide (y = (j : Int))) = true then [] else [o ++ [(j : Int)]]) ++ nextO o d (j + 1)
theorem nextO_succ (o : List Int) (d j : Nat) : nextO o (d + 1) j = (if (o.any fun y => decide (y = (j : Int))) = true then [] else [o ++ [(j : Int)]]) ++ nextO o d (j + 1) := rfl
theorem mem_nextO (o p : List Int) : ∀ d j, p ∈ nextO o d j ↔ ∃ i : Nat, j ≤ i ∧ i < j + d ∧ ¬ (i : Int) ∈ o ∧ p = o ++ [(i : Int)]
  | 0, j => by
    constructor
    · intro h; cases h
    · rintro ⟨i, h, h', _⟩; omega
  | d + 1, j => by
    rw [nextO_succ, List.mem_append, mem_nextO o p d (j + 1)]
    by_cases c : (o.any fun y => decide (y = (j : Int))) = true
    · rw [if_pos c]
      have cm : (j : Int) ∈ o := by
        obtain ⟨y, hy, e⟩ := List.any_eq_true.1 c
        rw [← of_decide_eq_true e]; exact hy
      constructor
      · rintro (h | ⟨i, h1, h2, h3⟩)
        · cases h
        · exact ⟨i, by omega, by omega, h3⟩
      · rintro ⟨i, h1, h2, h3, h4⟩
        right
        refine ⟨i, ?_, by omega, h3, h4⟩
        rcases Nat.lt_or_ge j i with h | h
        · exact h
        · exact absurd (show (i : Int) ∈ o by rw [show i = j by omega]; exact cm) h3
    · rw [if_neg c]
      have cm : ¬ (j : Int) ∈ o := fun hm => c (List.any_eq_true.2 ⟨_, hm, decide_eq_true rfl⟩)
      constructor
      · rintro (h | ⟨i, h1, h2, h3⟩)
        · exact ⟨j, by omega, by omega, cm, by simpa using h⟩
        · exact ⟨i, by omega, by omega, h3⟩
      · rintro ⟨i, h1, h2, h3, h4⟩
        rcases Nat.lt_or_ge j i with h | h
        · exact .inr ⟨i, h, by omega, h3, h4⟩
        · left; rw [h4, show i = j by omega]; simp
theorem nextO_len (o : List Int) : ∀ d j, (nextO o d j).length ≤ d
  | 0, j => by simp [nextO]
  | d + 1, j => by
    have := nextO_len o d (j + 1)
    rw [nextO_succ, List.length_append]
    split <;> simp <;> omega
/-- The orders of m carriers of n. -/
def levO (n : Nat) : Nat → List (List Int)
  | 0 => [[]]
  | m + 1 => (levO n m).flatMap fun o => nextO o n 0
theorem levO_succ (n m : Nat) : levO n (m + 1) = (levO n m).flatMap fun o => nextO o n 0 := rfl
theorem levO_end : ∀ n : Fin 7, levO n (n + 1) = [] := by decide +kernel
theorem levO_size : ∀ n : Fin 7, ∀ m : Fin 7, (levO n m).length ≤ 720 := by decide +kernel
theorem levO_mem {n m : Nat} {p : List Int} (h : p ∈ levO n (m + 1)) : ∃ o ∈ levO n m, ∃ i : Nat, i < n ∧ ¬ (i : Int) ∈ o ∧ p = o ++ [(i : Int)] := by
  rw [levO_succ, List.mem_flatMap] at h
  obtain ⟨o, ho, h⟩ := h
  obtain ⟨i, _, h2, h3, h4⟩ := (mem_nextO o p n 0).1 h
  exact ⟨o, ho, i, by omega, h3, h4⟩
theorem levO_of {n m : Nat} {o : List Int} (ho : o ∈ levO n m) (i : Nat) (hi : i < n) (hn : ¬ (i : Int) ∈ o) : o ++ [(i : Int)] ∈ levO n (m + 1) := by
  rw [levO_succ, List.mem_flatMap]
  exact ⟨o, ho, (mem_nextO o _ n 0).2 ⟨i, by omega, by omega, hn, rfl⟩⟩
theorem levO_len {n : Nat} : ∀ {m : Nat} {o : List Int}, o ∈ levO n m → o.length = m ∧ ∀ x ∈ o, 0 ≤ x ∧ x < (n : Int)
  | 0, o, h => by
    have : o = [] := by simpa [levO] using h
    subst this
    simp
  | m + 1, p, h => by
    obtain ⟨o, ho, i, hi, _, rfl⟩ := levO_mem h
    have := levO_len ho
    refine ⟨by simp [this.1], fun x hx => ?_⟩
    rcases List.mem_append.1 hx with hx | hx
    · exact this.2 x hx
    · have : x = (i : Int) := by simpa using hx
      omega
def bestO (g : Int → Int → Int) (a : Int) (n : Nat) : Nat → Nat → Int → Int
  | 0, _, b => b
  | q + 1, m, b => bestO g a n q (m + 1) ((levO n m).foldl (fun z o => mx z (o.foldl g a)) b)
theorem bestO_nil (g : Int → Int → Int) (a : Int) (n : Nat) : ∀ q m b, levO n m = [] → bestO g a n q m b = b
  | 0, _, _, _ => rfl
  | q + 1, m, b, h => by
    show bestO g a n q (m + 1) ((levO n m).foldl _ b) = b
    rw [h]
    exact bestO_nil g a n q (m + 1) b (by rw [levO_succ, h]; rfl)
theorem fold_mx_ge (f : List Int → Int) : ∀ (l : List (List Int)) (b : Int), b ≤ l.foldl (fun z o => mx z (f o)) b ∧ ∀ o ∈ l, f o ≤ l.foldl (fun z o => mx z (f o)) b
  | [], b => ⟨Int.le_refl _, fun o h => by cases h⟩
  | x :: l, b => by
    have h := fold_mx_ge f l (mx b (f x))
    have h1 : b ≤ mx b (f x) := by unfold mx; split <;> omega
    have h2 : f x ≤ mx b (f x) := by unfold mx; split <;> omega
    rw [List.foldl_cons]
    refine ⟨by omega, fun o ho => ?_⟩
    rcases List.mem_cons.1 ho with rfl | ho
    · omega
    · exact h.2 o ho
theorem fold_mx_le (f : List Int → Int) (U : Int) : ∀ (l : List (List Int)) (b : Int), b ≤ U → (∀ o ∈ l, f o ≤ U) → l.foldl (fun z o => mx z (f o)) b ≤ U
  | [], b, h, _ => h
  | x :: l, b, h, hx => by
    rw [List.foldl_cons]
    have := hx x (List.mem_cons_self ..)
    exact fold_mx_le f U l _ (by unfold mx; split <;> omega) (fun o ho => hx o (List.mem_cons_of_mem _ ho))
theorem bestO_le (g : Int → Int → Int) (a : Int) (n : Nat) (U : Int) (h : ∀ m, ∀ o ∈ levO n m, o.foldl g a ≤ U) : ∀ q m b, b ≤ U → bestO g a n q m b ≤ U
  | 0, _, _, hb => hb
  | q + 1, m, b, hb => bestO_le g a n U h q (m + 1) _ (fold_mx_le _ U _ _ hb (h m))
theorem bestO_ge0 (g : Int → Int → Int) (a : Int) (n : Nat) : ∀ q m b, b ≤ bestO g a n q m b
  | 0, _, _ => Int.le_refl _
  | q + 1, m, b => Int.le_trans (fold_mx_ge _ _ _).1 (bestO_ge0 g a n q (m + 1) _)
theorem bestO_ge (g : Int → Int → Int) (a : Int) (n : Nat) (o : List Int) : ∀ q m b m', m ≤ m' → m' < m + q → o ∈ levO n m' → o.foldl g a ≤ bestO g a n q m b
  | 0, m, b, m', h, h', _ => by omega
  | q + 1, m, b, m', h, h', ho => by
    rcases Nat.lt_or_ge m m' with c | c
    · exact bestO_ge g a n o q (m + 1) _ m' c (by omega) ho
    · obtain rfl : m' = m := by omega
      exact Int.le_trans ((fold_mx_ge _ _ _).2 o ho) (bestO_ge0 g a n q (m' + 1) _)
/-- One number of the table over sets. -/
def dpI (g : Int → Int → Int) (D : Nat → Int) (c : Nat) : Nat → Nat → Int → Int
  | 0, _, b => b
  | d + 1, i, b => dpI g D c d (i + 1) (if c.testBit i = true then mx b (g (D (c - 2 ^ i)) (i : Int)) else b)
theorem dpI_succ (g : Int → Int → Int) (D : Nat → Int) (c d i : Nat) (b : Int) : dpI g D c (d + 1) i b = dpI g D c d (i + 1) (if c.testBit i = true then mx b (g (D (c - 2 ^ i)) (i : Int)) else b) := rfl
theorem dpI_ge (g : Int → Int → Int) (D : Nat → Int) (c : Nat) : ∀ d i b, b ≤ dpI g D c d i b
  | 0, _, _ => Int.le_refl _
  | d + 1, i, b => by
    rw [dpI_succ]
    refine Int.le_trans ?_ (dpI_ge g D c d (i + 1) _)
    split
    · unfold mx; split <;> omega
    · omega
theorem dpI_bit (g : Int → Int → Int) (D : Nat → Int) (c j : Nat) (hj : c.testBit j = true) : ∀ d i b, i ≤ j → j < i + d → g (D (c - 2 ^ j)) (j : Int) ≤ dpI g D c d i b
  | 0, i, b, h, h' => by omega
  | d + 1, i, b, h, h' => by
    rw [dpI_succ]
    rcases Nat.lt_or_ge i j with e | e
    · exact dpI_bit g D c j hj d (i + 1) _ e (by omega)
    · obtain rfl : i = j := by omega
      refine Int.le_trans ?_ (dpI_ge g D c d (i + 1) _)
      rw [if_pos hj]
      unfold mx; split <;> omega
theorem dpI_or (g : Int → Int → Int) (D : Nat → Int) (c : Nat) : ∀ d i b, dpI g D c d i b = b ∨ ∃ j, i ≤ j ∧ j < i + d ∧ c.testBit j = true ∧ dpI g D c d i b = g (D (c - 2 ^ j)) (j : Int)
  | 0, _, _ => .inl rfl
  | d + 1, i, b => by
    rw [dpI_succ]
    rcases dpI_or g D c d (i + 1) (if c.testBit i = true then mx b (g (D (c - 2 ^ i)) (i : Int)) else b) with h | ⟨j, h1, h2, h3, h4⟩
    · rw [h]
      by_cases t : c.testBit i = true
      · rw [if_pos t]
        unfold mx
        split
        · exact .inr ⟨i, by omega, by omega, t, rfl⟩
        · exact .inl rfl
      · rw [if_neg t]
        exact .inl rfl
    · exact .inr ⟨j, by omega, by omega, h3, h4⟩
theorem bit1 : ∀ c : Fin 64, ∀ i : Fin 6, c.val.testBit i.val = true → c.val - 2 ^ i.val < c.val ∧ (c.val - 2 ^ i.val).testBit i.val = false ∧ ∀ j : Fin 6, (c.val - 2 ^ i.val).testBit j.val = true → c.val.testBit j.val = true := by decide +kernel
theorem bit2 : ∀ n : Fin 7, ∀ c : Fin 64, ∀ i : Fin 6, c.val < 2 ^ n.val → i.val < n.val → c.val.testBit i.val = false → c.val + 2 ^ i.val < 2 ^ n.val ∧ (c.val + 2 ^ i.val).testBit i.val = true ∧ ∀ j : Fin 6, (c.val + 2 ^ i.val).testBit j.val = true → j = i ∨ c.val.testBit j.val = true := by decide +kernel
theorem bit3 : ∀ n : Fin 7, ∀ c : Fin 64, c.val < 2 ^ n.val → c.val = 2 ^ n.val - 1 ∨ ∃ i : Fin 6, i.val < n.val ∧ c.val.testBit i.val = false := by decide +kernel
theorem pow_le64 (n : Nat) (hn : n ≤ 6) : 2 ^ n ≤ 64 ∧ 1 ≤ 2 ^ n := ⟨Nat.pow_le_pow_right (by omega) hn, Nat.one_le_two_pow⟩
/-- The best over all orders is the table's last number. -/
theorem bestO_eq (g : Int → Int → Int) (a : Int) (n : Nat) (hn : n ≤ 6) (D : Nat → Int) (hD : ∀ c, c < 2 ^ n → D c = dpI g D c n 0 a) (hg : ∀ x i, x ≤ g x i) (ha : 0 ≤ a) (hm : ∀ x y : Int, ∀ i, 0 ≤ x → x ≤ y → g x i ≤ g y i) : bestO g a n (n + 1) 0 a = D (2 ^ n - 1) := by
  have fge : ∀ (o : List Int) (x : Int), x ≤ o.foldl g x := by
    intro o
    induction o with
    | nil => intro x; exact Int.le_refl _
    | cons i o ih => intro x; exact Int.le_trans (hg x i) (ih _)
  have hp := pow_le64 n hn
  have up : ∀ c, c < 2 ^ n → ∀ i, i < n → c.testBit i = false → g (D c) (i : Int) ≤ D (c + 2 ^ i) := by
    intro c hc i hi ht
    have h := bit2 ⟨n, by omega⟩ ⟨c, by omega⟩ ⟨i, by omega⟩ hc hi ht
    simp only at h
    rw [hD (c + 2 ^ i) h.1]
    have := dpI_bit g D (c + 2 ^ i) i h.2.1 n 0 a (by omega) (by omega)
    rwa [Nat.add_sub_cancel] at this
  have full : ∀ q c, c + q = 2 ^ n → 0 < q → D c ≤ D (2 ^ n - 1) := by
    intro q
    induction q using Nat.strongRecOn with
    | _ q ih =>
      intro c hc hq
      rcases bit3 ⟨n, by omega⟩ ⟨c, by omega⟩ (by show c < 2 ^ n; omega) with h | ⟨i, hi, ht⟩
      · simp only at h
        rw [h]
        exact Int.le_refl _
      · have h := bit2 ⟨n, by omega⟩ ⟨c, by omega⟩ i (by show c < 2 ^ n; omega) hi ht
        simp only at h hi ht
        have h1 := up c (by omega) i.val hi ht
        have h2 := hg (D c) (i.val : Int)
        have hpos : 0 < 2 ^ i.val := Nat.two_pow_pos _
        have h3 := ih (q - 2 ^ i.val) (by omega) (c + 2 ^ i.val) (by omega) (by omega)
        omega
  have upper : ∀ m, ∀ o ∈ levO n m, ∃ c, c < 2 ^ n ∧ (∀ j, j < n → c.testBit j = true → (j : Int) ∈ o) ∧ o.foldl g a ≤ D c := by
    intro m
    induction m with
    | zero =>
      intro o ho
      have : o = [] := by simpa [levO] using ho
      subst this
      refine ⟨0, by omega, fun j _ hj => by simp at hj, ?_⟩
      rw [hD 0 (by omega)]
      exact dpI_ge g D 0 n 0 a
    | succ m ih =>
      intro p hp'
      obtain ⟨o, ho, i, hi, hni, rfl⟩ := levO_mem hp'
      obtain ⟨c, hc, hb, hf⟩ := ih o ho
      have ht : c.testBit i = false := by
        cases h : c.testBit i with
        | false => rfl
        | true => exact absurd (hb i hi h) hni
      have h := bit2 ⟨n, by omega⟩ ⟨c, by omega⟩ ⟨i, by omega⟩ hc hi ht
      simp only at h
      refine ⟨c + 2 ^ i, h.1, fun j hj hjb => ?_, ?_⟩
      · rcases h.2.2 ⟨j, by omega⟩ hjb with e | e
        · have : j = i := congrArg Fin.val e
          rw [this]; simp
        · exact List.mem_append_left _ (hb j hj e)
      · rw [List.foldl_append]
        exact Int.le_trans (hm _ _ _ (Int.le_trans ha (fge o a)) hf) (up c hc i hi ht)
  have lower : ∀ c, c < 2 ^ n → ∃ m, m ≤ n ∧ ∃ o ∈ levO n m, (∀ j, j < n → (j : Int) ∈ o → c.testBit j = true) ∧ D c ≤ o.foldl g a := by
    intro c
    induction c using Nat.strongRecOn with
    | _ c ih =>
      intro hc
      rcases dpI_or g D c n 0 a with h | ⟨i, _, hi, ht, h⟩
      · refine ⟨0, by omega, [], by simp [levO], fun j _ hj => (by cases hj), ?_⟩
        rw [hD c hc, h]
        exact Int.le_refl _
      · have hi : i < n := by omega
        have hb := bit1 ⟨c, by omega⟩ ⟨i, by omega⟩ ht
        simp only at hb
        obtain ⟨m, hmn, o, ho, hob, hof⟩ := ih (c - 2 ^ i) hb.1 (by omega)
        have hni : ¬ (i : Int) ∈ o := fun hin => by
          have := hob i hi hin
          rw [hb.2.1] at this
          cases this
        have hnew := levO_of ho i hi hni
        refine ⟨m + 1, ?_, o ++ [(i : Int)], hnew, fun j hj hjm => ?_, ?_⟩
        · rcases Nat.lt_or_ge m n with e | e
          · exact e
          · obtain rfl : m = n := by omega
            have := levO_end ⟨m, by omega⟩
            simp only at this
            rw [this] at hnew
            cases hnew
        · rcases List.mem_append.1 hjm with e | e
          · exact hb.2.2 ⟨j, by omega⟩ (hob j hj e)
          · have e' : (j : Int) = (i : Int) := by simpa using e
            rw [show j = i by omega]
            exact ht
        · rw [hD c hc, h, List.foldl_append]
          have h0 := dpI_ge g D (c - 2 ^ i) n 0 a
          rw [← hD (c - 2 ^ i) (by omega)] at h0
          exact hm _ _ _ (Int.le_trans ha h0) hof
  apply Int.le_antisymm
  · refine bestO_le g a n _ (fun m o ho => ?_) (n + 1) 0 a ?_
    · obtain ⟨c, hc, _, hf⟩ := upper m o ho
      exact Int.le_trans hf (full (2 ^ n - c) c (by omega) (by omega))
    · rw [hD _ (by omega)]
      exact dpI_ge ..
  · obtain ⟨m, hmn, o, ho, _, hof⟩ := lower (2 ^ n - 1) (by omega)
    exact Int.le_trans hof (bestO_ge g a n o (n + 1) 0 a m (by omega) (by omega) ho)
/-! ### tours: the least over splits of the places in order is the least over all ways to the right -/
theorem le_foldMin {β : Type} (f : β → Int) (x : Int) : ∀ (l : List β) (b : Int), x ≤ l.foldl (fun b i => min b (f i)) b ↔ x ≤ b ∧ ∀ i ∈ l, x ≤ f i
  | [], b => by simp
  | a :: l, b => by
    rw [List.foldl_cons, le_foldMin f x l, List.forall_mem_cons, Int.le_min, and_assoc]
theorem foldMax_le {β : Type} (f : β → Int) (x : Int) : ∀ (l : List β) (b : Int), l.foldl (fun b i => max b (f i)) b ≤ x ↔ b ≤ x ∧ ∀ i ∈ l, f i ≤ x
  | [], b => by simp
  | a :: l, b => by
    rw [List.foldl_cons, foldMax_le f x l, List.forall_mem_cons, Int.max_le, and_assoc]
theorem foldMax_perm {β : Type} (f : β → Int) {l l' : List β} (h : ∀ i, i ∈ l ↔ i ∈ l') (b : Int) : l.foldl (fun b i => max b (f i)) b = l'.foldl (fun b i => max b (f i)) b := by
  apply Int.le_antisymm
  · rw [foldMax_le]
    have := (foldMax_le f _ l' b).1 (Int.le_refl _)
    exact ⟨this.1, fun i hi => this.2 i ((h i).1 hi)⟩
  · rw [foldMax_le]
    have := (foldMax_le f _ l b).1 (Int.le_refl _)
    exact ⟨this.1, fun i hi => this.2 i ((h i).2 hi)⟩
/-- How far one goes to the left where one goes so far to the right. -/
def leftAt (s : Int) (fs : List Int) (right : Int) : Int := fs.foldl (fun m f => max m (if right < f then s - f else 0)) 0
theorem leftAt_nn (s : Int) (fs : List Int) (right : Int) : 0 ≤ leftAt s fs right := ((foldMax_le _ _ fs 0).1 (Int.le_refl _)).1
theorem leftAt_ge {s : Int} {fs : List Int} {right f : Int} (hf : f ∈ fs) (h : right < f) : s - f ≤ leftAt s fs right := by
  have := ((foldMax_le (fun f => if right < f then s - f else 0) _ fs 0).1 (Int.le_refl _)).2 f hf
  rw [if_pos h] at this
  exact this
theorem leftAt_le {s : Int} {fs : List Int} {right x : Int} (h0 : 0 ≤ x) (h : ∀ f ∈ fs, right < f → s - f ≤ x) : leftAt s fs right ≤ x := by
  unfold leftAt
  rw [foldMax_le]
  refine ⟨h0, fun f hf => ?_⟩
  by_cases c : right < f
  · rw [if_pos c]; exact h f hf c
  · rw [if_neg c]; exact h0
/-- The least over all ways to the right. -/
def bestTo (s : Int) (c : Int → Int → Int) (fs : List Int) : Int := (List.range s.toNat).foldl (fun (b : Int) (i : Nat) => min b (c (leftAt s fs (i : Int)) (i : Int))) s
def upK (us : List Int) (k : Nat) : Int := if 0 < k then rd us ((k : Int) - 1) else 0
def downK (s : Int) (us : List Int) (k : Nat) : Int := if k < us.length then s - rd us (k : Int) else 0
/-- The least over all splits of the places in order. -/
def bestSp (s : Int) (c : Int → Int → Int) (us : List Int) (b0 : Int) : Int := (List.range (us.length + 1)).foldl (fun (b : Int) (k : Nat) => min b (c (downK s us k) (upK us k))) b0
theorem rd_nat (l : List Int) (i : Nat) (h : i < l.length) : rd l (i : Int) = l[i] := by
  unfold rd
  simp [List.getD_eq_getElem?_getD, h]
/-- Where a number parts a list in order. -/
theorem part_at (x : Int) : ∀ (us : List Int), us.Pairwise (· ≤ ·) → ∃ k, k ≤ us.length ∧ (∀ j (h : j < us.length), j < k → us[j] ≤ x) ∧ (∀ j (h : j < us.length), k ≤ j → x < us[j])
  | [], _ => ⟨0, by simp, fun j h => by simp at h, fun j h => by simp at h⟩
  | u :: us, hp => by
    rw [List.pairwise_cons] at hp
    by_cases c : u ≤ x
    · obtain ⟨k, hk, h1, h2⟩ := part_at x us hp.2
      refine ⟨k + 1, by simpa using hk, fun j h hj => ?_, fun j h hj => ?_⟩
      · cases j with
        | zero => exact c
        | succ j => exact h1 j (by simpa using h) (by omega)
      · cases j with
        | zero => omega
        | succ j => exact h2 j (by simpa using h) (by omega)
    · refine ⟨0, Nat.zero_le _, fun j h hj => by omega, fun j h _ => ?_⟩
      cases j with
      | zero => simpa using (by omega : x < u)
      | succ j =>
        have hj : j < us.length := by simpa using h
        have := hp.1 us[j] (List.getElem_mem hj)
        simp only [List.getElem_cons_succ]
        omega
theorem best_split (s : Int) (c : Int → Int → Int) (fs us : List Int) (b0 : Int) (hs : 2 ≤ s) (hf : ∀ f ∈ fs, 0 ≤ f ∧ f < s) (hu : ∀ u, u ∈ us ↔ u ∈ fs ∧ u ≠ 0) (hp : us.Pairwise (· ≤ ·))
    (hc : ∀ a b a' b', 0 ≤ a → 0 ≤ b → a ≤ a' → b ≤ b' → c a b ≤ c a' b') (hb : s ≤ b0) (hz : b0 = s ∨ ∀ d, 0 ≤ d → d ≤ s → c d 0 ≤ s) : bestSp s c us b0 = bestTo s c fs := by
  have hup : ∀ k, k ≤ us.length → 0 ≤ upK us k ∧ upK us k < s := by
    intro k hk
    unfold upK
    by_cases h : 0 < k
    · rw [if_pos h, show ((k : Int) - 1) = ((k - 1 : Nat) : Int) by omega, rd_nat us (k - 1) (by omega)]
      exact hf _ ((hu _).1 (List.getElem_mem _)).1
    · rw [if_neg h]; omega
  have hdn : ∀ k, 0 ≤ downK s us k ∧ downK s us k ≤ s := by
    intro k
    unfold downK
    by_cases h : k < us.length
    · rw [if_pos h, rd_nat us k h]
      have := hf _ ((hu _).1 (List.getElem_mem h)).1
      omega
    · rw [if_neg h]; omega
  have hmono : ∀ i j (hi : i < us.length) (hj : j < us.length), i ≤ j → us[i] ≤ us[j] := by
    intro i j hi hj hij
    rcases Nat.lt_or_ge i j with h | h
    · exact List.pairwise_iff_getElem.1 hp i j hi hj h
    · have : i = j := by omega
      subst this
      exact Int.le_refl _
  apply Int.le_antisymm
  · -- the splits' least is no more
    unfold bestTo
    have H := (le_foldMin (fun k => c (downK s us k) (upK us k)) (bestSp s c us b0) (List.range (us.length + 1)) b0).1 (Int.le_refl _)
    rw [le_foldMin]
    constructor
    · rcases hz with rfl | hz
      · exact H.1
      · have h0 := H.2 0 (List.mem_range.2 (by omega))
        have := hz (downK s us 0) (hdn 0).1 (hdn 0).2
        have hu0 : upK us 0 = 0 := rfl
        rw [hu0] at h0
        omega
    · intro i hi
      obtain ⟨k, hk, h1, h2⟩ := part_at (i : Int) us hp
      have h3 := H.2 k (List.mem_range.2 (by omega))
      refine Int.le_trans h3 (hc _ _ _ _ (hdn k).1 (hup k hk).1 ?_ ?_)
      · unfold downK
        by_cases h : k < us.length
        · rw [if_pos h, rd_nat us k h]
          exact leftAt_ge ((hu _).1 (List.getElem_mem h)).1 (h2 k h (Nat.le_refl _))
        · rw [if_neg h]; exact leftAt_nn _ _ _
      · unfold upK
        by_cases h : 0 < k
        · rw [if_pos h, show ((k : Int) - 1) = ((k - 1 : Nat) : Int) by omega, rd_nat us (k - 1) (by omega)]
          exact h1 (k - 1) (by omega) (by omega)
        · rw [if_neg h]; omega
  · unfold bestSp
    have H := (le_foldMin (fun i : Nat => c (leftAt s fs (i : Int)) (i : Int)) (bestTo s c fs) (List.range s.toNat) s).1 (Int.le_refl _)
    rw [le_foldMin]
    refine ⟨Int.le_trans H.1 hb, fun k hk => ?_⟩
    have hk := List.mem_range.1 hk
    obtain ⟨u, hu0⟩ := Int.eq_ofNat_of_zero_le (hup k (by omega)).1
    have hlt := (hup k (by omega)).2
    have h3 := H.2 u (List.mem_range.2 (by omega))
    rw [← hu0] at h3
    refine Int.le_trans h3 (hc _ _ _ _ (leftAt_nn _ _ _) (hup k (by omega)).1 (leftAt_le (hdn k).1 (fun f hf1 hf2 => ?_)) (Int.le_refl _))
    have hfu : f ∈ us := (hu f).2 ⟨hf1, by have := (hup k (by omega)).1; omega⟩
    obtain ⟨j, hj, rfl⟩ := List.getElem_of_mem hfu
    have hkj : k ≤ j := by
      rcases Nat.lt_or_ge j k with h | h
      · exfalso
        have := hmono j (k - 1) hj (by omega) (by omega)
        unfold upK at hf2
        rw [if_pos (by omega), show ((k : Int) - 1) = ((k - 1 : Nat) : Int) by omega, rd_nat us (k - 1) (by omega)] at hf2
        omega
      · exact h
    unfold downK
    rw [if_pos (by omega), rd_nat us k (by omega)]
    have := hmono k j (by omega) hj hkj
    omega
theorem hi2_max (a b : Int) : hi2 a b = max a b := by unfold hi2; split <;> omega
theorem lo2_min (a b : Int) : lo2 a b = min a b := by unfold lo2; split <;> omega
theorem mx_max (a b : Int) : mx a b = max a b := by unfold mx; split <;> omega
theorem mn_min (a b : Int) : mn a b = min a b := by unfold mn; split <;> omega
theorem rd_all {P : Int → Prop} {l : List Int} (hx : ∀ x ∈ l, P x) (i : Nat) (h : i < l.length) : P (rd l (i : Int)) := by
  rw [rd_nat l i h]
  exact hx _ (List.getElem_mem h)
def upRing (s p q : Int) : Int := Int.tmod (q - p + s) s
theorem upRing_bd {s p q : Int} (hs : 2 ≤ s) (hp : 0 ≤ p ∧ p ≤ s - 1) (hq : 0 ≤ q ∧ q ≤ s - 1) : 0 ≤ upRing s p q ∧ upRing s p q < s := by
  unfold upRing
  rw [Int.tmod_eq_emod_of_nonneg (by omega)]
  exact ⟨Int.emod_nonneg _ (by omega), Int.emod_lt_of_pos _ (by omega)⟩
def costT (a b : Int) : Int := a + b + min a b
def costB (a b : Int) : Int := 2 * (a + b)
theorem costT_mono : ∀ a b a' b' : Int, 0 ≤ a → 0 ≤ b → a ≤ a' → b ≤ b' → costT a b ≤ costT a' b' := by
  intro a b a' b' _ _ _ _
  unfold costT
  omega
theorem costB_mono : ∀ a b a' b' : Int, 0 ≤ a → 0 ≤ b → a ≤ a' → b ≤ b' → costB a b ≤ costB a' b' := by
  intro a b a' b' _ _ _ _
  unfold costB
  omega
/-- Where the line's places lead to: left and right. -/
def leftL (p : Int) (l : List Int) (a : Int) : Int := l.foldl (fun m q => max m (p - q)) a
def rightL (p : Int) (l : List Int) (a : Int) : Int := l.foldl (fun m q => max m (q - p)) a
/-- The least time of a way through places: on a ring over all ways to the right. -/
def wayM (c : Int → Int → Int) (s : Int) (r : Bool) (p : Int) (l : List Int) : Int := if r = true then bestTo s c (l.map (upRing s p)) else c (leftL p l 0) (rightL p l 0)
theorem foldMax_bd {f : Int → Int} {l : List Int} {a B : Int} (ha : 0 ≤ a ∧ a ≤ B) (hf : ∀ x ∈ l, f x ≤ B) : 0 ≤ l.foldl (fun m q => max m (f q)) a ∧ l.foldl (fun m q => max m (f q)) a ≤ B := by
  refine ⟨Int.le_trans ha.1 ((foldMax_le f _ l a).1 (Int.le_refl _)).1, (foldMax_le f B l a).2 ⟨ha.2, hf⟩⟩
theorem leftL_bd {p : Int} {l : List Int} {a B : Int} (hp : 0 ≤ p ∧ p ≤ B) (hx : ∀ x ∈ l, 0 ≤ x ∧ x ≤ B) (ha : 0 ≤ a ∧ a ≤ B) : 0 ≤ leftL p l a ∧ leftL p l a ≤ B := foldMax_bd ha (fun x h => by have := hx x h; omega)
theorem rightL_bd {p : Int} {l : List Int} {a B : Int} (hp : 0 ≤ p ∧ p ≤ B) (hx : ∀ x ∈ l, 0 ≤ x ∧ x ≤ B) (ha : 0 ≤ a ∧ a ≤ B) : 0 ≤ rightL p l a ∧ rightL p l a ≤ B := foldMax_bd ha (fun x h => by have := hx x h; omega)
def lfF (s p right : Int) (m q : Int) : Int := max m (if right < upRing s p q then s - upRing s p q else 0)
theorem leftAt_map (s p right : Int) (l : List Int) : leftAt s (l.map (upRing s p)) right = l.foldl (lfF s p right) 0 := by
  unfold leftAt
  rw [List.foldl_map]
  rfl
theorem lfF_bd {s p right : Int} (hs : 2 ≤ s) (hp : 0 ≤ p ∧ p ≤ s - 1) : ∀ {l : List Int} {a : Int}, (∀ x ∈ l, 0 ≤ x ∧ x ≤ s - 1) → (0 ≤ a ∧ a ≤ s) → 0 ≤ l.foldl (lfF s p right) a ∧ l.foldl (lfF s p right) a ≤ s := by
  intro l a hx ha
  exact foldMax_bd (f := fun q => if right < upRing s p q then s - upRing s p q else 0) ha (fun x h => by
    have h2 := upRing_bd hs hp (hx x h)
    by_cases c : right < upRing s p x
    · simp only [c, if_true]; omega
    · simp only [c, if_false]; omega)
def bestR (s : Int) (c : Int → Int → Int) (p : Int) (l : List Int) (i d : Nat) (b : Int) : Int := (List.range' i d).foldl (fun (b : Int) (i : Nat) => min b (c (l.foldl (lfF s p (i : Int)) 0) (i : Int))) b
theorem bestR_succ (s : Int) (c : Int → Int → Int) (p : Int) (l : List Int) (i d : Nat) (b : Int) : bestR s c p l i (d + 1) b = bestR s c p l (i + 1) d (min b (c (l.foldl (lfF s p (i : Int)) 0) (i : Int))) := by
  unfold bestR
  rw [List.range'_succ, List.foldl_cons]
theorem bestR_all (s : Int) (c : Int → Int → Int) (p : Int) (l : List Int) : bestR s c p l 0 s.toNat s = bestTo s c (l.map (upRing s p)) := by
  unfold bestR bestTo
  rw [List.range_eq_range']
  congr 1
  funext b i
  rw [leftAt_map]
def bestK (s : Int) (c : Int → Int → Int) (us : List Int) (i d : Nat) (b : Int) : Int := (List.range' i d).foldl (fun (b : Int) (k : Nat) => min b (c (downK s us k) (upK us k))) b
theorem bestK_succ (s : Int) (c : Int → Int → Int) (us : List Int) (i d : Nat) (b : Int) : bestK s c us i (d + 1) b = bestK s c us (i + 1) d (min b (c (downK s us i) (upK us i))) := by
  unfold bestK
  rw [List.range'_succ, List.foldl_cons]
theorem bestK_all (s : Int) (c : Int → Int → Int) (us : List Int) (b : Int) : bestK s c us 0 (us.length + 1) b = bestSp s c us b := by
  unfold bestK bestSp
  rw [List.range_eq_range']
def upM (s : Int) (r : Bool) (p q : Int) : Int := if r = true then upRing s p q else q - p
theorem upM_bd {s p q : Int} {r : Bool} (hs : 2 ≤ s) (hp : 0 ≤ p ∧ p ≤ s - 1) (hq : 0 ≤ q ∧ q ≤ s - 1) : -s ≤ upM s r p q ∧ upM s r p q < s := by
  unfold upM
  have := upRing_bd hs hp hq
  cases r <;> simp <;> omega
def upF (us : List Int) (a : Int) : Int := us.foldl (fun m u => max m u) a
def dnF (us : List Int) (a : Int) : Int := us.foldl (fun m u => max m (-u)) a
theorem upF_bd {us : List Int} {a B : Int} (ha : 0 ≤ a ∧ a ≤ B) (hu : ∀ u ∈ us, u ≤ B) : 0 ≤ upF us a ∧ upF us a ≤ B := foldMax_bd (f := fun u => u) ha hu
theorem dnF_bd {us : List Int} {a B : Int} (ha : 0 ≤ a ∧ a ≤ B) (hu : ∀ u ∈ us, -u ≤ B) : 0 ≤ dnF us a ∧ dnF us a ≤ B := foldMax_bd (f := fun u => -u) ha hu
theorem costT_comm (a b : Int) : costT a b = costT b a := by unfold costT; omega
theorem costB_comm (a b : Int) : costB a b = costB b a := by unfold costB; omega
theorem downK_bd {s : Int} {us : List Int} (hs : 2 ≤ s) (hu : ∀ u ∈ us, 0 ≤ u ∧ u ≤ s - 1) (k : Nat) : 0 ≤ downK s us k ∧ downK s us k ≤ s := by
  unfold downK
  by_cases h : k < us.length
  · have := rd_all hu k h
    rw [if_pos h]
    omega
  · rw [if_neg h]; omega
theorem upK_bd {s : Int} {us : List Int} (hs : 2 ≤ s) (hu : ∀ u ∈ us, 0 ≤ u ∧ u ≤ s - 1) (k : Nat) (hk : k ≤ us.length) : 0 ≤ upK us k ∧ upK us k ≤ s := by
  unfold upK
  by_cases h : 0 < k
  · have := rd_all hu (k - 1) (by omega)
    rw [if_pos h, show ((k : Int) - 1) = ((k - 1 : Nat) : Int) by omega]
    omega
  · rw [if_neg h]; omega
def askM (s : Int) (r : Bool) (cs : List S61) (a b : Int) : Bool := road s r && !r && (carriersOk s cs && decide ((cs.length : Int) ≤ 6)) && (inR a 0 b && inR b 0 (s - 1))
theorem spec_l7Asks_eq (k : Nat) (s : Int) (r : Bool) (cs : List S61) (a b : Int) (hl : cs.length ≤ 1048576) (hk : 1048600 < k) : spec_l7Asks.f k s r cs a b = some (askM s r cs a b) := by
  unfold spec_l7Asks.f askM
  rw [spec_l7Carriers_eq k s r cs (by omega) (by omega), Option.bind_some, spec_l2Place_eq, spec_l1In_eq]
  cases road s r <;> cases r <;> cases carriersOk s cs <;> cases decide ((cs.length : Int) ≤ 6) <;> cases inR b 0 (s - 1) <;> cases inR a 0 b <;> simp
theorem impl_isCarried2 (k : Nat) (s : Int) (r : Bool) (cs : List S61) (a b : Int) (hl : cs.length ≤ 1048576) (hk : 1048600 < k) : impl_isCarried.f k s r cs [a, b] = some (askM s r cs a b) := by
  obtain ⟨k, rfl⟩ := succ_of (k := k) (by omega)
  obtain ⟨k, rfl⟩ := succ_of (k := k) (by omega)
  unfold impl_isCarried.f askM
  rw [impl_isLine_eq, Option.bind_some]
  cases hr : road s r with
  | false => simp
  | true =>
    cases r with
    | true => simp
    | false =>
      rw [show (true && !false) = true from rfl, if_pos rfl, impl_Road_areCarriers_eq (k + 1 + 1) s false hr cs (by omega) (by omega), Option.bind_some]
      cases (carriersOk s cs && decide ((cs.length : Int) ≤ 6)) with
      | false => simp
      | true =>
        rw [if_pos rfl, impl_Road_hasN (k + 1 + 1) s false [a, b] hr (by simp) (by simp; omega), Option.bind_some]
        have hs : slices_IsSorted_int_int.f (k + 1 + 1) [a, b] = some (decide (a ≤ b)) := by
          unfold slices_IsSorted_int_int.f
          rw [show wrap64 ((([a, b] : List Int).length : Int) - 1) = 1 from by rw [wrap64_id (by simp) (by simp)]; simp]
          simp only [slices_IsSorted_int_int.l0]
          rw [if_pos (by omega), if_pos (by omega), if_pos (by simp), show wrap64 (1 - 1) = 0 from by rw [wrap64_id (by omega) (by omega)]; rfl, if_pos (by omega), if_pos (by simp)]
          have h1 : rd [a, b] 1 = b := rfl
          have h0 : rd [a, b] 0 = a := rfl
          have hc : cmp_Less_int.f b a = some (decide (b < a)) := by
            unfold cmp_Less_int.f cmp_isNaN_int.f
            simp
          rw [h1, h0, hc, Option.bind_some]
          by_cases c : b < a
          · rw [if_pos (by simpa using c), decide_eq_false (by omega)]
          · rw [if_neg (by simpa using c), if_neg (by omega), decide_eq_true (by omega)]
        rw [hs]
        have ha : allIn [a, b] 0 (s - 1) = (inR a 0 (s - 1) && inR b 0 (s - 1)) := by simp [allIn]
        rw [ha]
        have e : (inR a 0 b && inR b 0 (s - 1)) = ((inR a 0 (s - 1) && inR b 0 (s - 1)) && decide (a ≤ b)) := by
          rw [Bool.eq_iff_iff]
          simp only [Bool.and_eq_true, inR_iff, decide_eq_true_eq]
          omega
        rw [e]
        cases (inR a 0 (s - 1) && inR b 0 (s - 1)) <;> simp

theorem laws_szIntA3S_eq (l : List S69) (a : Int) (ha : 0 ≤ a) (hA : a ≤ 1048576) (hl : l.length ≤ maxLen) :
    laws_szIntA3S.f l a = some (if a < l.length then -1 else a - l.length) := by
  unfold maxLen at hl
  unfold laws_szIntA3S.f
  rw [wrap64_id (by omega) (by omega)]
  by_cases c : a < (l.length : Int)
  · rw [if_pos (by omega), if_pos c]
  · rw [if_neg (by omega), if_neg c]
theorem rdA_get (l : List S69) (i : Nat) (h : i < l.length) : rd_T69 l (i : Int) = l[i] := by
  unfold rd_T69
  simp [List.getD_eq_getElem?_getD, h]
theorem drop_rdA (l : List S69) (i : Nat) (h : i < l.length) : l.drop i = rd_T69 l (i : Int) :: l.drop (i + 1) := by
  rw [List.drop_eq_getElem_cons h, rdA_get l i h]
theorem laws_toIntA3S_l0 (l : List S69) (hl : l.length ≤ 9223372036854775807) : ∀ (d i k : Nat), i + d = l.length → d < k →
    laws_toIntA3S.l0 k l (l.take i ++ List.replicate d z69) (i : Int) = some l
  | 0, i, k, h, hk => by
    obtain ⟨k, rfl⟩ := succ_of (k := k) (by omega)
    simp only [laws_toIntA3S.l0]
    rw [if_neg (by omega), List.take_of_length_le (by omega)]
    simp
  | d + 1, i, k, h, hk => by
    obtain ⟨k, rfl⟩ := succ_of (k := k) (by omega)
    simp only [laws_toIntA3S.l0]
    rw [if_pos (by omega), if_pos (by omega)]
    have e0 : laws_toIntA3.f (rd_T69 l (i : Int)).f0 (rd_T69 l (i : Int)).f1 (rd_T69 l (i : Int)).f2 = some ((rd_T69 l (i : Int)).f0, (rd_T69 l (i : Int)).f1, (rd_T69 l (i : Int)).f2) := rfl
    rw [e0, Option.bind_some, if_pos (by simp; omega), wrap_succ (n := l.length) (by omega) hl]
    have e : (l.take i ++ List.replicate (d + 1) z69).set ((i : Int)).toNat (⟨(rd_T69 l (i : Int)).f0, (rd_T69 l (i : Int)).f1, (rd_T69 l (i : Int)).f2⟩ : S69) = l.take (i + 1) ++ List.replicate d z69 := by
      rw [Int.toNat_natCast, List.set_append_right _ _ (by simp; omega)]
      rw [List.length_take, Nat.min_eq_left (by omega), Nat.sub_self, List.replicate_succ, List.set_cons_zero, rdA_get l i (by omega)]
      rw [List.take_succ_eq_append_getElem (show i < l.length by omega), List.append_assoc]
      rfl
    rw [e]
    exact laws_toIntA3S_l0 l hl d (i + 1) k (by omega) (by omega)
theorem laws_toIntA3S_eq (k : Nat) (l : List S69) (hl : l.length ≤ 11728124029610) (hk : l.length < k) : laws_toIntA3S.f k l = some l := by
  unfold laws_toIntA3S.f
  rw [if_pos (by omega), if_pos (by simpa using hl)]
  have := laws_toIntA3S_l0 l (by omega) l.length 0 k (by omega) hk
  simpa using this
theorem laws_eqIntA3S_l0 (l : List S69) (hl : l.length ≤ 9223372036854775807) : ∀ (d i k : Nat), i + d = l.length → d < k → laws_eqIntA3S.l0 k l l (i : Int) = some true
  | 0, i, k, h, hk => by
    obtain ⟨k, rfl⟩ := succ_of (k := k) (by omega)
    simp only [laws_eqIntA3S.l0]
    rw [if_neg (by omega)]
  | d + 1, i, k, h, hk => by
    obtain ⟨k, rfl⟩ := succ_of (k := k) (by omega)
    have e0 : ∀ a b c : Int, laws_eqIntA3.f a b c a b c = some true := fun a b c => by
      unfold laws_eqIntA3.f
      rw [if_pos rfl, if_pos rfl, if_pos rfl]
    simp only [laws_eqIntA3S.l0]
    rw [if_pos (by omega), if_pos (by omega), if_pos (by omega), e0, Option.bind_some, if_pos rfl, wrap_succ (n := l.length) (by omega) hl]
    exact laws_eqIntA3S_l0 l hl d (i + 1) k (by omega) (by omega)
theorem laws_eqIntA3S_self (k : Nat) (l : List S69) (hl : l.length ≤ 9223372036854775807) (hk : l.length < k) : laws_eqIntA3S.f k l l = some true := by
  unfold laws_eqIntA3S.f
  rw [if_pos rfl]
  have := laws_eqIntA3S_l0 l hl l.length 0 k (by omega) hk
  simpa using this
theorem bit12 : ∀ c : Fin 64, ∀ i : Fin 6, ((Go.bits .and .i64 (shr .i64 (c.val : Int) (i.val : Int)) 1) = 1 ↔ c.val.testBit i.val = true) := by decide +kernel
theorem bit13 : ∀ c : Fin 64, ∀ i : Fin 6, c.val.testBit i.val = false → Go.bits .or .i64 (c.val : Int) (shl .i64 1 (i.val : Int)) = ((c.val + 2 ^ i.val : Nat) : Int) := by decide +kernel
theorem bit14 : ∀ c : Fin 64, ∀ i j : Fin 6, c.val.testBit i.val = false → (c.val + 2 ^ i.val).testBit j.val = (decide (j.val = i.val) || c.val.testBit j.val) := by decide +kernel
theorem bit15 : ∀ n : Fin 7, ∀ c : Fin 64, ∀ i : Fin 6, c.val < 2 ^ n.val → i.val < n.val → c.val.testBit i.val = false → c.val + 2 ^ i.val < 2 ^ n.val := by decide +kernel
theorem pow_le8 (n : Nat) (h : n ≤ 6) : 2 ^ n ≤ 64 ∧ 0 < 2 ^ n := ⟨Nat.pow_le_pow_right (by omega) h, Nat.pow_pos (by omega)⟩
theorem spec_l7Steps_int (s f0 f1 f2 p q : Int) (hs : 2 ≤ s ∧ s ≤ 24) (h0 : 0 ≤ f0 ∧ f0 ≤ s - 1) (hp : 0 ≤ p) (hpq : p < q) (hq : q ≤ s - 1) : spec_l7Steps.f s false f0 f1 f2 p q = some (gapM s false f0 p + q - p) := by
  unfold spec_l7Steps.f
  have hg := gapM_bd (s := s) (r := false) (a := f0) (b := p) hs.1 h0 (by omega)
  rw [spec_l2Gap_eq s false f0 p (by omega) (by omega) (by omega), Option.bind_some, wrap64_id (x := gapM s false f0 p + q) (by omega) (by omega), wrap64_id (by omega) (by omega)]
theorem impl_Road_steps_int (s f0 f1 f2 p q : Int) (hs : 2 ≤ s ∧ s ≤ 24) (h0 : 0 ≤ f0 ∧ f0 ≤ s - 1) (hp : 0 ≤ p) (hpq : p < q) (hq : q ≤ s - 1) : impl_Road_steps.f s false f0 f1 f2 p q = some (gapM s false f0 p + q - p) := by
  unfold impl_Road_steps.f
  have hg := gapM_bd (s := s) (r := false) (a := f0) (b := p) hs.1 h0 (by omega)
  have e : gapM s false p q = q - p := by
    unfold gapM
    simp only [Bool.false_eq_true, if_false]
    rw [if_pos (by omega)]
  rw [impl_Road_gap_eq s false f0 p (by omega) (by omega) (by omega), Option.bind_some, impl_Road_gap_eq s false p q (by omega) (by omega) (by omega), Option.bind_some, e, wrap64_id (by omega) (by omega)]
  congr 1
  omega
/-- Whether legs are a relay, behind the carriers that are used, from where the parcel is. -/
def relS (s : Int) (cs : List S61) (b : Int) : List S69 → List Int → Int → Bool
  | [], _, at_ => at_ == b
  | l :: rest, U, at_ => inR l.f0 0 ((cs.length : Int) - 1) && (!(U.any fun y => decide (y = l.f0)) && (decide (l.f1 = at_) && (inR l.f2 (at_ + 1) b && (decide (gapM s false (rd_T61 cs l.f0).f0 at_ + l.f2 - at_ ≤ (rd_T61 cs l.f0).f1) && relS s cs b rest (U ++ [l.f0]) l.f2))))
theorem spec_relay_l0 (s : Int) (hs : 2 ≤ s ∧ s ≤ 24) (cs : List S61) (hc : carriersOk s cs = true) (hN : cs.length ≤ 6) (b : Int) (hb : b ≤ s - 1) (legs : List S69) (hl : legs.length ≤ 1048576) : ∀ (d i k : Nat) (U : List Int) (p : Int), i + d = legs.length → U.length = i → 0 ≤ p → p ≤ b → 1048600 + d < k →
    spec_l7Relay.l0 k cs b legs U p i s false = some (relS s cs b (legs.drop i) U p)
  | 0, i, k, U, p, h, hU, hp, hpb, hk => by
    obtain ⟨k, rfl⟩ := succ_of (k := k) (by omega)
    simp only [spec_l7Relay.l0]
    rw [if_neg (by omega), drop_end legs i (by omega)]
    rfl
  | d + 1, i, k, U, p, h, hU, hp, hpb, hk => by
    obtain ⟨k, rfl⟩ := succ_of (k := k) (by omega)
    have ih := spec_relay_l0 s hs cs hc hN b hb legs hl d (i + 1) k
    simp only [spec_l7Relay.l0]
    rw [if_pos (by omega), if_pos (by omega), drop_rdA legs i (by omega), wrap_succ (n := legs.length) (by omega) (by omega), spec_l1In_eq, Option.bind_some, wrap64_id (x := (cs.length : Int) - 1) (by omega) (by omega)]
    generalize rd_T69 legs (i : Int) = l
    unfold relS
    cases h1 : inR l.f0 0 ((cs.length : Int) - 1) with
    | false => simp
    | true =>
      have h1' := inR_iff.1 h1
      rw [if_pos rfl, spec_l1Has_eq k _ U (by omega) (by omega), Option.bind_some]
      cases h2 : (U.any fun y => decide (y = l.f0)) with
      | true => simp
      | false =>
        rw [if_neg (by simp)]
        by_cases h3 : l.f1 = p
        · rw [if_pos h3, decide_eq_true h3, h3, wrap64_id (x := p + 1) (by omega) (by omega), spec_l1In_eq, Option.bind_some]
          cases h4 : inR l.f2 (p + 1) b with
          | false => simp
          | true =>
            have h4' := inR_iff.1 h4
            have hbd := carrierOk_bd (carriersOk_at hc l.f0 h1'.1 (by omega))
            rw [if_pos rfl, if_pos h1'.1, if_pos (by omega), spec_l7Steps_int s _ _ _ p l.f2 hs hbd.1 hp (by omega) (by omega), Option.bind_some]
            by_cases h5 : gapM s false (rd_T61 cs l.f0).f0 p + l.f2 - p ≤ (rd_T61 cs l.f0).f1
            · rw [if_neg (by omega), if_pos (by omega), decide_eq_true h5, ih (U ++ [l.f0]) l.f2 (by omega) (by rw [List.length_append, hU]; rfl) (by omega) (by omega) (by omega)]
              simp
            · rw [if_pos (by omega), decide_eq_false h5]
              simp
        · rw [if_neg h3, decide_eq_false h3]
          simp
/-- The other way, one leg taken: what is told of it, or that it is no leg. -/
theorem impl_relay_step (s : Int) (hs : 2 ≤ s ∧ s ≤ 24) (cs : List S61) (hc : carriersOk s cs = true) (hN : cs.length ≤ 6) (b : Int) (legs : List S69) (hl : legs.length ≤ 1048576) (i k m : Nat) (p : Int) (hr : road s false = true) (hi : i < legs.length) (hp : 0 ≤ p ∧ p ≤ s - 1) (hm : m < 2 ^ cs.length) :
    impl_Road_isRelay.l0 (k + 4) cs p b m legs (legs.length : Int) i s false = if inR (rd_T69 legs (i : Int)).f0 0 ((cs.length : Int) - 1) = true ∧ m.testBit (rd_T69 legs (i : Int)).f0.toNat = false ∧ (rd_T69 legs (i : Int)).f1 = p ∧ inR (rd_T69 legs (i : Int)).f2 (p + 1) (s - 1) = true ∧ gapM s false (rd_T61 cs (rd_T69 legs (i : Int)).f0).f0 p + (rd_T69 legs (i : Int)).f2 - p ≤ (rd_T61 cs (rd_T69 legs (i : Int)).f0).f1 then impl_Road_isRelay.l0 (k + 2) cs (rd_T69 legs (i : Int)).f2 b ((m + 2 ^ (rd_T69 legs (i : Int)).f0.toNat : Nat) : Int) legs (legs.length : Int) ((i + 1 : Nat) : Int) s false else some false := by
  have hM := pow_le8 cs.length hN
  rw [impl_Road_isRelay.l0, if_pos (by omega), if_pos (by omega), if_pos (by omega), impl_within_eq, Option.bind_some, wrap64_id (x := (cs.length : Int) - 1) (by omega) (by omega)]
  generalize rd_T69 legs (i : Int) = l
  have hj1 : ∀ q, impl_Road_isRelay.j1 (k + 3) cs p b m legs (legs.length : Int) i true s false l.f0 l.f1 q = some false := fun q => by
    rw [impl_Road_isRelay.j1, if_pos rfl]
  cases h1 : inR l.f0 0 ((cs.length : Int) - 1) with
  | false =>
    rw [if_neg (by simp), hj1, if_neg (by simp)]
  | true =>
    have h1' := inR_iff.1 h1
    obtain ⟨j, hj⟩ : ∃ j : Nat, l.f0 = (j : Int) := ⟨l.f0.toNat, by omega⟩
    have h12 := bit12 ⟨m, by omega⟩ ⟨j, by omega⟩
    simp only at h12
    rw [if_pos rfl, if_pos (by omega), hj, Int.toNat_natCast]
    cases h2 : m.testBit j with
    | true =>
      rw [if_pos (h12.2 h2), ← hj, hj1, if_neg (by simp)]
    | false =>
      rw [if_neg (by rw [h12, h2]; simp)]
      by_cases h3 : l.f1 = p
      · rw [if_pos h3]
        by_cases h4 : l.f2 ≤ p
        · rw [if_pos h4, ← hj, hj1, if_neg (by rintro ⟨_, _, _, h, _⟩; have := inR_iff.1 h; omega)]
        · rw [if_neg h4, impl_Road_has1 (k + 3) s false l.f2 hr (by omega), Option.bind_some]
          cases h5 : inR l.f2 0 (s - 1) with
          | false =>
            have h5' := inR_not.1 h5
            rw [Bool.not_false, ← hj, hj1, if_neg (by rintro ⟨_, _, _, h, _⟩; have := inR_iff.1 h; omega)]
          | true =>
            have h5' := inR_iff.1 h5
            have h6 : inR l.f2 (p + 1) (s - 1) = true := inR_iff.2 ⟨by omega, h5'.2⟩
            have hbd := carrierOk_bd (carriersOk_at hc (j : Int) (by omega) (by omega))
            rw [impl_Road_isRelay.j1, Bool.not_true, if_neg (by simp), if_pos (by omega), if_pos (by omega), impl_Road_steps_int s _ _ _ p l.f2 hs hbd.1 hp.1 (by omega) h5'.2, Option.bind_some]
            by_cases h7 : gapM s false (rd_T61 cs (j : Int)).f0 p + l.f2 - p ≤ (rd_T61 cs (j : Int)).f1
            · have h13 := bit13 ⟨m, by omega⟩ ⟨j, by omega⟩ h2
              simp only at h13
              rw [if_neg (by omega), if_pos ⟨rfl, rfl, h3, h6, h7⟩, h13, wrap_succ (n := legs.length) (by omega) (by omega)]
            · rw [if_pos (by omega), if_neg (fun h => h7 h.2.2.2.2)]
      · rw [if_neg h3, ← hj, hj1, if_neg (fun h => h3 h.2.2.1)]
theorem impl_relay_past (s : Int) (hs : 2 ≤ s ∧ s ≤ 24) (cs : List S61) (hc : carriersOk s cs = true) (hN : cs.length ≤ 6) (b : Int) (hb : b ≤ s - 1) (legs : List S69) (hl : legs.length ≤ 1048576) (hr : road s false = true) (hb0 : 0 ≤ b) : ∀ (d i k m : Nat) (p : Int), i + d = legs.length → m < 2 ^ cs.length → b < p → p ≤ s - 1 → 2 * d + 10 < k →
    impl_Road_isRelay.l0 k cs p b m legs (legs.length : Int) i s false = some false
  | 0, i, k, m, p, h, hm, hp, hp2, hk => by
    obtain ⟨k, rfl⟩ := succ_of (k := k) (by omega)
    rw [impl_Road_isRelay.l0, if_neg (by omega)]
    have : (p == b) = false := by simp; omega
    rw [this]
  | d + 1, i, k, m, p, h, hm, hp, hp2, hk => by
    obtain ⟨k, rfl⟩ : ∃ q, k = q + 4 := ⟨k - 4, by omega⟩
    rw [impl_relay_step s hs cs hc hN b legs hl i k m p hr (by omega) ⟨by omega, hp2⟩ hm]
    split
    · rename_i hh
      have h1 := inR_iff.1 hh.1
      have h4 := inR_iff.1 hh.2.2.2.1
      exact impl_relay_past s hs cs hc hN b hb legs hl hr hb0 d (i + 1) (k + 2) _ _ (by omega) (bit15 ⟨cs.length, by omega⟩ ⟨m, by have := (pow_le8 cs.length hN).1; omega⟩ ⟨(rd_T69 legs (i : Int)).f0.toNat, by omega⟩ hm (by show (rd_T69 legs (i : Int)).f0.toNat < cs.length; omega) hh.2.1) (by omega) (by omega) (by omega)
    · rfl
theorem impl_relay_l0 (s : Int) (hs : 2 ≤ s ∧ s ≤ 24) (cs : List S61) (hc : carriersOk s cs = true) (hN : cs.length ≤ 6) (b : Int) (hb : b ≤ s - 1) (legs : List S69) (hl : legs.length ≤ 1048576) (hr : road s false = true) (hb0 : 0 ≤ b) : ∀ (d i k m : Nat) (U : List Int) (p : Int), i + d = legs.length → m < 2 ^ cs.length → 0 ≤ p → p ≤ b → 2 * d + 10 < k → (∀ j : Nat, j < 6 → (U.any fun y => decide (y = (j : Int))) = m.testBit j) →
    impl_Road_isRelay.l0 k cs p b m legs (legs.length : Int) i s false = some (relS s cs b (legs.drop i) U p)
  | 0, i, k, m, U, p, h, hm, hp, hpb, hk, hU => by
    obtain ⟨k, rfl⟩ := succ_of (k := k) (by omega)
    rw [impl_Road_isRelay.l0, if_neg (by omega), drop_end legs i (by omega)]
    rfl
  | d + 1, i, k, m, U, p, h, hm, hp, hpb, hk, hU => by
    have hM := pow_le8 cs.length hN
    obtain ⟨k, rfl⟩ : ∃ q, k = q + 4 := ⟨k - 4, by omega⟩
    rw [impl_relay_step s hs cs hc hN b legs hl i k m p hr (by omega) ⟨hp, by omega⟩ hm, drop_rdA legs i (by omega)]
    have ih := fun m' U' p' => impl_relay_l0 s hs cs hc hN b hb legs hl hr hb0 d (i + 1) (k + 2) m' U' p' (by omega)
    have past := fun m' p' => impl_relay_past s hs cs hc hN b hb legs hl hr hb0 d (i + 1) (k + 2) m' p' (by omega)
    generalize rd_T69 legs (i : Int) = l
    unfold relS
    cases h1 : inR l.f0 0 ((cs.length : Int) - 1) with
    | false => simp
    | true =>
      have h1' := inR_iff.1 h1
      obtain ⟨j, hj⟩ : ∃ j : Nat, l.f0 = (j : Int) := ⟨l.f0.toNat, by omega⟩
      have hj6 : j < 6 := by omega
      rw [hj, Int.toNat_natCast, hU j hj6]
      cases h2 : m.testBit j with
      | true => simp
      | false =>
        have h14 := fun q (hq : q < 6) => bit14 ⟨m, by omega⟩ ⟨j, by omega⟩ ⟨q, by omega⟩ h2
        have h15 := bit15 ⟨cs.length, by omega⟩ ⟨m, by omega⟩ ⟨j, by omega⟩ hm (by show j < cs.length; omega) h2
        simp only at h14 h15
        by_cases h3 : l.f1 = p
        · rw [decide_eq_true h3]
          by_cases h7 : gapM s false (rd_T61 cs (j : Int)).f0 p + l.f2 - p ≤ (rd_T61 cs (j : Int)).f1
          · rw [decide_eq_true h7]
            cases h4 : inR l.f2 (p + 1) b with
            | true =>
              have h4' := inR_iff.1 h4
              have h5 : inR l.f2 (p + 1) (s - 1) = true := inR_iff.2 ⟨h4'.1, by omega⟩
              rw [if_pos ⟨rfl, rfl, h3, h5, h7⟩, ih (m + 2 ^ j) (U ++ [(j : Int)]) l.f2 h15 (by omega) (by omega) (by omega) (fun q hq => by
                rw [List.any_append, hU q hq, h14 q hq]
                simp only [List.any_cons, List.any_nil, Bool.or_false]
                rw [Bool.or_comm]
                congr 1
                by_cases e : q = j
                · subst e; simp
                · rw [decide_eq_false (by omega), decide_eq_false (by omega)])]
              simp
            | false =>
              have h4' := inR_not.1 h4
              cases h5 : inR l.f2 (p + 1) (s - 1) with
              | true =>
                have h5' := inR_iff.1 h5
                rw [if_pos ⟨rfl, rfl, h3, rfl, h7⟩, past (m + 2 ^ j) l.f2 h15 (by omega) (by omega) (by omega)]
                simp
              | false => simp
          · rw [decide_eq_false h7, if_neg (fun h => h7 h.2.2.2.2)]
            simp
        · rw [decide_eq_false h3, if_neg (fun h => h3 h.2.2.1)]
          simp


theorem relay_both (k : Nat) (s : Int) (r : Bool) (cs : List S61) (a b : Int) (legs : List S69) (hcl : cs.length ≤ 1048576) (hl : legs.length ≤ 1048576) (hk : 4194304 ≤ k) : ∃ v : Bool × Bool, spec_IsRelay.f k s r cs a b legs = some v ∧ impl_IsRelay.f k s r cs a b legs = some v := by
  unfold spec_IsRelay.f impl_IsRelay.f
  rw [spec_l7Asks_eq k s r cs a b hcl (by omega), impl_isCarried2 k s r cs a b hcl (by omega), Option.bind_some, Option.bind_some]
  cases h : askM s r cs a b with
  | false => exact ⟨(false, false), by simp, by simp⟩
  | true =>
    unfold askM at h
    simp only [Bool.and_eq_true, Bool.not_eq_true', decide_eq_true_eq, inR_iff] at h
    obtain ⟨⟨⟨hr, hb⟩, hc, hn⟩, ha, hbb⟩ := h
    subst hb
    have hbd := road_bd hr
    rw [if_pos rfl, if_pos rfl]
    have e1 : spec_l7Relay.f k s false cs a b legs = some (relS s cs b legs [] a) := by
      unfold spec_l7Relay.f
      exact spec_relay_l0 s ⟨hbd.1, hbd.2.1⟩ cs hc (by omega) b (by omega) legs hl legs.length 0 k [] a (by omega) rfl ha.1 ha.2 (by omega)
    have e2 : impl_Road_isRelay.f k s false cs a b legs = some (relS s cs b legs [] a) := by
      unfold impl_Road_isRelay.f
      exact impl_relay_l0 s ⟨hbd.1, hbd.2.1⟩ cs hc (by omega) b (by omega) legs hl hr (by omega) legs.length 0 k 0 [] a (by omega) (pow_le8 cs.length (by omega)).2 ha.1 ha.2 (by omega) (fun j _ => by simp)
    exact ⟨_, by rw [e1, Option.bind_some], by rw [e2, Option.bind_some]⟩
theorem FnExactIsRelay (a0_0 : Int) (a0_1 : Bool) (l1 : List (S63)) (a2 : Int) (a3 : Int) (l4 : List (S69))
    (h0 : ((Lit.int .i64 (a0_0)).wf = true)) (h1 : True) (h2 : (l1.length ≤ maxLen ∧ ∀ y0 ∈ l1, (((Lit.int .i64 ((y0).f0)).wf = true) ∧ ((Lit.int .i64 ((y0).f1)).wf = true) ∧ ((Lit.int .i64 ((y0).f2)).wf = true)))) (h3 : ((Lit.int .i64 (a2)).wf = true)) (h4 : ((Lit.int .i64 (a3)).wf = true)) (h5 : (l4.length ≤ maxLen ∧ ∀ y0 ∈ l4, (((Lit.int .i64 ((y0).f0)).wf = true) ∧ ((Lit.int .i64 ((y0).f1)).wf = true) ∧ ((Lit.int .i64 ((y0).f2)).wf = true)))) :
    ∃ k, laws_FnExactIsRelay.f k a0_0 a0_1 l1 a2 a3 l4 = some true := by
  by_cases c : (1048576 : Int) < (l1.length : Int)
  · refine ⟨0, ?_⟩
    unfold laws_FnExactIsRelay.f
    rw [laws_szCarrierS_eq l1 1048576 (by omega) (by omega) h2.1, Option.bind_some, if_pos c, if_pos (by omega)]
  by_cases c2 : (1048576 - (l1.length : Int)) < (l4.length : Int)
  · refine ⟨0, ?_⟩
    unfold laws_FnExactIsRelay.f
    rw [laws_szCarrierS_eq l1 1048576 (by omega) (by omega) h2.1, Option.bind_some, if_neg c, if_neg (by omega), laws_szIntA3S_eq l4 _ (by omega) (by omega) h5.1, Option.bind_some, if_pos c2, if_pos (by omega)]
  have hm : (l1.map toC).length = l1.length := by simp
  obtain ⟨⟨v, b⟩, hs, hi⟩ := relay_both 4194305 a0_0 a0_1 (l1.map toC) a2 a3 l4 (by omega) (by omega) (by omega)
  refine ⟨4194305, ?_⟩
  unfold laws_FnExactIsRelay.f
  rw [laws_szCarrierS_eq l1 1048576 (by omega) (by omega) h2.1, Option.bind_some, if_neg c, if_neg (by omega), laws_szIntA3S_eq l4 _ (by omega) (by omega) h5.1, Option.bind_some, if_neg c2, if_neg (by omega)]
  simp only [laws_toRoad_eq, Option.bind_some, laws_toCarrierS_eq 4194305 l1 (by omega) (by omega), laws_toIntA3S_eq 4194305 l4 (by omega) (by omega)]
  rw [hs, hi]
  simp only [Option.bind_some, bne_self_eq_false, laws_FnExactIsRelay.j0]
  rw [if_neg (by simp), if_neg (by simp), laws_toCarrierS_eq 4194304 l1 (by omega) (by omega), Option.bind_some, laws_eqCarrierS_self 4194304 _ (by omega) (by omega), Option.bind_some, if_pos rfl, laws_toIntA3S_eq 4194304 l4 (by omega) (by omega), Option.bind_some, laws_eqIntA3S_self 4194304 l4 (by omega) (by omega), Option.bind_some, if_pos rfl]

end Go.Proofs.Ythgbkekfekcfaaa.Pure
