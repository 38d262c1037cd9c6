/- Plain facts on numbers and lists: what the functions that the law FnExactRunTime reaches answer, and that the law's own function answers true. No program, no memory. -/
import Derived.Test.YtppkommlmloenabPFnExactRunTimex1
import Derived.Test.YtppkommlmloenabPFnExactRunTimex2
import Derived.Test.YtppkommlmloenabPFnExactRunTimex3
import Derived.Test.YtppkommlmloenabPFnExactRunTimex4
import Derived.Test.YtppkommlmloenabPFnExactRunTimex5
import Derived.Test.YtppkommlmloenabPFnExactRunTimex6
import Derived.Test.YtppkommlmloenabPFnExactRunTimex7
import Derived.Test.YtppkommlmloenabPFnExactRunTimex8
namespace Go.Proofs.Ytppkommlmloenab.Pure
open Go.RowKit Go.Proofs.Ytppkommlmloenab.PFnExactRunTime Go.Proofs.YtppkommlmloenabW.PrintWords Go.Proofs.YtppkommlmloenabW.PrintLast Go.Proofs.YtppkommlmloenabW.PrintMore
set_option linter.unusedVariables false
set_option linter.unusedSimpArgs false
theorem wrap64_id {x : Int} (h1 : -9223372036854775808 ≤ x) (h2 : x ≤ 9223372036854775807) : wrap64 x = x := by unfold wrap64; omega
def inR (x a b : Int) : Bool := decide (a ≤ x) && decide (x ≤ b)
theorem inR_iff {x a b : Int} : inR x a b = true ↔ a ≤ x ∧ x ≤ b := by unfold inR; simp
def road (s : Int) (r : Bool) : Bool := inR s 2 24 && (!r || decide (3 ≤ s))
theorem road_bd {s : Int} {r : Bool} (h : road s r = true) : 2 ≤ s ∧ s ≤ 24 ∧ (r = true → 3 ≤ s) := by
  unfold road at h
  rw [Bool.and_eq_true, inR_iff] at h
  refine ⟨h.1.1, h.1.2, fun hr => ?_⟩
  have := h.2
  simp [hr] at this
  exact this
theorem spec_l1In_eq (a b c : Int) : spec_l1In.f a b c = some (inR a b c) := by
  unfold spec_l1In.f inR
  by_cases h : a ≥ b
  · have h' : b ≤ a := h
    simp [h, h']
  · have h' : ¬ b ≤ a := h
    simp [h, h']
theorem impl_within_eq (a b c : Int) : impl_within.f a b c = some (inR a b c) := by
  unfold impl_within.f inR
  by_cases h : a ≥ b
  · have h' : b ≤ a := h
    simp [h, h']
  · have h' : ¬ b ≤ a := h
    simp [h, h']
theorem spec_l2Road_eq (s : Int) (r : Bool) : spec_l2Road.f s r = some (road s r) := by
  unfold spec_l2Road.f road
  rw [spec_l1In_eq, Option.bind_some]
  cases inR s 2 24 <;> cases r <;> simp
  omega
theorem impl_IsRoad_eq (s : Int) (r : Bool) : impl_IsRoad.f s r = some (road s r) := by
  unfold impl_IsRoad.f road
  rw [impl_within_eq, Option.bind_some]
  cases inR s 2 24 <;> cases r <;> simp
theorem laws_toRoad_eq (s : Int) (r : Bool) : laws_toRoad.f s r = some (s, r) := rfl
theorem wrap_succ {i n : Nat} (h : i < n) (hn : n ≤ 9223372036854775807) : wrap64 ((i : Int) + 1) = ((i + 1 : Nat) : Int) := by unfold wrap64; omega
theorem drop_rd (l : List Int) (i : Nat) (h : i < l.length) : l.drop i = rd l (i : Int) :: l.drop (i + 1) := by
  rw [List.drop_eq_getElem_cons h]
  unfold rd
  simp [List.getD_eq_getElem?_getD, h]
theorem succ_of {k : Nat} (h : 0 < k) : ∃ m, k = m + 1 := ⟨k - 1, by omega⟩
theorem drop_end {α : Type} (l : List α) (i : Nat) (h : l.length ≤ i) : l.drop i = [] := List.drop_of_length_le h
def allIn (l : List Int) (a b : Int) : Bool := l.all (fun x => inR x a b)
theorem impl_allWithin_l0 (lo hi : Int) (l : List Int) (hl : l.length ≤ 9223372036854775807) : ∀ (d i k : Nat), i + d = l.length → d < k →
    impl_allWithin.l0 k lo hi l (l.length : Int) (i : Int) = some (allIn (l.drop i) lo hi)
  | 0, i, k, h, hk => by
    obtain ⟨k, rfl⟩ := succ_of (k := k) (by omega)
    simp only [impl_allWithin.l0]
    rw [if_neg (by omega), drop_end l i (by omega)]
    rfl
  | d + 1, i, k, h, hk => by
    obtain ⟨k, rfl⟩ := succ_of (k := k) (by omega)
    simp only [impl_allWithin.l0]
    rw [if_pos (by omega), if_pos (by omega), if_pos (by omega), impl_within_eq, Option.bind_some, wrap_succ (n := l.length) (by omega) hl, impl_allWithin_l0 lo hi l hl d (i + 1) k (by omega) (by omega), drop_rd l i (by omega)]
    unfold allIn
    rw [List.all_cons]
    cases inR (rd l (i : Int)) lo hi <;> simp
theorem impl_allWithin_eq (k : Nat) (l : List Int) (a b : Int) (hl : l.length ≤ 9223372036854775807) (hk : l.length < k) : impl_allWithin.f k l a b = some (allIn l a b) := by
  unfold impl_allWithin.f
  have := impl_allWithin_l0 a b l hl l.length 0 k (by omega) hk
  simpa using this
theorem impl_Road_has_eq (k : Nat) (s : Int) (r : Bool) (l : List Int) (hl : l.length ≤ 9223372036854775807) (hk : l.length < k) : impl_Road_has.f k s r l = some (allIn l 0 (wrap64 (s - 1))) := by
  unfold impl_Road_has.f
  rw [impl_allWithin_eq k l _ _ hl hk, Option.bind_some]
theorem impl_Road_has1 (k : Nat) (s : Int) (r : Bool) (x : Int) (hs : road s r = true) (hk : 1 < k) : impl_Road_has.f k s r [x] = some (inR x 0 (s - 1)) := by
  rw [impl_Road_has_eq k s r [x] (by simp) (by simpa using hk)]
  have := road_bd hs
  rw [wrap64_id (by omega) (by omega)]
  simp [allIn]
theorem spec_l2Place_eq (s : Int) (r : Bool) (x : Int) : spec_l2Place.f s r x = some (road s r && inR x 0 (s - 1)) := by
  unfold spec_l2Place.f
  rw [spec_l2Road_eq, Option.bind_some]
  cases h : road s r with
  | false => simp
  | true =>
    have := road_bd h
    rw [wrap64_id (by omega) (by omega)]
    simp [spec_l1In_eq]
def runL (s x : Int) (n : Nat) : List Int := (List.range n).map (fun (i : Nat) => Int.tmod (x + i) s)
theorem runL_snoc (s x : Int) (n : Nat) : runL s x (n + 1) = runL s x n ++ [Int.tmod (x + n) s] := by unfold runL; rw [List.range_succ]; simp
theorem runL_len (s x : Int) (n : Nat) : (runL s x n).length = n := by simp [runL]
def fits (s : Int) (r : Bool) (x n : Int) : Bool := inR x 0 (s - 1) && inR n 0 s && (r || decide (x + n ≤ s))
theorem spec_l6Run_l0 (s : Int) (r : Bool) (x : Int) (n : Nat) (hs : 2 ≤ s ∧ s ≤ 24) (hx : 0 ≤ x ∧ x ≤ 1000) (hn : n ≤ 1000) : ∀ (d i k : Nat), i + d = n → d < k →
    spec_l6Run.l0 k x (n : Int) (runL s x i) (i : Int) s r = some (runL s x n)
  | 0, i, k, h, hk => by
    obtain ⟨k, rfl⟩ := succ_of (k := k) (by omega)
    simp only [spec_l6Run.l0]
    rw [if_neg (by omega), show i = n by omega]
  | d + 1, i, k, h, hk => by
    obtain ⟨k, rfl⟩ := succ_of (k := k) (by omega)
    simp only [spec_l6Run.l0]
    rw [if_pos (by omega), if_neg (by omega), if_pos (by rw [runL_len]; omega), wrap64_id (x := x + i) (by omega) (by omega), wrap_succ (n := n) (by omega) (by omega), ← runL_snoc]
    exact spec_l6Run_l0 s r x n hs hx hn d (i + 1) k (by omega) (by omega)
theorem spec_l6Run_eq (k : Nat) (s : Int) (r : Bool) (x n : Int) (hs : 2 ≤ s ∧ s ≤ 24) (hx : 0 ≤ x ∧ x ≤ 1000) (hn : 0 ≤ n ∧ n ≤ 1000) (hk : n.toNat < k) : spec_l6Run.f k s r x n = some (runL s x n.toNat) := by
  unfold spec_l6Run.f
  have := spec_l6Run_l0 s r x n.toNat hs hx (by omega) n.toNat 0 k (by omega) hk
  rw [Int.toNat_of_nonneg hn.1] at this
  simpa [runL] using this
theorem impl_Road_run_l0 (s : Int) (r : Bool) (x : Int) (n : Nat) (hs : 2 ≤ s ∧ s ≤ 24) (hx : 0 ≤ x ∧ x ≤ 1000) (hn : n ≤ 1000) : ∀ (d i k : Nat), i + d = n → d < k →
    impl_Road_run.l0 k x (runL s x i) (n : Int) (i : Int) s r = some (runL s x n)
  | 0, i, k, h, hk => by
    obtain ⟨k, rfl⟩ := succ_of (k := k) (by omega)
    simp only [impl_Road_run.l0]
    rw [if_neg (by omega), show i = n by omega]
  | d + 1, i, k, h, hk => by
    obtain ⟨k, rfl⟩ := succ_of (k := k) (by omega)
    simp only [impl_Road_run.l0]
    rw [if_pos (by omega), if_neg (by omega), if_pos (by rw [runL_len]; omega), wrap64_id (x := x + i) (by omega) (by omega), wrap_succ (n := n) (by omega) (by omega), ← runL_snoc]
    exact impl_Road_run_l0 s r x n hs hx hn d (i + 1) k (by omega) (by omega)
theorem impl_Road_run_eq (k : Nat) (s : Int) (r : Bool) (x n : Int) (hs : 2 ≤ s ∧ s ≤ 24) (hx : 0 ≤ x ∧ x ≤ 1000) (hn : 0 ≤ n ∧ n ≤ 1000) (hk : n.toNat < k) : impl_Road_run.f k s r x n = some (runL s x n.toNat) := by
  unfold impl_Road_run.f
  have := impl_Road_run_l0 s r x n.toNat hs hx (by omega) n.toNat 0 k (by omega) hk
  rw [Int.toNat_of_nonneg hn.1] at this
  simpa [runL] using this
theorem spec_l6Fits_eq (s : Int) (r : Bool) (x n : Int) : spec_l6Fits.f s r x n = some (road s r && fits s r x n) := by
  unfold spec_l6Fits.f fits
  rw [spec_l2Place_eq, Option.bind_some]
  cases hr : road s r with
  | false => simp
  | true =>
    have := road_bd hr
    cases hx : inR x 0 (s - 1) with
    | false => simp
    | true =>
      have hx := inR_iff.1 hx
      rw [spec_l1In_eq]
      cases hn : inR n 0 s with
      | false => simp
      | true =>
        have hn := inR_iff.1 hn
        rw [wrap64_id (x := x + n) (by omega) (by omega)]
        cases r <;> simp
theorem impl_Road_isRun_eq (k : Nat) (s : Int) (r : Bool) (x n : Int) (hr : road s r = true) (hk : 1 < k) : impl_Road_isRun.f k s r x n = some (fits s r x n) := by
  unfold impl_Road_isRun.f fits
  rw [impl_Road_has1 k s r x hr hk, Option.bind_some]
  have := road_bd hr
  cases hx : inR x 0 (s - 1) with
  | false => simp
  | true =>
    have hx := inR_iff.1 hx
    rw [impl_within_eq]
    cases hn : inR n 0 s with
    | false => simp
    | true =>
      have hn := inR_iff.1 hn
      rw [wrap64_id (x := x + n) (by omega) (by omega)]
      cases r <;> simp
def lo2 (a b : Int) : Int := if a < b then a else b
theorem spec_l1Least_eq (a b : Int) : spec_l1Least.f a b = some (lo2 a b) := by unfold spec_l1Least.f lo2; split <;> rfl
def hi2 (a b : Int) : Int := if b < a then a else b
theorem spec_l1Most_eq (a b : Int) : spec_l1Most.f a b = some (hi2 a b) := by unfold spec_l1Most.f hi2; by_cases h : b < a <;> simp [h]
theorem le_foldMin {β : Type} (f : β → Int) (x : Int) : ∀ (l : List β) (b : Int), x ≤ l.foldl (fun b i => min b (f i)) b ↔ x ≤ b ∧ ∀ i ∈ l, x ≤ f i
  | [], b => by simp
  | a :: l, b => by
    rw [List.foldl_cons, le_foldMin f x l, List.forall_mem_cons, Int.le_min, and_assoc]
theorem foldMax_le {β : Type} (f : β → Int) (x : Int) : ∀ (l : List β) (b : Int), l.foldl (fun b i => max b (f i)) b ≤ x ↔ b ≤ x ∧ ∀ i ∈ l, f i ≤ x
  | [], b => by simp
  | a :: l, b => by
    rw [List.foldl_cons, foldMax_le f x l, List.forall_mem_cons, Int.max_le, and_assoc]
theorem foldMax_perm {β : Type} (f : β → Int) {l l' : List β} (h : ∀ i, i ∈ l ↔ i ∈ l') (b : Int) : l.foldl (fun b i => max b (f i)) b = l'.foldl (fun b i => max b (f i)) b := by
  apply Int.le_antisymm
  · rw [foldMax_le]
    have := (foldMax_le f _ l' b).1 (Int.le_refl _)
    exact ⟨this.1, fun i hi => this.2 i ((h i).1 hi)⟩
  · rw [foldMax_le]
    have := (foldMax_le f _ l b).1 (Int.le_refl _)
    exact ⟨this.1, fun i hi => this.2 i ((h i).2 hi)⟩
/-- How far one goes to the left where one goes so far to the right. -/
def leftAt (s : Int) (fs : List Int) (right : Int) : Int := fs.foldl (fun m f => max m (if right < f then s - f else 0)) 0
theorem leftAt_nn (s : Int) (fs : List Int) (right : Int) : 0 ≤ leftAt s fs right := ((foldMax_le _ _ fs 0).1 (Int.le_refl _)).1
theorem leftAt_ge {s : Int} {fs : List Int} {right f : Int} (hf : f ∈ fs) (h : right < f) : s - f ≤ leftAt s fs right := by
  have := ((foldMax_le (fun f => if right < f then s - f else 0) _ fs 0).1 (Int.le_refl _)).2 f hf
  rw [if_pos h] at this
  exact this
theorem leftAt_le {s : Int} {fs : List Int} {right x : Int} (h0 : 0 ≤ x) (h : ∀ f ∈ fs, right < f → s - f ≤ x) : leftAt s fs right ≤ x := by
  unfold leftAt
  rw [foldMax_le]
  refine ⟨h0, fun f hf => ?_⟩
  by_cases c : right < f
  · rw [if_pos c]; exact h f hf c
  · rw [if_neg c]; exact h0
/-- The least over all ways to the right. -/
def bestTo (s : Int) (c : Int → Int → Int) (fs : List Int) : Int := (List.range s.toNat).foldl (fun (b : Int) (i : Nat) => min b (c (leftAt s fs (i : Int)) (i : Int))) s
def upK (us : List Int) (k : Nat) : Int := if 0 < k then rd us ((k : Int) - 1) else 0
def downK (s : Int) (us : List Int) (k : Nat) : Int := if k < us.length then s - rd us (k : Int) else 0
/-- The least over all splits of the places in order. -/
def bestSp (s : Int) (c : Int → Int → Int) (us : List Int) (b0 : Int) : Int := (List.range (us.length + 1)).foldl (fun (b : Int) (k : Nat) => min b (c (downK s us k) (upK us k))) b0
theorem rd_nat (l : List Int) (i : Nat) (h : i < l.length) : rd l (i : Int) = l[i] := by
  unfold rd
  simp [List.getD_eq_getElem?_getD, h]
/-- Where a number parts a list in order. -/
theorem part_at (x : Int) : ∀ (us : List Int), us.Pairwise (· ≤ ·) → ∃ k, k ≤ us.length ∧ (∀ j (h : j < us.length), j < k → us[j] ≤ x) ∧ (∀ j (h : j < us.length), k ≤ j → x < us[j])
  | [], _ => ⟨0, by simp, fun j h => by simp at h, fun j h => by simp at h⟩
  | u :: us, hp => by
    rw [List.pairwise_cons] at hp
    by_cases c : u ≤ x
    · obtain ⟨k, hk, h1, h2⟩ := part_at x us hp.2
      refine ⟨k + 1, by simpa using hk, fun j h hj => ?_, fun j h hj => ?_⟩
      · cases j with
        | zero => exact c
        | succ j => exact h1 j (by simpa using h) (by omega)
      · cases j with
        | zero => omega
        | succ j => exact h2 j (by simpa using h) (by omega)
    · refine ⟨0, Nat.zero_le _, fun j h hj => by omega, fun j h _ => ?_⟩
      cases j with
      | zero => simpa using (by omega : x < u)
      | succ j =>
        have hj : j < us.length := by simpa using h
        have := hp.1 us[j] (List.getElem_mem hj)
        simp only [List.getElem_cons_succ]
        omega
theorem best_split (s : Int) (c : Int → Int → Int) (fs us : List Int) (b0 : Int) (hs : 2 ≤ s) (hf : ∀ f ∈ fs, 0 ≤ f ∧ f < s) (hu : ∀ u, u ∈ us ↔ u ∈ fs ∧ u ≠ 0) (hp : us.Pairwise (· ≤ ·))
    (hc : ∀ a b a' b', 0 ≤ a → 0 ≤ b → a ≤ a' → b ≤ b' → c a b ≤ c a' b') (hb : s ≤ b0) (hz : b0 = s ∨ ∀ d, 0 ≤ d → d ≤ s → c d 0 ≤ s) : bestSp s c us b0 = bestTo s c fs := by
  have hup : ∀ k, k ≤ us.length → 0 ≤ upK us k ∧ upK us k < s := by
    intro k hk
    unfold upK
    by_cases h : 0 < k
    · rw [if_pos h, show ((k : Int) - 1) = ((k - 1 : Nat) : Int) by omega, rd_nat us (k - 1) (by omega)]
      exact hf _ ((hu _).1 (List.getElem_mem _)).1
    · rw [if_neg h]; omega
  have hdn : ∀ k, 0 ≤ downK s us k ∧ downK s us k ≤ s := by
    intro k
    unfold downK
    by_cases h : k < us.length
    · rw [if_pos h, rd_nat us k h]
      have := hf _ ((hu _).1 (List.getElem_mem h)).1
      omega
    · rw [if_neg h]; omega
  have hmono : ∀ i j (hi : i < us.length) (hj : j < us.length), i ≤ j → us[i] ≤ us[j] := by
    intro i j hi hj hij
    rcases Nat.lt_or_ge i j with h | h
    · exact List.pairwise_iff_getElem.1 hp i j hi hj h
    · have : i = j := by omega
      subst this
      exact Int.le_refl _
  apply Int.le_antisymm
  · -- the splits' least is no more
    unfold bestTo
    have H := (le_foldMin (fun k => c (downK s us k) (upK us k)) (bestSp s c us b0) (List.range (us.length + 1)) b0).1 (Int.le_refl _)
    rw [le_foldMin]
    constructor
    · rcases hz with rfl | hz
      · exact H.1
      · have h0 := H.2 0 (List.mem_range.2 (by omega))
        have := hz (downK s us 0) (hdn 0).1 (hdn 0).2
        have hu0 : upK us 0 = 0 := rfl
        rw [hu0] at h0
        omega
    · intro i hi
      obtain ⟨k, hk, h1, h2⟩ := part_at (i : Int) us hp
      have h3 := H.2 k (List.mem_range.2 (by omega))
      refine Int.le_trans h3 (hc _ _ _ _ (hdn k).1 (hup k hk).1 ?_ ?_)
      · unfold downK
        by_cases h : k < us.length
        · rw [if_pos h, rd_nat us k h]
          exact leftAt_ge ((hu _).1 (List.getElem_mem h)).1 (h2 k h (Nat.le_refl _))
        · rw [if_neg h]; exact leftAt_nn _ _ _
      · unfold upK
        by_cases h : 0 < k
        · rw [if_pos h, show ((k : Int) - 1) = ((k - 1 : Nat) : Int) by omega, rd_nat us (k - 1) (by omega)]
          exact h1 (k - 1) (by omega) (by omega)
        · rw [if_neg h]; omega
  · unfold bestSp
    have H := (le_foldMin (fun i : Nat => c (leftAt s fs (i : Int)) (i : Int)) (bestTo s c fs) (List.range s.toNat) s).1 (Int.le_refl _)
    rw [le_foldMin]
    refine ⟨Int.le_trans H.1 hb, fun k hk => ?_⟩
    have hk := List.mem_range.1 hk
    obtain ⟨u, hu0⟩ := Int.eq_ofNat_of_zero_le (hup k (by omega)).1
    have hlt := (hup k (by omega)).2
    have h3 := H.2 u (List.mem_range.2 (by omega))
    rw [← hu0] at h3
    refine Int.le_trans h3 (hc _ _ _ _ (leftAt_nn _ _ _) (hup k (by omega)).1 (leftAt_le (hdn k).1 (fun f hf1 hf2 => ?_)) (Int.le_refl _))
    have hfu : f ∈ us := (hu f).2 ⟨hf1, by have := (hup k (by omega)).1; omega⟩
    obtain ⟨j, hj, rfl⟩ := List.getElem_of_mem hfu
    have hkj : k ≤ j := by
      rcases Nat.lt_or_ge j k with h | h
      · exfalso
        have := hmono j (k - 1) hj (by omega) (by omega)
        unfold upK at hf2
        rw [if_pos (by omega), show ((k : Int) - 1) = ((k - 1 : Nat) : Int) by omega, rd_nat us (k - 1) (by omega)] at hf2
        omega
      · exact h
    unfold downK
    rw [if_pos (by omega), rd_nat us k (by omega)]
    have := hmono k j (by omega) hj hkj
    omega
theorem hi2_max (a b : Int) : hi2 a b = max a b := by unfold hi2; split <;> omega
theorem lo2_min (a b : Int) : lo2 a b = min a b := by unfold lo2; split <;> omega
theorem mx_max (a b : Int) : mx a b = max a b := by unfold mx; split <;> omega
theorem mn_min (a b : Int) : mn a b = min a b := by unfold mn; split <;> omega
theorem rd_all {P : Int → Prop} {l : List Int} (hx : ∀ x ∈ l, P x) (i : Nat) (h : i < l.length) : P (rd l (i : Int)) := by
  rw [rd_nat l i h]
  exact hx _ (List.getElem_mem h)
def upRing (s p q : Int) : Int := Int.tmod (q - p + s) s
theorem upRing_bd {s p q : Int} (hs : 2 ≤ s) (hp : 0 ≤ p ∧ p ≤ s - 1) (hq : 0 ≤ q ∧ q ≤ s - 1) : 0 ≤ upRing s p q ∧ upRing s p q < s := by
  unfold upRing
  rw [Int.tmod_eq_emod_of_nonneg (by omega)]
  exact ⟨Int.emod_nonneg _ (by omega), Int.emod_lt_of_pos _ (by omega)⟩
def costT (a b : Int) : Int := a + b + min a b
def costB (a b : Int) : Int := 2 * (a + b)
theorem costT_mono : ∀ a b a' b' : Int, 0 ≤ a → 0 ≤ b → a ≤ a' → b ≤ b' → costT a b ≤ costT a' b' := by
  intro a b a' b' _ _ _ _
  unfold costT
  omega
theorem costB_mono : ∀ a b a' b' : Int, 0 ≤ a → 0 ≤ b → a ≤ a' → b ≤ b' → costB a b ≤ costB a' b' := by
  intro a b a' b' _ _ _ _
  unfold costB
  omega
/-- Where the line's places lead to: left and right. -/
def leftL (p : Int) (l : List Int) (a : Int) : Int := l.foldl (fun m q => max m (p - q)) a
def rightL (p : Int) (l : List Int) (a : Int) : Int := l.foldl (fun m q => max m (q - p)) a
/-- The least time of a way through places: on a ring over all ways to the right. -/
def wayM (c : Int → Int → Int) (s : Int) (r : Bool) (p : Int) (l : List Int) : Int := if r = true then bestTo s c (l.map (upRing s p)) else c (leftL p l 0) (rightL p l 0)
def lfF (s p right : Int) (m q : Int) : Int := max m (if right < upRing s p q then s - upRing s p q else 0)
theorem leftAt_map (s p right : Int) (l : List Int) : leftAt s (l.map (upRing s p)) right = l.foldl (lfF s p right) 0 := by
  unfold leftAt
  rw [List.foldl_map]
  rfl
def bestR (s : Int) (c : Int → Int → Int) (p : Int) (l : List Int) (i d : Nat) (b : Int) : Int := (List.range' i d).foldl (fun (b : Int) (i : Nat) => min b (c (l.foldl (lfF s p (i : Int)) 0) (i : Int))) b
theorem bestR_succ (s : Int) (c : Int → Int → Int) (p : Int) (l : List Int) (i d : Nat) (b : Int) : bestR s c p l i (d + 1) b = bestR s c p l (i + 1) d (min b (c (l.foldl (lfF s p (i : Int)) 0) (i : Int))) := by
  unfold bestR
  rw [List.range'_succ, List.foldl_cons]
theorem bestR_all (s : Int) (c : Int → Int → Int) (p : Int) (l : List Int) : bestR s c p l 0 s.toNat s = bestTo s c (l.map (upRing s p)) := by
  unfold bestR bestTo
  rw [List.range_eq_range']
  congr 1
  funext b i
  rw [leftAt_map]
def bestK (s : Int) (c : Int → Int → Int) (us : List Int) (i d : Nat) (b : Int) : Int := (List.range' i d).foldl (fun (b : Int) (k : Nat) => min b (c (downK s us k) (upK us k))) b
theorem bestK_succ (s : Int) (c : Int → Int → Int) (us : List Int) (i d : Nat) (b : Int) : bestK s c us i (d + 1) b = bestK s c us (i + 1) d (min b (c (downK s us i) (upK us i))) := by
  unfold bestK
  rw [List.range'_succ, List.foldl_cons]
theorem bestK_all (s : Int) (c : Int → Int → Int) (us : List Int) (b : Int) : bestK s c us 0 (us.length + 1) b = bestSp s c us b := by
  unfold bestK bestSp
  rw [List.range_eq_range']
theorem spec_l2Far_eq (s : Int) (r : Bool) (p q : Int) (hs : 2 ≤ s ∧ s ≤ 24) (hp : 0 ≤ p ∧ p ≤ s - 1) (hq : 0 ≤ q ∧ q ≤ s - 1) : spec_l2Far.f s r p q = some (upRing s p q) := by
  unfold spec_l2Far.f upRing
  rw [if_neg (by omega), wrap64_id (x := q - p) (by omega) (by omega), wrap64_id (x := q - p + s) (by omega) (by omega)]
theorem spec_l2Tour_eq (a b : Int) (ha : 0 ≤ a ∧ a ≤ 1000) (hb : 0 ≤ b ∧ b ≤ 1000) : spec_l2Tour.f a b = some (costT a b) := by
  unfold spec_l2Tour.f costT
  rw [spec_l1Least_eq, Option.bind_some, lo2_min, wrap64_id (x := a + b) (by omega) (by omega), wrap64_id (by omega) (by omega)]
theorem spec_l6Back_l0 (p : Int) (l : List Int) (hp : 0 ≤ p ∧ p ≤ 23) (hl : l.length ≤ 1048576) (hx : ∀ x ∈ l, 0 ≤ x ∧ x ≤ 23) : ∀ (d i k : Nat) (a b : Int), i + d = l.length → 0 ≤ a ∧ a ≤ 23 → 0 ≤ b ∧ b ≤ 23 → d < k →
    spec_l6Back.l0 k p l a b (i : Int) = some (costB (leftL p (l.drop i) a) (rightL p (l.drop i) b))
  | 0, i, k, a, b, h, ha, hb, hk => by
    obtain ⟨k, rfl⟩ := succ_of (k := k) (by omega)
    simp only [spec_l6Back.l0]
    rw [if_neg (by omega), drop_end l i (by omega), wrap64_id (x := a + b) (by omega) (by omega), wrap64_id (by omega) (by omega)]
    rfl
  | d + 1, i, k, a, b, h, ha, hb, hk => by
    obtain ⟨k, rfl⟩ := succ_of (k := k) (by omega)
    have hq := rd_all hx i (by omega)
    simp only [spec_l6Back.l0]
    rw [if_pos (by omega), if_pos (by omega), wrap64_id (x := p - _) (by omega) (by omega), wrap64_id (x := _ - p) (by omega) (by omega), spec_l1Most_eq, Option.bind_some, spec_l1Most_eq, Option.bind_some, hi2_max, hi2_max, wrap_succ (n := l.length) (by omega) (by omega), spec_l6Back_l0 p l hp hl hx d (i + 1) k _ _ (by omega) (by omega) (by omega) (by omega), drop_rd l i (by omega)]
    rfl
theorem spec_l6Back_l2 (s : Int) (r : Bool) (p : Int) (l : List Int) (hs : 2 ≤ s ∧ s ≤ 24) (hp : 0 ≤ p ∧ p ≤ s - 1) (hl : l.length ≤ 1048576) (hx : ∀ x ∈ l, 0 ≤ x ∧ x ≤ s - 1) (best right : Int) (hr : 0 ≤ right ∧ right < s) : ∀ (d i k : Nat) (a : Int), i + d = l.length → 0 ≤ a ∧ a ≤ s →
    spec_l6Back.l2 (k + d + 1) p l best right a (i : Int) s r = spec_l6Back.l1 k p l (min best (costB ((l.drop i).foldl (lfF s p right) a) right)) (wrap64 (right + 1)) s r
  | 0, i, k, a, h, ha => by
    simp only [spec_l6Back.l2]
    rw [if_neg (by omega), drop_end l i (by omega), wrap64_id (x := a + right) (by omega) (by omega), wrap64_id (x := 2 * _) (by omega) (by omega), spec_l1Least_eq, Option.bind_some, lo2_min]
    rfl
  | d + 1, i, k, a, h, ha => by
    have hq := rd_all hx i (by omega)
    have hf := upRing_bd hs.1 hp hq
    have ih := spec_l6Back_l2 s r p l hs hp hl hx best right hr d (i + 1) k
    obtain ⟨m, hm⟩ : ∃ m, m = k + d + 1 := ⟨_, rfl⟩
    simp only [← hm] at ih
    rw [show k + (d + 1) + 1 = m + 1 by omega]
    simp only [spec_l6Back.l2]
    rw [if_pos (by omega), if_pos (by omega), spec_l2Far_eq s r p _ hs hp hq, Option.bind_some, wrap_succ (n := l.length) (by omega) (by omega), drop_rd l i (by omega), List.foldl_cons]
    by_cases c : upRing s p (rd l (i : Int)) > right
    · rw [if_pos c, wrap64_id (x := s - _) (by omega) (by omega), spec_l1Most_eq, Option.bind_some, hi2_max]
      have e := ih (max a (s - upRing s p (rd l (i : Int)))) (by omega) (by omega)
      rw [e]
      unfold lfF
      rw [if_pos (show right < upRing s p (rd l (i : Int)) from c)]
    · rw [if_neg c]
      have e := ih a (by omega) ha
      rw [e]
      have : lfF s p right a (rd l (i : Int)) = a := by
        unfold lfF
        rw [if_neg (show ¬ right < upRing s p (rd l (i : Int)) from c)]
        omega
      rw [this]
theorem spec_l6Back_l1 (s : Int) (r : Bool) (p : Int) (l : List Int) (hs : 2 ≤ s ∧ s ≤ 24) (hp : 0 ≤ p ∧ p ≤ s - 1) (hl : l.length ≤ 1048576) (hx : ∀ x ∈ l, 0 ≤ x ∧ x ≤ s - 1) : ∀ (d i k : Nat) (best : Int), i + d = s.toNat → d * (l.length + 2) < k →
    spec_l6Back.l1 k p l best (i : Int) s r = some (bestR s costB p l i d best)
  | 0, i, k, best, h, hk => by
    obtain ⟨k, rfl⟩ := succ_of (k := k) (by omega)
    simp only [spec_l6Back.l1]
    rw [if_neg (by omega)]
    rfl
  | d + 1, i, k, best, h, hk => by
    have hm : (d + 1) * (l.length + 2) = d * (l.length + 2) + l.length + 2 := by rw [Nat.succ_mul]; omega
    rw [hm] at hk
    obtain ⟨k, rfl⟩ : ∃ k', k = k' + l.length + 1 + 1 := ⟨k - l.length - 2, by omega⟩
    simp only [spec_l6Back.l1]
    rw [if_pos (by omega)]
    have e := spec_l6Back_l2 s r p l hs hp hl hx best (i : Int) (by omega) l.length 0 k 0 (by omega) (by omega)
    rw [show ((0 : Nat) : Int) = 0 from rfl, List.drop_zero] at e
    rw [e, wrap_succ (n := s.toNat) (by omega) (by omega), spec_l6Back_l1 s r p l hs hp hl hx d (i + 1) k _ (by omega) (by omega), bestR_succ]
theorem spec_l6Back_eq (k : Nat) (s : Int) (r : Bool) (p : Int) (l : List Int) (hs : 2 ≤ s ∧ s ≤ 24) (hp : 0 ≤ p ∧ p ≤ s - 1) (hl : l.length ≤ 100) (hx : ∀ x ∈ l, 0 ≤ x ∧ x ≤ s - 1) (hk : 10000 < k) : spec_l6Back.f k s r p l = some (wayM costB s r p l) := by
  unfold spec_l6Back.f wayM
  cases r with
  | true =>
    have h1 : s.toNat * (l.length + 2) ≤ 24 * 102 := Nat.mul_le_mul (by omega) (by omega)
    have e := spec_l6Back_l1 s true p l hs hp (by omega) hx s.toNat 0 k s (by omega) (by omega)
    rw [show ((0 : Nat) : Int) = 0 from rfl] at e
    simp only [if_true]
    rw [e, bestR_all]
  | false =>
    have e := spec_l6Back_l0 p l (by omega) (by omega) (fun x h => by have := hx x h; omega) l.length 0 k 0 0 (by omega) (by omega) (by omega) (by omega)
    rw [show ((0 : Nat) : Int) = 0 from rfl, List.drop_zero] at e
    rw [if_neg (by simp), if_neg (by simp), e]
theorem spec_TourTime_l1 (p : Int) (l : List Int) (hp : 0 ≤ p ∧ p ≤ 23) (hl : l.length ≤ 1048576) (hx : ∀ x ∈ l, 0 ≤ x ∧ x ≤ 23) : ∀ (d i k : Nat) (a b : Int), i + d = l.length → 0 ≤ a ∧ a ≤ 23 → 0 ≤ b ∧ b ≤ 23 → d < k →
    spec_TourTime.l1 k p l a b (i : Int) = some (costT (leftL p (l.drop i) a) (rightL p (l.drop i) b), true)
  | 0, i, k, a, b, h, ha, hb, hk => by
    obtain ⟨k, rfl⟩ := succ_of (k := k) (by omega)
    simp only [spec_TourTime.l1]
    rw [if_neg (by omega), drop_end l i (by omega), spec_l2Tour_eq a b (by omega) (by omega), Option.bind_some]
    rfl
  | d + 1, i, k, a, b, h, ha, hb, hk => by
    obtain ⟨k, rfl⟩ := succ_of (k := k) (by omega)
    have hq := rd_all hx i (by omega)
    simp only [spec_TourTime.l1]
    rw [if_pos (by omega), if_pos (by omega), wrap64_id (x := p - _) (by omega) (by omega), wrap64_id (x := _ - p) (by omega) (by omega), spec_l1Most_eq, Option.bind_some, spec_l1Most_eq, Option.bind_some, hi2_max, hi2_max, wrap_succ (n := l.length) (by omega) (by omega), spec_TourTime_l1 p l hp hl hx d (i + 1) k _ _ (by omega) (by omega) (by omega) (by omega), drop_rd l i (by omega)]
    rfl
theorem spec_TourTime_l3 (s : Int) (r : Bool) (p : Int) (l : List Int) (hs : 2 ≤ s ∧ s ≤ 24) (hp : 0 ≤ p ∧ p ≤ s - 1) (hl : l.length ≤ 1048576) (hx : ∀ x ∈ l, 0 ≤ x ∧ x ≤ s - 1) (best right : Int) (hr : 0 ≤ right ∧ right < s) : ∀ (d i k : Nat) (a : Int), i + d = l.length → 0 ≤ a ∧ a ≤ s →
    spec_TourTime.l3 (k + d + 1) p l best right a (i : Int) s r = spec_TourTime.l2 k p l (min best (costT ((l.drop i).foldl (lfF s p right) a) right)) (wrap64 (right + 1)) s r
  | 0, i, k, a, h, ha => by
    simp only [spec_TourTime.l3]
    rw [if_neg (by omega), drop_end l i (by omega), spec_l2Tour_eq a right (by omega) (by omega), Option.bind_some, spec_l1Least_eq, Option.bind_some, lo2_min]
    rfl
  | d + 1, i, k, a, h, ha => by
    have hq := rd_all hx i (by omega)
    have hf := upRing_bd hs.1 hp hq
    have ih := spec_TourTime_l3 s r p l hs hp hl hx best right hr d (i + 1) k
    obtain ⟨m, hm⟩ : ∃ m, m = k + d + 1 := ⟨_, rfl⟩
    simp only [← hm] at ih
    rw [show k + (d + 1) + 1 = m + 1 by omega]
    simp only [spec_TourTime.l3]
    rw [if_pos (by omega), if_pos (by omega), spec_l2Far_eq s r p _ hs hp hq, Option.bind_some, wrap_succ (n := l.length) (by omega) (by omega), drop_rd l i (by omega), List.foldl_cons]
    by_cases c : upRing s p (rd l (i : Int)) > right
    · rw [if_pos c, wrap64_id (x := s - _) (by omega) (by omega), spec_l1Most_eq, Option.bind_some, hi2_max]
      have e := ih (max a (s - upRing s p (rd l (i : Int)))) (by omega) (by omega)
      rw [e]
      unfold lfF
      rw [if_pos (show right < upRing s p (rd l (i : Int)) from c)]
    · rw [if_neg c]
      have e := ih a (by omega) ha
      rw [e]
      have : lfF s p right a (rd l (i : Int)) = a := by
        unfold lfF
        rw [if_neg (show ¬ right < upRing s p (rd l (i : Int)) from c)]
        omega
      rw [this]
theorem spec_TourTime_l2 (s : Int) (r : Bool) (p : Int) (l : List Int) (hs : 2 ≤ s ∧ s ≤ 24) (hp : 0 ≤ p ∧ p ≤ s - 1) (hl : l.length ≤ 1048576) (hx : ∀ x ∈ l, 0 ≤ x ∧ x ≤ s - 1) : ∀ (d i k : Nat) (best : Int), i + d = s.toNat → d * (l.length + 2) < k →
    spec_TourTime.l2 k p l best (i : Int) s r = some (bestR s costT p l i d best, true)
  | 0, i, k, best, h, hk => by
    obtain ⟨k, rfl⟩ := succ_of (k := k) (by omega)
    simp only [spec_TourTime.l2]
    rw [if_neg (by omega)]
    rfl
  | d + 1, i, k, best, h, hk => by
    have hm : (d + 1) * (l.length + 2) = d * (l.length + 2) + l.length + 2 := by rw [Nat.succ_mul]; omega
    rw [hm] at hk
    obtain ⟨k, rfl⟩ : ∃ k', k = k' + l.length + 1 + 1 := ⟨k - l.length - 2, by omega⟩
    simp only [spec_TourTime.l2]
    rw [if_pos (by omega)]
    have e := spec_TourTime_l3 s r p l hs hp hl hx best (i : Int) (by omega) l.length 0 k 0 (by omega) (by omega)
    rw [show ((0 : Nat) : Int) = 0 from rfl, List.drop_zero] at e
    rw [e, wrap_succ (n := s.toNat) (by omega) (by omega), spec_TourTime_l2 s r p l hs hp hl hx d (i + 1) k _ (by omega) (by omega), bestR_succ]
theorem spec_TourTime_l0 (s : Int) (r : Bool) (p : Int) (l : List Int) (hr : road s r = true) (hp : 0 ≤ p ∧ p ≤ s - 1) (hl : l.length ≤ 1048576) : ∀ (d i k : Nat), i + d = l.length → d + 30 * (l.length + 2) < k → (∀ j, j < i → inR (rd l (j : Int)) 0 (s - 1) = true) →
    spec_TourTime.l0 k p l (i : Int) s r = some (if allIn l 0 (s - 1) = true then (wayM costT s r p l, true) else (0, false))
  | 0, i, k, h, hk, hin => by
    obtain ⟨k, rfl⟩ := succ_of (k := k) (by omega)
    have hs := road_bd hr
    have hx : ∀ x ∈ l, 0 ≤ x ∧ x ≤ s - 1 := by
      intro x hx
      obtain ⟨j, hj, rfl⟩ := List.getElem_of_mem hx
      have := inR_iff.1 (hin j (by omega))
      rw [rd_nat l j hj] at this
      exact this
    have ha : allIn l 0 (s - 1) = true := List.all_eq_true.2 (fun x h => inR_iff.2 (hx x h))
    simp only [spec_TourTime.l0]
    rw [if_neg (by omega), if_pos ha]
    unfold wayM
    cases r with
    | true =>
      have h1 : s.toNat * (l.length + 2) ≤ 24 * (l.length + 2) := Nat.mul_le_mul (by omega) (by omega)
      have e := spec_TourTime_l2 s true p l ⟨hs.1, hs.2.1⟩ hp hl hx s.toNat 0 k s (by omega) (by omega)
      rw [show ((0 : Nat) : Int) = 0 from rfl] at e
      simp only [if_true]
      rw [e, bestR_all]
    | false =>
      have e := spec_TourTime_l1 p l (by omega) hl (fun x h => by have := hx x h; omega) l.length 0 k 0 0 (by omega) (by omega) (by omega) (by omega)
      rw [show ((0 : Nat) : Int) = 0 from rfl, List.drop_zero] at e
      rw [if_neg (by simp), if_neg (by simp), e]
  | d + 1, i, k, h, hk, hin => by
    obtain ⟨k, rfl⟩ := succ_of (k := k) (by omega)
    have hs := road_bd hr
    simp only [spec_TourTime.l0]
    rw [if_pos (by omega), if_pos (by omega), spec_l2Place_eq, Option.bind_some, hr, Bool.true_and]
    by_cases c : inR (rd l (i : Int)) 0 (s - 1) = true
    · rw [if_pos c, wrap_succ (n := l.length) (by omega) (by omega)]
      exact spec_TourTime_l0 s r p l hr hp hl d (i + 1) k (by omega) (by omega) (fun j hj => by
        rcases Nat.lt_or_ge j i with h1 | h1
        · exact hin j h1
        · have : j = i := by omega
          subst this
          exact c)
    · rw [if_neg c, if_neg]
      intro ha
      have := List.all_eq_true.1 ha _ (List.getElem_mem (show i < l.length by omega))
      rw [rd_nat l i (by omega)] at c
      exact c this
theorem spec_TourTime_eq (k : Nat) (s : Int) (r : Bool) (p : Int) (l : List Int) (hl : l.length ≤ 1048576) (hk : 31 * (l.length + 2) < k) : spec_TourTime.f k s r p l = some (if (road s r && inR p 0 (s - 1) && allIn l 0 (s - 1)) = true then (wayM costT s r p l, true) else (0, false)) := by
  unfold spec_TourTime.f
  rw [spec_l2Place_eq, Option.bind_some]
  cases hr : road s r with
  | false => simp
  | true =>
    cases hp : inR p 0 (s - 1) with
    | false => simp
    | true =>
      have e := spec_TourTime_l0 s r p l hr (inR_iff.1 hp) hl l.length 0 k (by omega) (by omega) (fun j hj => by omega)
      rw [show ((0 : Nat) : Int) = 0 from rfl] at e
      simp only [Bool.and_self, if_true, Bool.true_and]
      rw [e]
def upM (s : Int) (r : Bool) (p q : Int) : Int := if r = true then upRing s p q else q - p
theorem upM_bd {s p q : Int} {r : Bool} (hs : 2 ≤ s) (hp : 0 ≤ p ∧ p ≤ s - 1) (hq : 0 ≤ q ∧ q ≤ s - 1) : -s ≤ upM s r p q ∧ upM s r p q < s := by
  unfold upM
  have := upRing_bd hs hp hq
  cases r <;> simp <;> omega
def upF (us : List Int) (a : Int) : Int := us.foldl (fun m u => max m u) a
def dnF (us : List Int) (a : Int) : Int := us.foldl (fun m u => max m (-u)) a
theorem downK_bd {s : Int} {us : List Int} (hs : 2 ≤ s) (hu : ∀ u ∈ us, 0 ≤ u ∧ u ≤ s - 1) (k : Nat) : 0 ≤ downK s us k ∧ downK s us k ≤ s := by
  unfold downK
  by_cases h : k < us.length
  · have := rd_all hu k h
    rw [if_pos h]
    omega
  · rw [if_neg h]; omega
theorem upK_bd {s : Int} {us : List Int} (hs : 2 ≤ s) (hu : ∀ u ∈ us, 0 ≤ u ∧ u ≤ s - 1) (k : Nat) (hk : k ≤ us.length) : 0 ≤ upK us k ∧ upK us k ≤ s := by
  unfold upK
  by_cases h : 0 < k
  · have := rd_all hu (k - 1) (by omega)
    rw [if_pos h, show ((k : Int) - 1) = ((k - 1 : Nat) : Int) by omega]
    omega
  · rw [if_neg h]; omega
theorem sortI_len (l : List Int) : (sortI l).length = l.length := List.length_mergeSort _
theorem sortI_mem (l : List Int) (x : Int) : x ∈ sortI l ↔ x ∈ l := (List.mergeSort_perm l _).mem_iff
theorem sortI_sorted (l : List Int) : (sortI l).Pairwise (· ≤ ·) := by
  have h := List.pairwise_mergeSort (le := fun x y : Int => decide (x ≤ y)) (fun a b c hab hbc => by simp at hab hbc ⊢; omega) (fun a b => by simp; omega) l
  exact h.imp (fun h => by simpa using h)
/-- What the places in order come to. -/
theorem ways_sorted (c : Int → Int → Int) (s : Int) (p : Int) (l : List Int) (b0 : Int) (hs : 2 ≤ s) (hp : 0 ≤ p ∧ p ≤ s - 1) (hx : ∀ x ∈ l, 0 ≤ x ∧ x ≤ s - 1)
    (hc : ∀ a b a' b', 0 ≤ a → 0 ≤ b → a ≤ a' → b ≤ b' → c a b ≤ c a' b') (hb : s ≤ b0) (hz : b0 = s ∨ ∀ d, 0 ≤ d → d ≤ s → c d 0 ≤ s) :
    bestSp s c ((sortI (l.map (upM s true p))).filter fun x => !(x == 0)) b0 = wayM c s true p l := by
  have hm : l.map (upM s true p) = l.map (upRing s p) := rfl
  unfold wayM
  rw [if_pos rfl, hm]
  refine best_split s c (l.map (upRing s p)) _ b0 hs (fun f hf => ?_) (fun u => ?_) ?_ hc hb hz
  · obtain ⟨q, hq, rfl⟩ := List.mem_map.1 hf
    exact upRing_bd hs hp (hx q hq)
  · rw [List.mem_filter, sortI_mem]
    simp
  · exact (sortI_sorted _).filter _
theorem ways_line (c : Int → Int → Int) (s p : Int) (l : List Int) : c (dnF (sortI (l.map (upM s false p))) 0) (upF (sortI (l.map (upM s false p))) 0) = wayM c s false p l := by
  unfold wayM
  rw [if_neg (by simp)]
  have h1 : dnF (sortI (l.map (upM s false p))) 0 = leftL p l 0 := by
    unfold dnF leftL
    rw [foldMax_perm (fun u => -u) (fun i => sortI_mem (l.map (upM s false p)) i), List.foldl_map]
    congr 1
    funext m q
    show max m (-(q - p)) = max m (p - q)
    rw [Int.neg_sub]
  have h2 : upF (sortI (l.map (upM s false p))) 0 = rightL p l 0 := by
    unfold upF rightL
    rw [foldMax_perm (fun u => u) (fun i => sortI_mem (l.map (upM s false p)) i), List.foldl_map]
    rfl
  rw [h1, h2]
theorem impl_Road_roundTrip_1_eq (s : Int) (r : Bool) (p q : Int) (hs : 2 ≤ s ∧ s ≤ 24) (hp : 0 ≤ p ∧ p ≤ s - 1) (hq : 0 ≤ q ∧ q ≤ s - 1) : impl_Road_roundTrip_1.f q s r p = some (upM s r p q) := by
  unfold impl_Road_roundTrip_1.f upM upRing
  rw [if_neg (show ¬ s = 0 by omega), wrap64_id (x := q - p) (by omega) (by omega), wrap64_id (x := q - p + s) (by omega) (by omega)]
  cases r <;> simp
theorem impl_mapped_roundTrip_l0 (s : Int) (r : Bool) (p : Int) (l : List Int) (hs : 2 ≤ s ∧ s ≤ 24) (hp : 0 ≤ p ∧ p ≤ s - 1) (hl : l.length ≤ 1048576) (hx : ∀ x ∈ l, 0 ≤ x ∧ x ≤ s - 1) : ∀ (d i k : Nat) (acc : List Int), i + d = l.length → acc.length ≤ i → d < k →
    impl_mapped__Road_roundTrip_1.l0 k acc l (l.length : Int) (i : Int) s r p = some (acc ++ (l.drop i).map (upM s r p))
  | 0, i, k, acc, h, ha, hk => by
    obtain ⟨k, rfl⟩ := succ_of (k := k) (by omega)
    simp only [impl_mapped__Road_roundTrip_1.l0]
    rw [if_neg (by omega), drop_end l i (by omega)]
    simp
  | d + 1, i, k, acc, h, ha, hk => by
    obtain ⟨k, rfl⟩ := succ_of (k := k) (by omega)
    have hq := rd_all hx i (by omega)
    simp only [impl_mapped__Road_roundTrip_1.l0]
    rw [if_pos (by omega), if_pos (by omega), if_pos (by omega), impl_Road_roundTrip_1_eq s r p _ hs hp hq, Option.bind_some, if_pos (by omega), wrap_succ (n := l.length) (by omega) (by omega), impl_mapped_roundTrip_l0 s r p l hs hp hl hx d (i + 1) k _ (by omega) (by simp; omega) (by omega), drop_rd l i (by omega)]
    simp
theorem impl_mapped_roundTrip_eq (k : Nat) (s : Int) (r : Bool) (p : Int) (l : List Int) (hs : 2 ≤ s ∧ s ≤ 24) (hp : 0 ≤ p ∧ p ≤ s - 1) (hl : l.length ≤ 1048576) (hx : ∀ x ∈ l, 0 ≤ x ∧ x ≤ s - 1) (hk : l.length < k) : impl_mapped__Road_roundTrip_1.f k l s r p = some (l.map (upM s r p)) := by
  unfold impl_mapped__Road_roundTrip_1.f
  have := impl_mapped_roundTrip_l0 s r p l hs hp hl hx l.length 0 k [] (by omega) (by simp) hk
  simpa using this
theorem impl_Road_roundTrip_l0 (us : List Int) (hl : us.length ≤ 1048576) (hu : ∀ u ∈ us, -24 ≤ u ∧ u ≤ 24) : ∀ (d i k : Nat) (a b : Int), i + d = us.length → 0 ≤ a ∧ a ≤ 24 → 0 ≤ b ∧ b ≤ 24 → d < k →
    impl_Road_roundTrip.l0 k a b us (us.length : Int) (i : Int) = some (costB (dnF (us.drop i) b) (upF (us.drop i) a))
  | 0, i, k, a, b, h, ha, hb, hk => by
    obtain ⟨k, rfl⟩ := succ_of (k := k) (by omega)
    simp only [impl_Road_roundTrip.l0]
    rw [if_neg (by omega), drop_end us i (by omega), wrap64_id (x := a + b) (by omega) (by omega), wrap64_id (by omega) (by omega), show 2 * (a + b) = costB b a by unfold costB; omega]
    rfl
  | d + 1, i, k, a, b, h, ha, hb, hk => by
    obtain ⟨k, rfl⟩ := succ_of (k := k) (by omega)
    have hq := rd_all hu i (by omega)
    simp only [impl_Road_roundTrip.l0]
    rw [if_pos (by omega), if_pos (by omega), if_pos (by omega), wrap64_id (x := -_) (by omega) (by omega), mx_max, mx_max, wrap_succ (n := us.length) (by omega) (by omega), impl_Road_roundTrip_l0 us hl hu d (i + 1) k _ _ (by omega) (by omega) (by omega) (by omega), drop_rd us i (by omega)]
    rfl
theorem impl_Road_roundTrip_l1 (s : Int) (r : Bool) (us : List Int) (hs : 2 ≤ s ∧ s ≤ 24) (hl : us.length ≤ 1048576) (hu : ∀ u ∈ us, 0 ≤ u ∧ u ≤ s - 1) : ∀ (d i k : Nat) (best : Int), i + d = us.length + 1 → d < k →
    impl_Road_roundTrip.l1 k us best ((us.length : Int) + 1) (i : Int) s r = some (bestK s costB us i d best)
  | 0, i, k, best, h, hk => by
    obtain ⟨k, rfl⟩ := succ_of (k := k) (by omega)
    simp only [impl_Road_roundTrip.l1]
    rw [if_neg (by omega)]
    rfl
  | d + 1, i, k, best, h, hk => by
    obtain ⟨k, rfl⟩ := succ_of (k := k) (by omega)
    have hdn := downK_bd hs.1 hu i
    have hup := upK_bd hs.1 hu i (by omega)
    have ih := impl_Road_roundTrip_l1 s r us hs hl hu d (i + 1) k (min best (costB (downK s us i) (upK us i))) (by omega) (by omega)
    simp only [impl_Road_roundTrip.l1]
    rw [if_pos (by omega), bestK_succ, wrap_succ (n := us.length + 1) (by omega) (by omega)]
    by_cases c : (i : Int) > 0
    · have e : upK us i = rd us ((i : Int) - 1) := by unfold upK; rw [if_pos (by omega)]
      rw [if_pos c, wrap64_id (x := (i : Int) - 1) (by omega) (by omega), if_pos (by omega), if_pos (by omega), ← e]
      by_cases c2 : (i : Int) < (us.length : Int)
      · have e2 : downK s us i = s - rd us (i : Int) := by unfold downK; rw [if_pos (by omega)]
        have hq := rd_all hu i (by omega)
        rw [if_pos c2, if_pos (by omega), wrap64_id (x := s - _) (by omega) (by omega), ← e2, wrap64_id (x := upK us i + downK s us i) (by omega) (by omega), wrap64_id (x := 2 * _) (by omega) (by omega), show 2 * (upK us i + downK s us i) = costB (downK s us i) (upK us i) by unfold costB; omega, mn_min]
        exact ih
      · have e2 : downK s us i = 0 := by unfold downK; rw [if_neg (by omega)]
        rw [e2] at ih ⊢
        rw [if_neg c2, wrap64_id (x := upK us i) (by omega) (by omega), wrap64_id (x := 2 * _) (by omega) (by omega), show 2 * upK us i = costB 0 (upK us i) by unfold costB; omega, mn_min]
        exact ih
    · have e : upK us i = 0 := by unfold upK; rw [if_neg (by omega)]
      rw [e] at ih ⊢
      rw [if_neg c]
      by_cases c2 : (i : Int) < (us.length : Int)
      · have e2 : downK s us i = s - rd us (i : Int) := by unfold downK; rw [if_pos (by omega)]
        have hq := rd_all hu i (by omega)
        rw [if_pos c2, if_pos (by omega), wrap64_id (x := s - _) (by omega) (by omega), ← e2, wrap64_id (x := downK s us i) (by omega) (by omega), wrap64_id (x := 2 * _) (by omega) (by omega), show 2 * downK s us i = costB (downK s us i) 0 by unfold costB; omega, mn_min]
        exact ih
      · have e2 : downK s us i = 0 := by unfold downK; rw [if_neg (by omega)]
        rw [e2] at ih ⊢
        rw [if_neg c2, show (0 : Int) = costB 0 0 from rfl, mn_min]
        exact ih
theorem impl_Road_roundTrip_eq (k : Nat) (s : Int) (r : Bool) (p : Int) (l : List Int) (hs : 2 ≤ s ∧ s ≤ 24) (hp : 0 ≤ p ∧ p ≤ s - 1) (hl : l.length ≤ 100000) (hx : ∀ x ∈ l, 0 ≤ x ∧ x ≤ s - 1) (hk : l.length + 10 < k) : impl_Road_roundTrip.f k s r p l = some (wayM costB s r p l) := by
  unfold impl_Road_roundTrip.f
  have hub : ∀ u ∈ sortI (l.map (upM s r p)), -s ≤ u ∧ u < s := fun u h => by
    obtain ⟨q, hq, rfl⟩ := List.mem_map.1 ((sortI_mem _ _).1 h)
    exact upM_bd hs.1 hp (hx q hq)
  have hlen : (sortI (l.map (upM s r p))).length = l.length := by rw [sortI_len, List.length_map]
  rw [impl_mapped_roundTrip_eq k s r p l hs hp (by omega) hx (by omega), Option.bind_some]
  unfold slices_Sort_int_int.f
  rw [if_pos (by rw [List.length_map]; omega), Option.bind_some]
  obtain ⟨k, rfl⟩ := succ_of (k := k) (by omega)
  cases r with
  | true =>
    rw [if_pos rfl]
    unfold slices_DeleteFunc_int_int___Road_roundTrip_2.f
    rw [Option.bind_some]
    simp only [impl_Road_roundTrip.j0]
    rw [if_pos trivial]
    have hl2 : ((sortI (l.map (upM s true p))).filter fun x => !(x == 0)).length ≤ l.length := Nat.le_trans (List.length_filter_le _ _) (by omega)
    have hu2 : ∀ u ∈ ((sortI (l.map (upM s true p))).filter fun x => !(x == 0)), 0 ≤ u ∧ u ≤ s - 1 := fun u h => by
      obtain ⟨q, hq, rfl⟩ := List.mem_map.1 ((sortI_mem _ _).1 (List.mem_filter.1 h).1)
      have := upRing_bd hs.1 hp (hx q hq)
      show 0 ≤ upRing s p q ∧ upRing s p q ≤ s - 1
      omega
    have e := impl_Road_roundTrip_l1 s true _ hs (by omega) hu2 (((sortI (l.map (upM s true p))).filter fun x => !(x == 0)).length + 1) 0 k s (by omega) (by omega)
    rw [bestK_all, ways_sorted costB s p l s hs.1 hp hx costB_mono (Int.le_refl _) (.inl rfl)] at e
    rw [wrap64_id (by omega) (by omega)]
    exact e
  | false =>
    rw [if_neg (by simp)]
    simp only [impl_Road_roundTrip.j0]
    rw [if_neg (by simp)]
    have e := impl_Road_roundTrip_l0 (sortI (l.map (upM s false p))) (by omega) (fun u h => by have := hub u h; omega) (sortI (l.map (upM s false p))).length 0 k 0 0 (by omega) (by omega) (by omega) (by omega)
    rw [show ((0 : Nat) : Int) = 0 from rfl, List.drop_zero, ways_line costB s p l] at e
    exact e
theorem impl_Road_tour_1_eq (s : Int) (r : Bool) (p q : Int) (hs : 2 ≤ s ∧ s ≤ 24) (hp : 0 ≤ p ∧ p ≤ s - 1) (hq : 0 ≤ q ∧ q ≤ s - 1) : impl_Road_tour_1.f q s r p = some (upM s r p q) := by
  unfold impl_Road_tour_1.f upM upRing
  rw [if_neg (show ¬ s = 0 by omega), wrap64_id (x := q - p) (by omega) (by omega), wrap64_id (x := q - p + s) (by omega) (by omega)]
  cases r <;> simp
theorem impl_mapped_tour_l0 (s : Int) (r : Bool) (p : Int) (l : List Int) (hs : 2 ≤ s ∧ s ≤ 24) (hp : 0 ≤ p ∧ p ≤ s - 1) (hl : l.length ≤ 1048576) (hx : ∀ x ∈ l, 0 ≤ x ∧ x ≤ s - 1) : ∀ (d i k : Nat) (acc : List Int), i + d = l.length → acc.length ≤ i → d < k →
    impl_mapped__Road_tour_1.l0 k acc l (l.length : Int) (i : Int) s r p = some (acc ++ (l.drop i).map (upM s r p))
  | 0, i, k, acc, h, ha, hk => by
    obtain ⟨k, rfl⟩ := succ_of (k := k) (by omega)
    simp only [impl_mapped__Road_tour_1.l0]
    rw [if_neg (by omega), drop_end l i (by omega)]
    simp
  | d + 1, i, k, acc, h, ha, hk => by
    obtain ⟨k, rfl⟩ := succ_of (k := k) (by omega)
    have hq := rd_all hx i (by omega)
    simp only [impl_mapped__Road_tour_1.l0]
    rw [if_pos (by omega), if_pos (by omega), if_pos (by omega), impl_Road_tour_1_eq s r p _ hs hp hq, Option.bind_some, if_pos (by omega), wrap_succ (n := l.length) (by omega) (by omega), impl_mapped_tour_l0 s r p l hs hp hl hx d (i + 1) k _ (by omega) (by simp; omega) (by omega), drop_rd l i (by omega)]
    simp
theorem impl_mapped_tour_eq (k : Nat) (s : Int) (r : Bool) (p : Int) (l : List Int) (hs : 2 ≤ s ∧ s ≤ 24) (hp : 0 ≤ p ∧ p ≤ s - 1) (hl : l.length ≤ 1048576) (hx : ∀ x ∈ l, 0 ≤ x ∧ x ≤ s - 1) (hk : l.length < k) : impl_mapped__Road_tour_1.f k l s r p = some (l.map (upM s r p)) := by
  unfold impl_mapped__Road_tour_1.f
  have := impl_mapped_tour_l0 s r p l hs hp hl hx l.length 0 k [] (by omega) (by simp) hk
  simpa using this
theorem impl_Road_tour_3_eq (a b : Int) (ha : 0 ≤ a ∧ a ≤ 1000) (hb : 0 ≤ b ∧ b ≤ 1000) : impl_Road_tour_3.f a b = some (costT b a) := by
  unfold impl_Road_tour_3.f costT
  rw [mn_min, wrap64_id (x := a + b) (by omega) (by omega), wrap64_id (by omega) (by omega)]
  congr 1
  omega
theorem impl_Road_tour_l0 (us : List Int) (hl : us.length ≤ 1048576) (hu : ∀ u ∈ us, -24 ≤ u ∧ u ≤ 24) : ∀ (d i k : Nat) (a b : Int), i + d = us.length → 0 ≤ a ∧ a ≤ 24 → 0 ≤ b ∧ b ≤ 24 → d < k →
    impl_Road_tour.l0 k a b us (us.length : Int) (i : Int) = some (costT (dnF (us.drop i) b) (upF (us.drop i) a))
  | 0, i, k, a, b, h, ha, hb, hk => by
    obtain ⟨k, rfl⟩ := succ_of (k := k) (by omega)
    simp only [impl_Road_tour.l0]
    rw [if_neg (by omega), drop_end us i (by omega), impl_Road_tour_3_eq a b (by omega) (by omega), Option.bind_some]
    rfl
  | d + 1, i, k, a, b, h, ha, hb, hk => by
    obtain ⟨k, rfl⟩ := succ_of (k := k) (by omega)
    have hq := rd_all hu i (by omega)
    simp only [impl_Road_tour.l0]
    rw [if_pos (by omega), if_pos (by omega), if_pos (by omega), wrap64_id (x := -_) (by omega) (by omega), mx_max, mx_max, wrap_succ (n := us.length) (by omega) (by omega), impl_Road_tour_l0 us hl hu d (i + 1) k _ _ (by omega) (by omega) (by omega) (by omega), drop_rd us i (by omega)]
    rfl
theorem impl_Road_tour_l1 (s : Int) (r : Bool) (us : List Int) (hs : 2 ≤ s ∧ s ≤ 24) (hl : us.length ≤ 1048576) (hu : ∀ u ∈ us, 0 ≤ u ∧ u ≤ s - 1) : ∀ (d i k : Nat) (best : Int), i + d = us.length + 1 → d < k →
    impl_Road_tour.l1 k us best ((us.length : Int) + 1) (i : Int) s r = some (bestK s costT us i d best)
  | 0, i, k, best, h, hk => by
    obtain ⟨k, rfl⟩ := succ_of (k := k) (by omega)
    simp only [impl_Road_tour.l1]
    rw [if_neg (by omega)]
    rfl
  | d + 1, i, k, best, h, hk => by
    obtain ⟨k, rfl⟩ := succ_of (k := k) (by omega)
    have hdn := downK_bd hs.1 hu i
    have hup := upK_bd hs.1 hu i (by omega)
    have ih := impl_Road_tour_l1 s r us hs hl hu d (i + 1) k (min best (costT (downK s us i) (upK us i))) (by omega) (by omega)
    simp only [impl_Road_tour.l1]
    rw [if_pos (by omega), bestK_succ, wrap_succ (n := us.length + 1) (by omega) (by omega)]
    by_cases c : (i : Int) > 0
    · have e : upK us i = rd us ((i : Int) - 1) := by unfold upK; rw [if_pos (by omega)]
      rw [if_pos c, wrap64_id (x := (i : Int) - 1) (by omega) (by omega), if_pos (by omega), if_pos (by omega), ← e]
      by_cases c2 : (i : Int) < (us.length : Int)
      · have e2 : downK s us i = s - rd us (i : Int) := by unfold downK; rw [if_pos (by omega)]
        have hq := rd_all hu i (by omega)
        rw [if_pos c2, if_pos (by omega), wrap64_id (x := s - _) (by omega) (by omega), ← e2, impl_Road_tour_3_eq _ _ (by omega) (by omega), Option.bind_some, mn_min]
        exact ih
      · have e2 : downK s us i = 0 := by unfold downK; rw [if_neg (by omega)]
        rw [e2] at ih ⊢
        rw [if_neg c2, impl_Road_tour_3_eq _ _ (by omega) (by omega), Option.bind_some, mn_min]
        exact ih
    · have e : upK us i = 0 := by unfold upK; rw [if_neg (by omega)]
      rw [e] at ih ⊢
      rw [if_neg c]
      by_cases c2 : (i : Int) < (us.length : Int)
      · have e2 : downK s us i = s - rd us (i : Int) := by unfold downK; rw [if_pos (by omega)]
        have hq := rd_all hu i (by omega)
        rw [if_pos c2, if_pos (by omega), wrap64_id (x := s - _) (by omega) (by omega), ← e2, impl_Road_tour_3_eq _ _ (by omega) (by omega), Option.bind_some, mn_min]
        exact ih
      · have e2 : downK s us i = 0 := by unfold downK; rw [if_neg (by omega)]
        rw [e2] at ih ⊢
        rw [if_neg c2, impl_Road_tour_3_eq _ _ (by omega) (by omega), Option.bind_some, mn_min]
        exact ih
theorem impl_Road_tour_eq (k : Nat) (s : Int) (r : Bool) (p : Int) (l : List Int) (hs : 2 ≤ s ∧ s ≤ 24) (hp : 0 ≤ p ∧ p ≤ s - 1) (hl : l.length ≤ 100000) (hx : ∀ x ∈ l, 0 ≤ x ∧ x ≤ s - 1) (hk : l.length + 10 < k) : impl_Road_tour.f k s r p l = some (wayM costT s r p l) := by
  unfold impl_Road_tour.f
  have hub : ∀ u ∈ sortI (l.map (upM s r p)), -s ≤ u ∧ u < s := fun u h => by
    obtain ⟨q, hq, rfl⟩ := List.mem_map.1 ((sortI_mem _ _).1 h)
    exact upM_bd hs.1 hp (hx q hq)
  have hlen : (sortI (l.map (upM s r p))).length = l.length := by rw [sortI_len, List.length_map]
  rw [impl_mapped_tour_eq k s r p l hs hp (by omega) hx (by omega), Option.bind_some]
  unfold slices_Sort_int_int.f
  rw [if_pos (by rw [List.length_map]; omega), Option.bind_some]
  obtain ⟨k, rfl⟩ := succ_of (k := k) (by omega)
  cases r with
  | true =>
    rw [if_pos rfl]
    unfold slices_DeleteFunc_int_int___Road_tour_2.f
    rw [Option.bind_some]
    simp only [impl_Road_tour.j0]
    rw [if_pos trivial]
    have hl2 : ((sortI (l.map (upM s true p))).filter fun x => !(x == 0)).length ≤ l.length := Nat.le_trans (List.length_filter_le _ _) (by omega)
    have hu2 : ∀ u ∈ ((sortI (l.map (upM s true p))).filter fun x => !(x == 0)), 0 ≤ u ∧ u ≤ s - 1 := fun u h => by
      obtain ⟨q, hq, rfl⟩ := List.mem_map.1 ((sortI_mem _ _).1 (List.mem_filter.1 h).1)
      have := upRing_bd hs.1 hp (hx q hq)
      show 0 ≤ upRing s p q ∧ upRing s p q ≤ s - 1
      omega
    have e := impl_Road_tour_l1 s true _ hs (by omega) hu2 (((sortI (l.map (upM s true p))).filter fun x => !(x == 0)).length + 1) 0 k 60 (by omega) (by omega)
    rw [bestK_all, ways_sorted costT s p l 60 hs.1 hp hx costT_mono (by omega) (.inr (fun d h0 h1 => by unfold costT; omega))] at e
    rw [wrap64_id (by omega) (by omega)]
    exact e
  | false =>
    rw [if_neg (by simp)]
    simp only [impl_Road_tour.j0]
    rw [if_neg (by simp)]
    have e := impl_Road_tour_l0 (sortI (l.map (upM s false p))) (by omega) (fun u h => by have := hub u h; omega) (sortI (l.map (upM s false p))).length 0 k 0 0 (by omega) (by omega) (by omega) (by omega)
    rw [show ((0 : Nat) : Int) = 0 from rfl, List.drop_zero, ways_line costT s p l] at e
    exact e
def timeM (s : Int) (r : Bool) (p x : Int) (n : Nat) (back : Bool) : Int := wayM (if back = true then costB else costT) s r p (runL s x n)
theorem runL_in {s x : Int} {n : Nat} (hs : 2 ≤ s) (hx : 0 ≤ x) : ∀ y ∈ runL s x n, 0 ≤ y ∧ y ≤ s - 1 := by
  intro y hy
  unfold runL at hy
  obtain ⟨i, _, rfl⟩ := List.mem_map.1 hy
  rw [Int.tmod_eq_emod_of_nonneg (by omega)]
  have h1 := Int.emod_nonneg (x + (i : Int)) (show s ≠ 0 by omega)
  have h2 := Int.emod_lt_of_pos (x + (i : Int)) (show 0 < s by omega)
  omega
theorem spec_l6Time_eq (k : Nat) (s : Int) (r : Bool) (p x n : Int) (back : Bool) (hr : road s r = true) (hp : 0 ≤ p ∧ p ≤ s - 1) (hx : 0 ≤ x ∧ x ≤ s - 1) (hn : 0 ≤ n ∧ n ≤ s) (hk : 10000 < k) : spec_l6Time.f k s r p x n back = some (timeM s r p x n.toNat back) := by
  unfold spec_l6Time.f timeM
  have hs := road_bd hr
  have hin := runL_in (n := n.toNat) hs.1 hx.1
  have hlen := runL_len s x n.toNat
  rw [spec_l6Run_eq k s r x n ⟨hs.1, hs.2.1⟩ (by omega) (by omega) (by omega)]
  cases back with
  | true =>
    simp only [if_true, Option.bind_some]
    rw [spec_l6Back_eq k s r p _ ⟨hs.1, hs.2.1⟩ hp (by omega) hin hk, Option.bind_some]
  | false =>
    have ha : allIn (runL s x n.toNat) 0 (s - 1) = true := List.all_eq_true.2 (fun y h => inR_iff.2 (hin y h))
    rw [if_neg (by simp), if_neg (by simp), Option.bind_some, spec_TourTime_eq k s r p _ (by omega) (by omega), if_pos (by rw [hr, inR_iff.2 hp, ha]; rfl), Option.bind_some]
theorem spec_RunTime_eq (k : Nat) (s : Int) (r : Bool) (p x n : Int) (back : Bool) (hk : 10000 < k) : spec_RunTime.f k s r p x n back = some (if (road s r && inR p 0 (s - 1) && fits s r x n) = true then (timeM s r p x n.toNat back, true) else (0, false)) := by
  unfold spec_RunTime.f
  rw [spec_l2Place_eq, Option.bind_some, spec_l6Fits_eq, Option.bind_some]
  cases hr : road s r with
  | false => simp
  | true =>
    cases hp : inR p 0 (s - 1) with
    | false => simp
    | true =>
      cases hf : fits s r x n with
      | false => simp
      | true =>
        have hf' := hf
        unfold fits at hf'
        rw [Bool.and_eq_true, Bool.and_eq_true, inR_iff, inR_iff] at hf'
        simp only [Bool.and_self, if_true]
        rw [spec_l6Time_eq k s r p x n back hr (inR_iff.1 hp) hf'.1.1 hf'.1.2 hk, Option.bind_some]
theorem impl_Road_runTime_eq (k : Nat) (s : Int) (r : Bool) (p x n : Int) (back : Bool) (hr : road s r = true) (hp : 0 ≤ p ∧ p ≤ s - 1) (hx : 0 ≤ x ∧ x ≤ s - 1) (hn : 0 ≤ n ∧ n ≤ s) (hk : 10000 < k) : impl_Road_runTime.f k s r p x n back = some (timeM s r p x n.toNat back) := by
  unfold impl_Road_runTime.f timeM
  have hs := road_bd hr
  have hin := runL_in (n := n.toNat) hs.1 hx.1
  have hlen := runL_len s x n.toNat
  rw [impl_Road_run_eq k s r x n ⟨hs.1, hs.2.1⟩ (by omega) (by omega) (by omega)]
  cases back with
  | true =>
    simp only [if_true, Option.bind_some]
    rw [impl_Road_roundTrip_eq k s r p _ ⟨hs.1, hs.2.1⟩ hp (by omega) hin (by omega), Option.bind_some]
  | false =>
    rw [if_neg (by simp), if_neg (by simp), Option.bind_some, impl_Road_tour_eq k s r p _ ⟨hs.1, hs.2.1⟩ hp (by omega) hin (by omega), Option.bind_some]
theorem impl_RunTime_eq (k : Nat) (s : Int) (r : Bool) (p x n : Int) (back : Bool) (hk : 10000 < k) : impl_RunTime.f k s r p x n back = some (if (road s r && inR p 0 (s - 1) && fits s r x n) = true then (timeM s r p x n.toNat back, true) else (0, false)) := by
  unfold impl_RunTime.f
  rw [impl_IsRoad_eq, Option.bind_some]
  cases hr : road s r with
  | false => simp
  | true =>
    rw [if_pos rfl, impl_Road_has1 k s r p hr (by omega), Option.bind_some]
    cases hp : inR p 0 (s - 1) with
    | false => simp
    | true =>
      rw [if_pos rfl, impl_Road_isRun_eq k s r x n hr (by omega), Option.bind_some]
      cases hf : fits s r x n with
      | false => simp
      | true =>
        have hf' := hf
        unfold fits at hf'
        rw [Bool.and_eq_true, Bool.and_eq_true, inR_iff, inR_iff] at hf'
        simp only [Bool.and_self, if_true]
        rw [impl_Road_runTime_eq k s r p x n back hr (inR_iff.1 hp) hf'.1.1 hf'.1.2 hk, Option.bind_some]

theorem FnExactRunTime (a0_0 : Int) (a0_1 : Bool) (a1 : Int) (a2 : Int) (a3 : Int) (a4 : Bool)
    (h0 : ((Lit.int .i64 (a0_0)).wf = true)) (h1 : True) (h2 : ((Lit.int .i64 (a1)).wf = true)) (h3 : ((Lit.int .i64 (a2)).wf = true)) (h4 : ((Lit.int .i64 (a3)).wf = true)) :
    ∃ k, laws_FnExactRunTime.f k a0_0 a0_1 a1 a2 a3 a4 = some true := by
  refine ⟨10001, ?_⟩
  unfold laws_FnExactRunTime.f
  rw [laws_toRoad_eq, Option.bind_some, spec_RunTime_eq 10001 _ _ _ _ _ _ (by omega), Option.bind_some, Option.bind_some, impl_RunTime_eq 10001 _ _ _ _ _ _ (by omega), Option.bind_some, if_pos rfl, if_neg (by simp)]

end Go.Proofs.Ytppkommlmloenab.Pure
