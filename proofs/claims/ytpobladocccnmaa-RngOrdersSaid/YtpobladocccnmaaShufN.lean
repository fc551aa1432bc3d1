/- A shuffle holds each once; Pick's are the first ones, rising; how far the place moves. Plain numbers. -/
import Derived.Test.YtpobladocccnmaaDraw
namespace Go.Proofs.Ytpobladocccnmaa
open Go.RowKit Mix

/-- a list of n whole numbers from 0 to below n, each once -/
def Each (n : Nat) (l : List Int) : Prop := l.length = n ∧ (∀ i, i < n → 0 ≤ l.getD i 0 ∧ l.getD i 0 < n) ∧ ∀ i j, i < n → j < n → l.getD i 0 = l.getD j 0 → i = j

theorem upTo_get {n i : Nat} (h : i < n) : (upTo n).getD i 0 = i := by
  simp [upTo, List.getD_eq_getElem?_getD, h]

theorem Each.upTo (n : Nat) : Each n (upTo n) := by
  refine ⟨upTo_length n, fun i hi => ?_, fun i j hi hj h => ?_⟩
  · rw [upTo_get hi]; omega
  · rw [upTo_get hi, upTo_get hj] at h; omega

theorem getD_set (l : List Int) (i j : Nat) (x : Int) (hi : i < l.length) : (l.set i x).getD j 0 = if j = i then x else l.getD j 0 := by
  rw [List.getD_eq_getElem?_getD, List.getElem?_set]
  by_cases h : i = j
  · subst h
    simp [hi]
  · rw [if_neg h, if_neg (fun e => h e.symm), List.getD_eq_getElem?_getD]

theorem swap_get (l : List Int) (i j k : Nat) (hi : i < l.length) (hj : j < l.length) : (swapL l i j).getD k 0 = l.getD (if k = j then i else if k = i then j else k) 0 := by
  unfold swapL
  rw [getD_set _ _ _ _ (by rw [List.length_set]; exact hj), getD_set _ _ _ _ hi]
  by_cases h1 : k = j
  · rw [if_pos h1, if_pos h1]
  · rw [if_neg h1, if_neg h1]
    by_cases h2 : k = i
    · rw [if_pos h2, if_pos h2]
    · rw [if_neg h2, if_neg h2]

theorem Each.swap {n : Nat} {l : List Int} (h : Each n l) {i j : Nat} (hi : i < n) (hj : j < n) : Each n (swapL l i j) := by
  obtain ⟨h1, h2, h3⟩ := h
  have hs : ∀ k, k < n → (if k = j then i else if k = i then j else k) < n := fun k hk => by split; exact hi; split; exact hj; exact hk
  refine ⟨by rw [swapL_length, h1], fun k hk => ?_, fun k m hk hm e => ?_⟩
  · rw [swap_get l i j k (by omega) (by omega)]
    exact h2 _ (hs k hk)
  · rw [swap_get l i j k (by omega) (by omega), swap_get l i j m (by omega) (by omega)] at e
    have e2 := h3 _ _ (hs k hk) (hs m hm) e
    revert e2
    split <;> split <;> (try split) <;> (try split) <;> omega

theorem Each.go {n : Nat} (s t : Int) : ∀ (i : Nat) (l : List Int) (a : Int), i < n → Each n l → Each n (shufGo s t i l a).1
  | 0, l, a, _, h => h
  | i + 1, l, a, hi, h => by
    rw [shufGo]
    exact Each.go s t i _ _ (by omega) (h.swap hi (by have := belowV_lt s t a (n := i + 2) (by omega); omega))

theorem each_shuf (s t a : Int) (n : Nat) : Each n (shuf s t a n).1 := by
  cases n with
  | zero => exact Each.upTo 0
  | succ n => exact Each.go s t n _ _ (by omega) (Each.upTo _)

theorem belowA_eq (s t a : Int) {n : Nat} (hn : 0 < n) (hn2 : n ≤ 300) : ∃ c : Nat, 1 ≤ c ∧ c ≤ 300 ∧ belowA s t a n = wrap64 (a + c) := by
  have h1 := (passed_spec s t a hn (by omega)).1
  have h2 := over_lt hn
  exact ⟨passed s t a n + 1, by omega, by omega, by unfold belowA; congr 1; omega⟩

theorem go_place (s t : Int) : ∀ (i : Nat) (l : List Int) (a : Int), i < 300 → (-9223372036854775808 ≤ a ∧ a ≤ 9223372036854775807) → ∃ c : Nat, i ≤ c ∧ c ≤ 300 * i ∧ (shufGo s t i l a).2 = wrap64 (a + c)
  | 0, l, a, _, ha => ⟨0, Nat.le_refl _, Nat.le_refl _, by rw [shufGo]; unfold wrap64; omega⟩
  | i + 1, l, a, hi, ha => by
    obtain ⟨c, h1, h2, h3⟩ := belowA_eq s t a (n := i + 2) (by omega) (by omega)
    have hr : -9223372036854775808 ≤ belowA s t a (i + 2) ∧ belowA s t a (i + 2) ≤ 9223372036854775807 := wrap64_range _
    obtain ⟨c2, g1, g2, g3⟩ := go_place s t i (swapL l (i + 1) (belowV s t a (i + 2))) (belowA s t a (i + 2)) (by omega) hr
    refine ⟨c + c2, by omega, by omega, ?_⟩
    rw [shufGo, g3, h3]
    unfold wrap64
    omega

theorem shuf_place (s t a : Int) {n : Nat} (hn : n ≤ 255) (ha : -9223372036854775808 ≤ a ∧ a ≤ 9223372036854775807) : ∃ c : Nat, n - 1 ≤ c ∧ c ≤ 300 * n ∧ (shuf s t a n).2 = wrap64 (a + c) := by
  obtain ⟨c, h1, h2, h3⟩ := go_place s t (n - 1) (upTo n) a (by omega) ha
  exact ⟨c, h1, by omega, h3⟩

theorem shuf_few (s t a : Int) {n : Nat} (hn : n < 2) : (shuf s t a n).2 = a := by
  unfold shuf
  rw [show n - 1 = 0 by omega, shufGo]

/-- where each stands, one more: of the first j -/
def atL (n : Nat) (l : List Int) : Nat → List Int
  | 0 => List.replicate n 0
  | j + 1 => (atL n l j).set (l.getD j 0).toNat ((j : Int) + 1)

theorem atL_length (n : Nat) (l : List Int) : ∀ j, (atL n l j).length = n
  | 0 => by simp [atL]
  | j + 1 => by rw [atL, List.length_set, atL_length n l j]

theorem atL_old {n : Nat} {l : List Int} (h : Each n l) : ∀ (j : Nat), j ≤ n → ∀ m, m < j → (atL n l j).getD (l.getD m 0).toNat 0 = (m : Int) + 1
  | 0, _, m, hm => by omega
  | j + 1, hj, m, hm => by
    have hb := h.2.1 j (by omega)
    rw [atL, getD_set _ _ _ _ (by rw [atL_length]; omega)]
    by_cases e : (l.getD m 0).toNat = (l.getD j 0).toNat
    · have hbm := h.2.1 m (by omega)
      have : m = j := h.2.2 m j (by omega) (by omega) (by omega)
      rw [if_pos e, this]
    · rw [if_neg e]
      exact atL_old h j (by omega) m (by
        have : m ≠ j := fun hh => e (by rw [hh])
        omega)

theorem atL_new {n : Nat} {l : List Int} (h : Each n l) : ∀ (j : Nat), j ≤ n → ∀ m, j ≤ m → m < n → (atL n l j).getD (l.getD m 0).toNat 0 = 0
  | 0, _, m, _, hm => by
    rw [atL, List.getD_eq_getElem?_getD, List.getElem?_replicate]
    split <;> rfl
  | j + 1, hj, m, hm, hn => by
    have hb := h.2.1 j (by omega)
    rw [atL, getD_set _ _ _ _ (by rw [atL_length]; omega)]
    have e : ¬ (l.getD m 0).toNat = (l.getD j 0).toNat := fun e => by
      have hbm := h.2.1 m (by omega)
      have : m = j := h.2.2 m j (by omega) (by omega) (by omega)
      omega
    rw [if_neg e]
    exact atL_new h j (by omega) m (by omega) hn

/-- in order -/
def srt (l : List Int) : List Int := l.mergeSort fun x y => decide (x ≤ y)

theorem srt_mem {l : List Int} {x : Int} : x ∈ srt l ↔ x ∈ l := List.mem_mergeSort

theorem srt_sorted (l : List Int) : (srt l).Pairwise (fun x y => x ≤ y) := by
  have := List.pairwise_mergeSort (le := fun x y : Int => decide (x ≤ y)) (fun a b c h1 h2 => by simp at h1 h2 ⊢; omega) (fun a b => by simp; omega) l
  exact this.imp (fun h => by simpa using h)

theorem getD_mem {l : List Int} {i : Nat} (h : i < l.length) : l.getD i 0 ∈ l := by
  rw [List.getD_eq_getElem?_getD, List.getElem?_eq_getElem h]
  exact List.getElem_mem h

theorem take_get {l : List Int} {k i : Nat} (h : i < k) : (l.take k).getD i 0 = l.getD i 0 := by
  rw [List.getD_eq_getElem?_getD, List.getElem?_take_of_lt h, List.getD_eq_getElem?_getD]

/-- each of Pick's stands among the first k -/
theorem pick_at {n k : Nat} {l : List Int} (h : Each n l) (hk : k ≤ n) {i : Nat} (hi : i < k) : ∃ m, m < k ∧ (srt (l.take k)).getD i 0 = l.getD m 0 := by
  have hlen : (srt (l.take k)).length = k := by simp [srt, h.1]; omega
  have h1 := getD_mem (l := srt (l.take k)) (i := i) (by omega)
  rw [srt_mem] at h1
  obtain ⟨m, hm, he⟩ := List.getElem_of_mem h1
  have hmk : m < k := by rw [List.length_take] at hm; omega
  refine ⟨m, hmk, ?_⟩
  rw [← he, List.getElem_take, List.getD_eq_getElem?_getD, List.getElem?_eq_getElem (by rw [h.1]; omega)]
  rfl

theorem nodup_take {n k : Nat} {l : List Int} (h : Each n l) (hk : k ≤ n) : (l.take k).Nodup := by
  rw [List.Nodup, List.pairwise_iff_getElem]
  intro i j hi hj hij
  rw [List.length_take] at hi hj
  rw [List.getElem_take, List.getElem_take]
  intro e
  have : i = j := h.2.2 i j (by omega) (by omega) (by
    rw [List.getD_eq_getElem?_getD, List.getElem?_eq_getElem (by rw [h.1]; omega), List.getD_eq_getElem?_getD, List.getElem?_eq_getElem (by rw [h.1]; omega)]
    exact e)
  omega

theorem pick_rise {n k : Nat} {l : List Int} (h : Each n l) (hk : k ≤ n) {i : Nat} (hi : i + 1 < k) : (srt (l.take k)).getD i 0 < (srt (l.take k)).getD (i + 1) 0 := by
  have hlen : (srt (l.take k)).length = k := by simp [srt, h.1]; omega
  have h1 := List.pairwise_iff_getElem.1 (srt_sorted (l.take k)) i (i + 1) (by omega) (by omega) (by omega)
  have hnd : (srt (l.take k)).Nodup := (List.mergeSort_perm _ _).nodup_iff.2 (nodup_take h hk)
  have h2 := List.pairwise_iff_getElem.1 hnd i (i + 1) (by omega) (by omega) (by omega)
  rw [List.getD_eq_getElem?_getD, List.getElem?_eq_getElem (by omega), List.getD_eq_getElem?_getD, List.getElem?_eq_getElem (by omega)]
  simp only [Option.getD_some]
  omega

end Go.Proofs.Ytpobladocccnmaa
