/- The plain law of stretching: where a stretched element comes from. -/
import Derived.Test.YtklomikdihlcgaaCheckP
import Derived.Test.YtklomikdihlcgaaPBasex6
namespace Go.Proofs.Ytklomikdihlcgaa
open Go.RowKit PBase
open Go.Proofs.YtklomikdihlcgaaW.PrintWords Go.Proofs.YtklomikdihlcgaaW.PrintLast Go.Proofs.YtklomikdihlcgaaW.PrintMore
set_option linter.unusedVariables false
set_option linter.unusedSimpArgs false

def fitsV (n have_ : Int) : Bool := if n ≥ 1 then (if n = have_ then true else have_ == 1) else false
theorem fitsV_iff (n h : Int) : fitsV n h = true ↔ (1 ≤ n ∧ (n = h ∨ h = 1)) := by
  unfold fitsV
  by_cases h1 : n ≥ 1
  · by_cases h2 : n = h
    · simp [h1, h2]
      try omega
    · simp [h1, h2]
  · simp [h1]; try omega

/-- what stands against stretching -/
def stretchE (r c wd : Int) (l : List Int) (rows cols : Int) : Int :=
  if checkV r c wd l = 0 then (if fitsV rows r = true ∧ fitsV cols c = true then sizedV rows cols wd else 4) else checkV r c wd l

theorem refStretched_eq (k : Nat) (r c wd : Int) (l : List Int) (rows cols : Int) : pupilref7_Stretched.f (k + 1) r c wd l rows cols = some (if fitsV rows r = true ∧ fitsV cols c = true then sizedV rows cols wd else 4) := by
  have m0 := fitsV_iff rows r
  have m1 := fitsV_iff cols c
  unfold pupilref7_Stretched.f
  simp only [refSized_eq, Option.bind_some]
  have hm : (fitsV rows r = true ∧ fitsV cols c = true) = ((1 ≤ rows ∧ (rows = r ∨ r = 1)) ∧ (1 ≤ cols ∧ (cols = c ∨ c = 1))) := by rw [m0, m1]
  have hif : ∀ (c : Prop) [Decidable c] (a b : Int), some (if c then a else b) = if c then some a else some b := by intro c _ a b; split <;> rfl
  simp only [hm, hif]
  clear m0 m1 hm hif
  generalize some (sizedV rows cols wd) = B
  generalize some (4 : Int) = A
  by_cases p1 : rows < 1
  · rw [if_pos p1, if_neg (by omega)]
  rw [if_neg p1]
  by_cases p2 : cols < 1
  · rw [if_pos p2, if_neg (by omega)]
  rw [if_neg p2]
  by_cases e0 : rows = r ∨ r = 1
  · by_cases e1 : cols = c ∨ c = 1
    · rw [if_pos (c := _ ∧ _) (by omega)]
      repeat' split
      all_goals first | rfl | (exfalso; omega)
    · rw [if_neg (c := _ ∧ _) (by omega)]
      repeat' split
      all_goals first | rfl | (exfalso; omega)
  · rw [if_neg (c := _ ∧ _) (by omega), if_neg (by omega), if_neg (by omega)]

def srcV (R C i j : Int) : Int := (if R = 1 then 0 else i) * C + (if C = 1 then 0 else j)

theorem src_in {R C i j rows cols : Int} (hR : 1 ≤ R) (hR2 : R ≤ 4096) (hC : 1 ≤ C) (hC2 : C ≤ 4096) (hr : rows = R ∨ R = 1) (hc : cols = C ∨ C = 1) (hi : 0 ≤ i) (hi2 : i < rows) (hj : 0 ≤ j) (hj2 : j < cols) :
    ∃ a b : Int, srcV R C i j = a * C + b ∧ a = mn i (R - 1) ∧ b = mn j (C - 1) ∧ 0 ≤ a ∧ a ≤ R - 1 ∧ 0 ≤ b ∧ b ≤ C - 1 ∧ 0 ≤ a * C ∧ a * C ≤ R * C - C ∧ a * C ≤ 16777216 := by
  refine ⟨if R = 1 then 0 else i, if C = 1 then 0 else j, rfl, ?_, ?_, ?_, ?_, ?_, ?_, ?_, ?_, ?_⟩
  · unfold mn; split <;> split <;> omega
  · unfold mn; split <;> split <;> omega
  · split <;> omega
  · split <;> omega
  · split <;> omega
  · split <;> omega
  · exact Int.mul_nonneg (by split <;> omega) (by omega)
  · have h1 : (if R = 1 then 0 else i) * C ≤ (R - 1) * C := Int.mul_le_mul_of_nonneg_right (by split <;> omega) (by omega)
    rw [Int.sub_mul, Int.one_mul] at h1
    exact h1
  · have h1 : (if R = 1 then 0 else i) * C ≤ 4096 * 4096 := Int.mul_le_mul (by split <;> omega) hC2 (by omega) (by omega)
    omega

theorem Source_eq {R C wd i j rows cols : Int} (hR : 1 ≤ R) (hR2 : R ≤ 4096) (hC : 1 ≤ C) (hC2 : C ≤ 4096) (hr : rows = R ∨ R = 1) (hc : cols = C ∨ C = 1) (hi : 0 ≤ i) (hi2 : i < rows) (hj : 0 ≤ j) (hj2 : j < cols) : tensor_Source.f R C wd i j = some (srcV R C i j) := by
  obtain ⟨a, b, h, ha, hb, a0, a1, b0, b1, p0, p1, p2⟩ := src_in hR hR2 hC hC2 hr hc hi hi2 hj hj2
  unfold tensor_Source.f
  rw [IntWalk.wrap64_in (R - 1) (by omega), IntWalk.wrap64_in (C - 1) (by omega), ← ha, ← hb, IntWalk.wrap64_in (a * C) (by omega), IntWalk.wrap64_in (a * C + b) (by omega), h]

theorem From_eq {R C wd i j rows cols : Int} (hR : 1 ≤ R) (hR2 : R ≤ 4096) (hC : 1 ≤ C) (hC2 : C ≤ 4096) (hr : rows = R ∨ R = 1) (hc : cols = C ∨ C = 1) (hi : 0 ≤ i) (hi2 : i < rows) (hj : 0 ≤ j) (hj2 : j < cols) : pupilref7_From.f R C wd i j = some (srcV R C i j) := by
  obtain ⟨a, b, h, ha, hb, a0, a1, b0, b1, p0, p1, p2⟩ := src_in hR hR2 hC hC2 hr hc hi hi2 hj hj2
  have hw : ∀ x y : Int, a = x → b = y → wrap64 (wrap64 (x * C) + y) = srcV R C i j := by
    intro x y hx hy
    subst hx hy
    rw [IntWalk.wrap64_in (a * C) (by omega), IntWalk.wrap64_in (a * C + b) (by omega), h]
  unfold pupilref7_From.f
  have ha' : a = if R = 1 then 0 else i := by rw [ha]; unfold mn; split <;> split <;> omega
  have hb' : b = if C = 1 then 0 else j := by rw [hb]; unfold mn; split <;> split <;> omega
  by_cases h1 : R = 1 <;> by_cases h2 : C = 1
  · rw [if_pos h1, if_pos h2, hw _ _ (by rw [ha', if_pos h1]) (by rw [hb', if_pos h2])]
  · rw [if_pos h1, if_neg h2, hw _ _ (by rw [ha', if_pos h1]) (by rw [hb', if_neg h2])]
  · rw [if_neg h1, if_pos h2, hw _ _ (by rw [ha', if_neg h1]) (by rw [hb', if_pos h2])]
  · rw [if_neg h1, if_neg h2, hw _ _ (by rw [ha', if_neg h1]) (by rw [hb', if_neg h2])]

theorem src_lt {R C i j rows cols : Int} (hR : 1 ≤ R) (hR2 : R ≤ 4096) (hC : 1 ≤ C) (hC2 : C ≤ 4096) (hr : rows = R ∨ R = 1) (hc : cols = C ∨ C = 1) (hi : 0 ≤ i) (hi2 : i < rows) (hj : 0 ≤ j) (hj2 : j < cols) : 0 ≤ srcV R C i j ∧ srcV R C i j < R * C := by
  obtain ⟨a, b, h, ha, hb, a0, a1, b0, b1, p0, p1, p2⟩ := src_in hR hR2 hC hC2 hr hc hi hi2 hj hj2
  rw [h]; omega

def srowL (R C : Int) (l : List Int) (cl : Int → Int) (i n : Nat) : List Int := (List.range n).map fun (j : Nat) => cl (rd l (srcV R C (i : Int) (j : Int)))
def stretchL (R C : Int) (l : List Int) (cl : Int → Int) (cols n : Nat) : List Int := (List.range n).flatMap fun i => srowL R C l cl i cols
theorem srowL_succ (R C : Int) (l : List Int) (cl : Int → Int) (i n : Nat) : srowL R C l cl i (n + 1) = srowL R C l cl i n ++ [cl (rd l (srcV R C (i : Int) (n : Int)))] := by simp [srowL, List.range_succ]
theorem stretchL_succ (R C : Int) (l : List Int) (cl : Int → Int) (cols n : Nat) : stretchL R C l cl cols (n + 1) = stretchL R C l cl cols n ++ srowL R C l cl n cols := by simp [stretchL, List.range_succ]
theorem srowL_length (R C : Int) (l : List Int) (cl : Int → Int) (i n : Nat) : (srowL R C l cl i n).length = n := by simp [srowL]
theorem stretchL_length (R C : Int) (l : List Int) (cl : Int → Int) (cols n : Nat) : (stretchL R C l cl cols n).length = n * cols := by
  induction n with
  | zero => simp [stretchL]
  | succ n ih => rw [stretchL_succ, List.length_append, ih, srowL_length]; rw [Nat.add_mul, Nat.one_mul]
theorem srowL_map (R C : Int) (l : List Int) (cl : Int → Int) (i n : Nat) : srowL R C l cl i n = (srowL R C l id i n).map cl := by simp [srowL]
theorem stretchL_map (R C : Int) (l : List Int) (cl : Int → Int) (cols n : Nat) : stretchL R C l cl cols n = (stretchL R C l id cols n).map cl := by
  induction n with
  | zero => simp [stretchL]
  | succ n ih => rw [stretchL_succ, stretchL_succ, List.map_append, ih, ← srowL_map]

end Go.Proofs.Ytklomikdihlcgaa
