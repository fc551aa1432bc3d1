/- The plain law of both: what both sides say of two shapes. -/
import Derived.Test.YtklomikdihlcgaaBothT
namespace Go.Proofs.Ytklomikdihlcgaa
open Go.RowKit PBase
open Go.Proofs.YtklomikdihlcgaaW.PrintWords Go.Proofs.YtklomikdihlcgaaW.PrintLast Go.Proofs.YtklomikdihlcgaaW.PrintMore
set_option linter.unusedVariables false
set_option linter.unusedSimpArgs false

theorem greater_eq (a b : Int) : pupilref7_greater.f a b = some (mx a b) := by
  unfold pupilref7_greater.f mx
  by_cases h : a > b
  · rw [if_pos h, if_neg (by omega)]
  · rw [if_neg h]
    by_cases h2 : a < b
    · rw [if_pos h2]
    · rw [if_neg h2]; congr 1; omega

theorem meetV_iff (x y : Int) : meetV x y = true ↔ (1 ≤ x ∧ 1 ≤ y ∧ (x = y ∨ x = 1 ∨ y = 1)) := by
  unfold meetV mn
  by_cases h1 : x ≥ 1
  · by_cases h2 : y ≥ 1
    · by_cases h3 : x = y
      · simp [h1, h2, h3]
      · by_cases h4 : y < x
        · simp [h1, h2, h3, h4]; try omega
        · simp [h1, h2, h3, h4]; try omega
    · simp [h1, h2]; try omega
  · simp [h1]; try omega

theorem j1_eq (k : Nat) (b : Bool) (x0 x1 x2 y0 y1 y2 : Int) : pupilref7_Both.j1 (k + 2) b x0 x1 x2 y0 y1 y2 = if b = true then some (0, 0, 0, 4) else (if sizedV (mx x0 y0) (mx x1 y1) x2 = 0 then some (mx x0 y0, mx x1 y1, x2, 0) else some (0, 0, 0, sizedV (mx x0 y0) (mx x1 y1) x2)) := by
  rw [pupilref7_Both.j1]
  rw [greater_eq, greater_eq, Option.bind_some, Option.bind_some, refSized_eq, Option.bind_some]

theorem refBoth_eq (k : Nat) (x0 x1 x2 y0 y1 y2 : Int) : pupilref7_Both.f (k + 3) x0 x1 x2 y0 y1 y2 = some (bothV x0 x1 x2 y0 y1 y2) := by
  have hW : pupilref7_Width.f x2 = some (decide (x2 = 32 ∨ x2 = 64)) := by
    unfold pupilref7_Width.f
    by_cases h : x2 = 32
    · simp [h]
    · simp [h]
      by_cases h2 : x2 = 64 <;> simp [h2]
  have m0 := meetV_iff x0 y0
  have m1 := meetV_iff x1 y1
  unfold pupilref7_Both.f bothV
  rw [hW, Option.bind_some]
  by_cases hw : x2 ≠ 32 ∧ x2 ≠ 64 ∨ x2 ≠ y2
  · rw [if_pos hw]
    by_cases h : x2 = 32 ∨ x2 = 64
    · have : (x2 != y2) = true := by simp; omega
      rw [if_pos (by simpa using h), this, pupilref7_Both.j0, if_pos rfl]
    · rw [if_neg (by simpa using h), pupilref7_Both.j0, if_pos rfl]
  · rw [if_neg hw]
    have h : x2 = 32 ∨ x2 = 64 := by omega
    have : (x2 != y2) = false := by simp; omega
    rw [if_pos (by simpa using h), this, pupilref7_Both.j0]
    rw [if_neg (by simp)]
    simp only [j1_eq]
    have hm : (meetV x0 y0 = true ∧ meetV x1 y1 = true) = ((1 ≤ x0 ∧ 1 ≤ y0 ∧ (x0 = y0 ∨ x0 = 1 ∨ y0 = 1)) ∧ (1 ≤ x1 ∧ 1 ≤ y1 ∧ (x1 = y1 ∨ x1 = 1 ∨ y1 = 1))) := by rw [m0, m1]
    have hif : ∀ (c : Prop) [Decidable c] (a b : Int × Int × Int × Int), some (if c then a else b) = if c then some a else some b := by intro c _ a b; split <;> rfl
    simp only [hm, hif]
    generalize (if sizedV (mx x0 y0) (mx x1 y1) x2 = 0 then some (mx x0 y0, mx x1 y1, x2, (0 : Int)) else some (0, 0, 0, sizedV (mx x0 y0) (mx x1 y1) x2)) = B
    generalize some ((0 : Int), (0 : Int), (0 : Int), (4 : Int)) = A
    simp only [if_true, Bool.false_eq_true, if_false, bne_iff_ne]
    clear m0 m1 hm hif hW hw this
    by_cases p1 : x0 < 1
    · rw [if_pos p1, if_neg (by omega)]
    rw [if_neg p1]
    by_cases p2 : x1 < 1
    · rw [if_pos p2, if_neg (by omega)]
    rw [if_neg p2]
    by_cases p3 : y0 < 1
    · rw [if_pos p3, if_neg (by omega)]
    rw [if_neg p3]
    by_cases p4 : y1 < 1
    · rw [if_pos p4, if_neg (by omega)]
    rw [if_neg p4]
    by_cases e1 : x1 = y1 ∨ x1 = 1 ∨ y1 = 1
    · by_cases e0 : x0 = y0 ∨ x0 = 1 ∨ y0 = 1
      · rw [if_pos (c := _ ∧ _) (by omega)]
        repeat' split
        all_goals first | rfl | (exfalso; omega)
      · rw [if_neg (c := _ ∧ _) (by omega), if_neg (by omega), if_neg (by omega), if_neg (by omega)]
    · rw [if_neg (c := _ ∧ _) (by omega)]
      repeat' split
      all_goals first | rfl | (exfalso; omega)

end Go.Proofs.Ytklomikdihlcgaa
