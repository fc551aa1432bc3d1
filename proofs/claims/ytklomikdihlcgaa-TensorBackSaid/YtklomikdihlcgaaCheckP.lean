/- The plain law of form: what both sides say of a matrix. -/
import Derived.Test.YtklomikdihlcgaaCleanP
namespace Go.Proofs.Ytklomikdihlcgaa
open Go.RowKit PBase
open Go.Proofs.YtklomikdihlcgaaW.PrintWords Go.Proofs.YtklomikdihlcgaaW.PrintLast Go.Proofs.YtklomikdihlcgaaW.PrintMore
set_option linter.unusedVariables false
set_option linter.unusedSimpArgs false

def badB (x : Int) : Bool := decide (x < 0) || decide (x > 4294967295)
def checkV (r c wd : Int) (l : List Int) : Int :=
  if sizedV r c wd = 0 then (if (l.length : Int) = r * c then (if wd = 32 ∧ l.any badB = true then 6 else 0) else 4) else sizedV r c wd

theorem rd_nat (l : List Int) (i : Nat) (h : i < l.length) : rd l (i : Int) = l[i] := by
  unfold rd; rw [Int.toNat_natCast, List.getD_eq_getElem?_getD, List.getElem?_eq_getElem h]; rfl

theorem valid_eq (x wd : Int) (hw : wd = 32 ∨ wd = 64) : bits_Valid.f x wd = some (decide (¬ (wd = 32 ∧ badB x = true))) := by
  unfold bits_Valid.f badB
  rcases hw with rfl | rfl
  · rw [if_neg (by decide), if_pos rfl]
    congr 1
    rw [Bool.eq_iff_iff]
    simp
    omega
  · rw [if_pos rfl]; congr 1

theorem check_l0 (r c wd : Int) (l : List Int) (hw : wd = 32 ∨ wd = 64) (hl : l.length ≤ 1000000000) : ∀ (k : Nat) (i : Nat), i ≤ l.length → l.length < k + i → tensor_Check.l0 k l (l.length : Int) (i : Int) r c wd l = some (if wd = 32 ∧ (l.drop i).any badB = true then 6 else 0)
  | 0, i, h1, h2 => by omega
  | k + 1, i, h1, h2 => by
    rw [tensor_Check.l0]
    by_cases h : i < l.length
    · rw [if_pos (by omega), if_pos (by omega), if_pos (by omega), rd_nat l i h, valid_eq _ _ hw, Option.bind_some, List.drop_eq_getElem_cons h, List.any_cons]
      by_cases hb : wd = 32 ∧ badB l[i] = true
      · rw [if_neg (by simp [hb]), if_pos (by simp [hb])]
      · rw [if_pos (decide_eq_true hb), IntWalk.wrap64_in ((i : Int) + 1) (by omega)]
        have := check_l0 r c wd l hw hl k (i + 1) (by omega) (by omega)
        rw [show ((i : Int) + 1) = ((i + 1 : Nat) : Int) by omega, this]
        by_cases h32 : wd = 32
        · have hb2 : badB l[i] = false := by
            cases hq : badB l[i] with
            | false => rfl
            | true => exact absurd ⟨h32, hq⟩ hb
          rw [hb2, Bool.false_or]
        · simp [h32]
    · rw [if_neg (by omega), List.drop_eq_nil_of_le (by omega)]
      simp

theorem refCheck_l0 (r c wd : Int) (l : List Int) (hw : wd = 32 ∨ wd = 64) (hl : l.length ≤ 1000000000) : ∀ (k : Nat) (i : Nat), i ≤ l.length → l.length < k + i → pupilref7_Check.l0 (2 * k) (i : Int) r c wd l = some (if wd = 32 ∧ (l.drop i).any badB = true then 6 else 0)
  | 0, i, h1, h2 => by omega
  | k + 1, i, h1, h2 => by
    rw [show 2 * (k + 1) = 2 * k + 1 + 1 by omega, pupilref7_Check.l0]
    simp only [pupilref7_Check.j1]
    by_cases h : i < l.length
    · rw [if_pos (by omega)]
      rcases hw with rfl | rfl
      · rw [if_pos (by decide), if_pos (by omega), if_pos (by omega), rd_nat l i h, List.drop_eq_getElem_cons h, List.any_cons]
        have hbd : badB l[i] = true ↔ (l[i] < 0 ∨ l[i] > 4294967295) := by unfold badB; simp
        by_cases hb1 : l[i] < 0
        · rw [if_pos hb1, if_pos (by simp [hbd.2 (Or.inl hb1)])]
        · rw [if_neg hb1]
          by_cases hb2 : l[i] > 4294967295
          · rw [if_pos hb2, if_pos (by simp [hbd.2 (Or.inr hb2)])]
          · rw [if_neg hb2, IntWalk.wrap64_in ((i : Int) + 1) (by omega)]
            have := refCheck_l0 r c 32 l (Or.inl rfl) hl k (i + 1) (by omega) (by omega)
            rw [show ((i : Int) + 1) = ((i + 1 : Nat) : Int) by omega, this]
            have hq : badB l[i] = false := by
              cases hq : badB l[i] with
              | false => rfl
              | true => have := hbd.1 hq; omega
            rw [hq, Bool.false_or]
      · rw [if_neg (by decide), if_neg (by simp)]
    · rw [if_neg (by omega), List.drop_eq_nil_of_le (by omega)]
      simp

theorem check_eq (k : Nat) (r c wd : Int) (l : List Int) (hl : l.length ≤ 1000000000) (hk : l.length + 2 < k) : tensor_Check.f k r c wd l = some (checkV r c wd l) := by
  unfold tensor_Check.f checkV
  rw [show k = (k - 2) + 2 by omega, Sized_eq, Option.bind_some]
  by_cases hs : sizedV r c wd = 0
  · rw [if_pos hs, if_pos hs]
    have hw : (wd = 32 ∨ wd = 64) ∧ 1 ≤ r ∧ 1 ≤ c ∧ r ≤ 4096 ∧ c ≤ 4096 := by
      unfold sizedV at hs
      split at hs
      · omega
      · split at hs
        · omega
        · split at hs
          · omega
          · omega
    obtain ⟨e, _, _⟩ := mul_ok hw.2.1 hw.2.2.1 hw.2.2.2.1 hw.2.2.2.2
    rw [e]
    by_cases hn : (l.length : Int) = r * c
    · rw [if_pos hn, if_pos hn]
      have := check_l0 r c wd l hw.1 hl (k - 2 + 2) 0 (by omega) (by omega)
      rw [List.drop_zero] at this
      exact this
    · rw [if_neg hn, if_neg hn]
  · rw [if_neg hs, if_neg hs]

theorem refCheck_eq (k : Nat) (r c wd : Int) (l : List Int) (hl : l.length ≤ 1000000000) (hk : l.length < k) : pupilref7_Check.f (2 * k) r c wd l = some (checkV r c wd l) := by
  unfold pupilref7_Check.f checkV
  rw [show pupilref7_Sized.f (2 * k) r c wd = some (sizedV r c wd) by rw [show 2 * k = (2 * k - 1) + 1 by omega, refSized_eq], Option.bind_some]
  by_cases hs : sizedV r c wd = 0
  · rw [if_pos hs, if_pos hs]
    have hw : (wd = 32 ∨ wd = 64) ∧ 1 ≤ r ∧ 1 ≤ c ∧ r ≤ 4096 ∧ c ≤ 4096 := by
      unfold sizedV at hs
      split at hs
      · omega
      · split at hs
        · omega
        · split at hs
          · omega
          · omega
    obtain ⟨e, _, _⟩ := mul_ok hw.2.1 hw.2.2.1 hw.2.2.2.1 hw.2.2.2.2
    rw [e]
    by_cases hn : (l.length : Int) = r * c
    · rw [if_pos hn, if_pos hn]
      have := refCheck_l0 r c wd l hw.1 hl k 0 (by omega) (by omega)
      rw [List.drop_zero] at this
      exact this
    · rw [if_neg hn, if_neg hn]
  · rw [if_neg hs, if_neg hs]

/-- of a matrix in form -/
theorem check_form {r c wd : Int} {l : List Int} (h : checkV r c wd l = 0) : (wd = 32 ∨ wd = 64) ∧ 1 ≤ r ∧ 1 ≤ c ∧ r ≤ 4096 ∧ c ≤ 4096 ∧ r * c ≤ 4096 ∧ (l.length : Int) = r * c ∧ sizedV r c wd = 0 := by
  unfold checkV at h
  split at h
  · rename_i hs
    have hs' := hs
    unfold sizedV at hs
    split at h
    · rename_i hn
      split at hs
      · omega
      · split at hs
        · omega
        · split at hs
          · omega
          · refine ⟨by omega, by omega, by omega, by omega, by omega, by omega, hn, hs'⟩
    · omega
  · omega

end Go.Proofs.Ytklomikdihlcgaa
