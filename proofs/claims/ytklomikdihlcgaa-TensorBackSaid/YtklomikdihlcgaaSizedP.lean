/- The plain law of sizes: what both sides say of rows, columns and width. -/
import Derived.Test.YtklomikdihlcgaaAlive7
namespace Go.Proofs.Ytklomikdihlcgaa
open Go.RowKit PBase
open Go.Proofs.YtklomikdihlcgaaW.PrintWords Go.Proofs.YtklomikdihlcgaaW.PrintLast Go.Proofs.YtklomikdihlcgaaW.PrintMore
set_option linter.unusedVariables false
set_option linter.unusedSimpArgs false

def sizedV (r c w : Int) : Int := if w ≠ 32 ∧ w ≠ 64 then 3 else if r < 1 ∨ c < 1 then 4 else if r > 4096 ∨ c > 4096 ∨ r * c > 4096 then 2 else 0

theorem mul_ok {r c : Int} (h1 : 1 ≤ r) (h2 : 1 ≤ c) (h3 : r ≤ 4096) (h4 : c ≤ 4096) : wrap64 (r * c) = r * c ∧ 1 ≤ r * c ∧ r * c ≤ 16777216 := by
  have a : r * c ≤ 4096 * 4096 := Int.mul_le_mul h3 h4 (by omega) (by omega)
  have b : 1 * 1 ≤ r * c := Int.mul_le_mul h1 h2 (by omega) (by omega)
  exact ⟨IntWalk.wrap64_in (r * c) (by omega), by omega, by omega⟩

theorem Sized_eq (k : Nat) (r c w : Int) : tensor_Sized.f (k + 2) r c w = some (sizedV r c w) := by
  have hm : mx r c > 4096 ↔ (r > 4096 ∨ c > 4096) := by unfold mx; split <;> omega
  unfold tensor_Sized.f sizedV
  simp only [tensor_Sized.j0, tensor_Sized.j1]
  by_cases h32 : w = 32
  · subst h32
    by_cases hr : r < 1
    · simp [hr]
    · by_cases hc : c < 1
      · simp [hr, hc]
      · by_cases hg : r > 4096 ∨ c > 4096
        · have := hm.2 hg
          rcases hg with hg | hg <;> simp [hr, hc, this, hg]
        · have hn : ¬ mx r c > 4096 := fun h => hg (hm.1 h)
          obtain ⟨e, _, _⟩ := mul_ok (r := r) (c := c) (by omega) (by omega) (by omega) (by omega)
          rw [e]
          have g1 : ¬ r > 4096 := by omega
          have g2 : ¬ c > 4096 := by omega
          by_cases hp : r * c > 4096 <;> simp [hr, hc, hn, hp, g1, g2]
  · by_cases h64 : w = 64
    · subst h64
      by_cases hr : r < 1
      · simp [hr]
      · by_cases hc : c < 1
        · simp [hr, hc]
        · by_cases hg : r > 4096 ∨ c > 4096
          · have := hm.2 hg
            rcases hg with hg | hg <;> simp [hr, hc, this, hg]
          · have hn : ¬ mx r c > 4096 := fun h => hg (hm.1 h)
            obtain ⟨e, _, _⟩ := mul_ok (r := r) (c := c) (by omega) (by omega) (by omega) (by omega)
            rw [e]
            have g1 : ¬ r > 4096 := by omega
            have g2 : ¬ c > 4096 := by omega
            by_cases hp : r * c > 4096 <;> simp [hr, hc, hn, hp, g1, g2]
    · simp [h32, h64]

theorem refSized_eq (k : Nat) (r c w : Int) : pupilref7_Sized.f (k + 1) r c w = some (sizedV r c w) := by
  unfold pupilref7_Sized.f sizedV pupilref7_Width.f
  simp only [pupilref7_Sized.j0]
  by_cases h32 : w = 32 ∨ w = 64
  · have hw : (if w = 32 then some true else some (w == 64)) = some true := by rcases h32 with rfl | rfl <;> rfl
    have hw2 : ¬ (w ≠ 32 ∧ w ≠ 64) := by omega
    rw [hw, if_neg hw2, Option.bind_some, if_pos rfl]
    by_cases hr : r < 1
    · simp [hr]
    · by_cases hc : c < 1
      · simp [hr, hc]
      · by_cases g1 : r > 4096
        · simp [hr, hc, g1]
        · by_cases g2 : c > 4096
          · simp [hr, hc, g1, g2]
          · obtain ⟨e, _, _⟩ := mul_ok (r := r) (c := c) (by omega) (by omega) (by omega) (by omega)
            rw [e]
            by_cases hp : r * c > 4096 <;> simp [hr, hc, hp, g1, g2]
  · have h1 : ¬ w = 32 := by omega
    have h2 : ¬ w = 64 := by omega
    simp [h1, h2]

theorem exact_l0 (a b c a' b' c' : Int) (l : List Int) (hl : l.length ≤ 1000000000) : ∀ (k : Nat) (i : Nat), i ≤ l.length → l.length < k + i → pupillaw7_Exact.l0 k (i : Int) a b c l a' b' c' l = some true
  | 0, i, h1, h2 => by omega
  | k + 1, i, h1, h2 => by
    rw [pupillaw7_Exact.l0]
    by_cases h : i < l.length
    · rw [if_pos (by omega), if_pos (by omega), if_pos (by omega), if_pos rfl, IntWalk.wrap64_in ((i : Int) + 1) (by omega)]
      exact exact_l0 a b c a' b' c' l hl k (i + 1) (by omega) (by omega)
    · rw [if_neg (by omega)]

theorem exact_self (k : Nat) (a b c : Int) (l : List Int) (hl : l.length ≤ 1000000000) (hk : l.length < k) : pupillaw7_Exact.f (k + 1) a b c l a b c l = some true := by
  unfold pupillaw7_Exact.f
  rw [if_pos rfl, if_pos rfl, if_pos rfl, pupillaw7_Exact.j0]
  rw [if_neg (by simp)]
  exact exact_l0 a b c a b c l hl k 0 (Nat.zero_le _) (by omega)

end Go.Proofs.Ytklomikdihlcgaa
