/- What the document's Join tells of a whole number times a small power of 2: just the pattern of Unif. -/
import Derived.Test.YtpobladocccnmaaUnif
import Derived.Test.YtpobladocccnmaaPJoinx
namespace Go.Proofs.Ytpobladocccnmaa
open Go.RowKit UnifN PJoin
open Go.Proofs.YtpobladocccnmaaW.PrintWords
set_option linter.unusedVariables false

theorem wid {x : Int} (h : -9223372036854775808 ≤ x ∧ x ≤ 9223372036854775807) : wrap64 x = x := by
  unfold wrap64; omega

theorem log2_half {m : Nat} (h : 2 ≤ m) : (m / 2).log2 + 1 = m.log2 := by
  rw [Nat.log2_def m, if_pos h]

theorem log2_double {m : Nat} (h : m ≠ 0) : (m + m).log2 = m.log2 + 1 := by
  have := log2_mul h 1
  rw [show m * 2 ^ 1 = m + m by omega] at this
  exact this

theorem full_half {fb m : Nat} (h : 2 ≤ m) (he : m % 2 = 0) (hl : m.log2 ≤ fb) : full fb (m / 2) = full fb m := by
  have h1 := log2_half h
  unfold full
  rw [show fb - (m / 2).log2 = (fb - m.log2) + 1 by omega, Nat.pow_succ, Nat.mul_comm (2 ^ (fb - m.log2)) 2, ← Nat.mul_assoc]
  congr 1
  omega

section
variable (a b c d e f : Int) {g : Int} (fb F : Nat) (low : Int)

theorem l1_eq (hF : F = 2 ^ fb) (hfb : fb ≤ 60) (hlow : -3000 ≤ low) : ∀ (D m K : Nat) (p : Int), 0 < m → m.log2 + D = fb → low ≤ p - D → p ≤ 3000 →
    pupilref1_Kind_shifted.l1 (K + D + 1) (m : Int) p a b (F : Int) c low d e f g = some (((m * 2 ^ D : Nat) : Int), p - D, true) := by
  intro D
  induction D with
  | zero =>
    intro m K p hm hl hp hp2
    have h1 : 2 ^ fb ≤ m := by have := Nat.log2_self_le (show m ≠ 0 by omega); rw [show m.log2 = fb by omega] at this; exact this
    have h2 : ¬ (m : Int) < (F : Int) := by omega
    rw [pupilref1_Kind_shifted.l1]
    simp [h2]
  | succ D ih =>
    intro m K p hm hl hp hp2
    have h1 : m < 2 ^ fb := (Nat.log2_lt (show m ≠ 0 by omega)).1 (by omega)
    have h60 : 2 ^ fb ≤ 2 ^ 60 := Nat.pow_le_pow_right (by omega) hfb
    have h61 : (2 : Nat) ^ 60 = 1152921504606846976 := by decide
    have h2 : (m : Int) < (F : Int) := by omega
    have h3 : p > low := by omega
    rw [show K + (D + 1) + 1 = (K + D + 1) + 1 by omega, pupilref1_Kind_shifted.l1, if_pos h3, if_pos h2, wid (by omega), wid (by omega), ← Int.natCast_add,
      ih (m + m) K (p - 1) (by omega) (by rw [log2_double (by omega)]; omega) (by omega) (by omega)]
    rw [show (m + m) * 2 ^ D = m * 2 ^ (D + 1) by rw [Nat.pow_succ, Nat.mul_comm (2 ^ D) 2, ← Nat.mul_assoc, Nat.mul_two]]
    rw [show p - 1 - (D : Int) = p - ((D + 1 : Nat) : Int) by omega]

theorem l0_eq (hF : F = 2 ^ fb) (hfb : fb ≤ 60) (hlow : -3000 ≤ low) (hb : 0 ≤ b) (hS : (shl .i64 1 b) = ((2 * F : Nat) : Int)) : ∀ (L m K : Nat) (p : Int), m.log2 = L → 0 < m → L ≤ fb → low ≤ p → low ≤ p + L - fb → p + L ≤ 3000 →
    pupilref1_Kind_shifted.l0 (L + fb + 4 + K) (m : Int) p a b (F : Int) c low d e f g = some (((full fb m : Nat) : Int), p + L - fb, true) := by
  intro L
  induction L with
  | zero =>
    intro m K p hl hm hL hp hp3 hp2
    have h1 : m < 2 := (Nat.log2_lt (show m ≠ 0 by omega)).1 (show m.log2 < 1 by omega)
    have h2 : m = 1 := by omega
    subst h2
    have h60 : 0 < F := by rw [hF]; exact Nat.two_pow_pos _
    have h5 : ¬ ((1 : Nat) : Int) ≥ ((2 * F : Nat) : Int) := by omega
    rw [show 0 + fb + 4 + K = (K + fb + 1) + 1 + 1 + 1 by omega, pupilref1_Kind_shifted.l0, if_pos (by omega), if_neg (by decide), pupilref1_Kind_shifted.j1, if_pos hb, hS, if_neg h5, pupilref1_Kind_shifted.j2,
      if_neg (by simp; omega), l1_eq a b c d e f fb F low hF hfb hlow fb 1 K p (by omega) (by simp [Nat.log2_def]) (by omega) (by omega)]
    simp [full, Nat.log2_def]
  | succ L ih =>
    intro m K p hl hm hL hp hp3 hp2
    have hm2 : 2 ≤ m := by have := Nat.log2_self_le (show m ≠ 0 by omega); rw [hl] at this; have h3 : 2 ^ 1 ≤ 2 ^ (L + 1) := Nat.pow_le_pow_right (by omega) (by omega); omega
    have h1 : m < 2 ^ (fb + 1) := (Nat.log2_lt (show m ≠ 0 by omega)).1 (by omega)
    rw [Nat.pow_succ] at h1
    have h60 : 2 ^ fb ≤ 2 ^ 60 := Nat.pow_le_pow_right (by omega) hfb
    have h61 : (2 : Nat) ^ 60 = 1152921504606846976 := by decide
    rw [show L + 1 + fb + 4 + K = (L + fb + 4 + K) + 1 by omega, pupilref1_Kind_shifted.l0, if_pos (by omega)]
    by_cases he : m % 2 = 0
    · have h3 : Int.tmod (m : Int) 2 = 0 := by rw [Int.tmod_eq_emod_of_nonneg (by omega)]; omega
      have h4 : Int.tdiv (m : Int) 2 = ((m / 2 : Nat) : Int) := by rw [Int.tdiv_eq_ediv_of_nonneg (by omega)]; omega
      have h5 := log2_half hm2
      rw [if_pos h3, h4, wid (by omega), wid (by omega), ih (m / 2) K (p + 1) (by omega) (by omega) (by omega) (by omega) (by omega) (by omega), full_half hm2 he (by omega)]
      rw [show p + 1 + (L : Int) - fb = p + ((L + 1 : Nat) : Int) - fb by omega]
    · have h3 : ¬ Int.tmod (m : Int) 2 = 0 := by rw [Int.tmod_eq_emod_of_nonneg (by omega)]; omega
      have h5 : ¬ (m : Int) ≥ ((2 * F : Nat) : Int) := by omega
      rw [if_neg h3, show L + fb + 4 + K = ((L + L + 2 + K) + (fb - (L + 1)) + 1) + 1 + 1 by omega, pupilref1_Kind_shifted.j1, if_pos hb, hS, if_neg h5, pupilref1_Kind_shifted.j2,
        if_neg (by simp; omega), l1_eq a b c d e f fb F low hF hfb hlow (fb - (L + 1)) m (L + L + 2 + K) p (by omega) (by omega) (by omega) (by omega)]
      rw [full, hl, show p - ((fb - (L + 1) : Nat) : Int) = p + ((L + 1 : Nat) : Int) - fb by omega]
end

theorem shl53 : shl .i64 1 53 = ((2 * 4503599627370496 : Nat) : Int) := by decide
theorem shl24 : shl .i64 1 24 = ((2 * 8388608 : Nat) : Int) := by decide

theorem Join64 {m : Nat} (h : m < 9007199254740992) : pupilref1_Join.f 300 false (m : Int) (-53) 64 = some (((uni64 m : Nat) : Int), true) := by
  have hof : pupilref1_Of.f 64 = some (64, 53, 4503599627370496, 2047, (-1074), 1024, 9218868437227405312, (-9223372036854775808), 9221120237041090561, true) := by unfold pupilref1_Of.f; rw [if_pos rfl]
  unfold pupilref1_Join.f
  rw [hof, Option.bind_some]
  simp only [if_true]
  rw [if_neg (by omega), if_neg (by decide), if_neg (by decide), show (300 : Nat) = 299 + 1 from rfl, pupilref1_Join.j0, if_neg (by decide), if_neg (by decide), show (299 : Nat) = 298 + 1 from rfl, pupilref1_Join.j1]
  by_cases hm : m = 0
  · subst hm; rfl
  · have hl := log53 h hm
    have hge := full_ge (fb := 52) (m := m) (by omega) h
    have hlt := full_lt (fb := 52) (m := m) (by omega) h
    have p53 : (2 : Nat) ^ (52 + 1) = 9007199254740992 := by decide
    have p52 : (2 : Nat) ^ 52 = 4503599627370496 := by decide
    rw [p53] at hlt
    rw [p52] at hge
    have hs := l0_eq 64 53 2047 1024 9218868437227405312 (-9223372036854775808) (g := 9221120237041090561) 52 4503599627370496 (-1074) p52.symm (by omega) (by omega) (by omega) shl53 m.log2 m (298 - (m.log2 + 56)) (-53) rfl (by omega) hl (by omega) (by omega) (by omega)
    rw [show m.log2 + 52 + 4 + (298 - (m.log2 + 56)) = 298 by omega] at hs
    rw [if_neg (by omega), pupilref1_Kind_shifted.f]
    have hs' : pupilref1_Kind_shifted.l0 298 (m : Int) (-53) 64 53 4503599627370496 2047 (-1074) 1024 9218868437227405312 (-9223372036854775808) 9221120237041090561 = some (((full 52 m : Nat) : Int), -53 + (m.log2 : Int) - ((52 : Nat) : Int), true) := hs
    rw [hs', Option.bind_some]
    simp only [if_true]
    have hd : decide (-53 + (m.log2 : Int) - ((52 : Nat) : Int) > wrap64 (1024 - 53)) = false := decide_eq_false (by rw [wid (by omega)]; omega)
    rw [hd, show (298 : Nat) = 297 + 1 from rfl, pupilref1_Join.j2, if_neg (by decide), if_neg (by omega), uni64, if_neg hm]
    congr 2
    have e1 : wrap64 (-53 + (m.log2 : Int) - ((52 : Nat) : Int) - -1074) = (m.log2 : Int) + 969 := by rw [wid (by omega)]; omega
    have e2 : wrap64 ((m.log2 : Int) + 969 + 1) = (m.log2 : Int) + 970 := by rw [wid (by omega)]; omega
    have e3 : wrap64 (((m.log2 : Int) + 970) * 4503599627370496) = ((m.log2 : Int) + 970) * 4503599627370496 := wid (by omega)
    have e4 : wrap64 (((m.log2 : Int) + 970) * 4503599627370496 + ((full 52 m : Nat) : Int)) = ((m.log2 : Int) + 970) * 4503599627370496 + ((full 52 m : Nat) : Int) := wid (by omega)
    have e5 : wrap64 (((m.log2 : Int) + 970) * 4503599627370496 + ((full 52 m : Nat) : Int) - 4503599627370496) = ((m.log2 : Int) + 970) * 4503599627370496 + ((full 52 m : Nat) : Int) - 4503599627370496 := wid (by omega)
    rw [e1, e2, e3, Int.zero_add, e3, e4, e5]
    omega

theorem Join32 {m : Nat} (h : m < 16777216) : pupilref1_Join.f 300 false (m : Int) (-24) 32 = some (((uni32 m : Nat) : Int), true) := by
  have hof : pupilref1_Of.f 32 = some (32, 24, 8388608, 255, (-149), 128, 2139095040, 2147483648, 2143289345, true) := by unfold pupilref1_Of.f; rw [if_neg (by decide), if_pos rfl]
  unfold pupilref1_Join.f
  rw [hof, Option.bind_some]
  simp only [if_true]
  rw [if_neg (by omega), if_neg (by decide), if_neg (by decide), show (300 : Nat) = 299 + 1 from rfl, pupilref1_Join.j0, if_neg (by decide), if_neg (by decide), show (299 : Nat) = 298 + 1 from rfl, pupilref1_Join.j1]
  by_cases hm : m = 0
  · subst hm; rfl
  · have hl := log24 h hm
    have hge := full_ge (fb := 23) (m := m) (by omega) h
    have hlt := full_lt (fb := 23) (m := m) (by omega) h
    have p53 : (2 : Nat) ^ (23 + 1) = 16777216 := by decide
    have p52 : (2 : Nat) ^ 23 = 8388608 := by decide
    rw [p53] at hlt
    rw [p52] at hge
    have hs := l0_eq 32 24 255 128 2139095040 2147483648 (g := 2143289345) 23 8388608 (-149) p52.symm (by omega) (by omega) (by omega) shl24 m.log2 m (298 - (m.log2 + 27)) (-24) rfl (by omega) hl (by omega) (by omega) (by omega)
    rw [show m.log2 + 23 + 4 + (298 - (m.log2 + 27)) = 298 by omega] at hs
    rw [if_neg (by omega), pupilref1_Kind_shifted.f]
    have hs' : pupilref1_Kind_shifted.l0 298 (m : Int) (-24) 32 24 8388608 255 (-149) 128 2139095040 2147483648 2143289345 = some (((full 23 m : Nat) : Int), -24 + (m.log2 : Int) - ((23 : Nat) : Int), true) := hs
    rw [hs', Option.bind_some]
    simp only [if_true]
    have hd : decide (-24 + (m.log2 : Int) - ((23 : Nat) : Int) > wrap64 (128 - 24)) = false := decide_eq_false (by rw [wid (by omega)]; omega)
    rw [hd, show (298 : Nat) = 297 + 1 from rfl, pupilref1_Join.j2, if_neg (by decide), if_neg (by omega), uni32, if_neg hm]
    congr 2
    have e1 : wrap64 (-24 + (m.log2 : Int) - ((23 : Nat) : Int) - -149) = (m.log2 : Int) + 102 := by rw [wid (by omega)]; omega
    have e2 : wrap64 ((m.log2 : Int) + 102 + 1) = (m.log2 : Int) + 103 := by rw [wid (by omega)]; omega
    have e3 : wrap64 (((m.log2 : Int) + 103) * 8388608) = ((m.log2 : Int) + 103) * 8388608 := wid (by omega)
    have e4 : wrap64 (((m.log2 : Int) + 103) * 8388608 + ((full 23 m : Nat) : Int)) = ((m.log2 : Int) + 103) * 8388608 + ((full 23 m : Nat) : Int) := wid (by omega)
    have e5 : wrap64 (((m.log2 : Int) + 103) * 8388608 + ((full 23 m : Nat) : Int) - 8388608) = ((m.log2 : Int) + 103) * 8388608 + ((full 23 m : Nat) : Int) - 8388608 := wid (by omega)
    rw [e1, e2, e3, Int.zero_add, e3, e4, e5]
    omega
end Go.Proofs.Ytpobladocccnmaa
