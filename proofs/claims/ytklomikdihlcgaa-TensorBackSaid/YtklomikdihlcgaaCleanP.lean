/- The plain law of one pattern: what both sides say of what is no number. -/
import Derived.Test.YtklomikdihlcgaaSpoil
namespace Go.Proofs.Ytklomikdihlcgaa
open Go.RowKit PBase
open Go.Proofs.YtklomikdihlcgaaW.PrintWords Go.Proofs.YtklomikdihlcgaaW.PrintLast Go.Proofs.YtklomikdihlcgaaW.PrintMore
set_option linter.unusedVariables false
set_option linter.unusedSimpArgs false

theorem and_mask (y M : Int) (m : Nat) (hm : m ≤ 62) (hM : M = (2 : Int) ^ m - 1) : bits .and .i64 y M = y % 2 ^ m := by
  have hp : (2 : Nat) ^ m ≤ 2 ^ 62 := Nat.pow_le_pow_right (by omega) hm
  have hp1 : 1 ≤ (2 : Nat) ^ m := Nat.one_le_two_pow
  have hMn : M = ((2 ^ m - 1 : Nat) : Int) := by
    rw [hM]; simp [Int.natCast_sub hp1]
  have h1 : (BitVec.ofInt 64 y).toNat = (y % 18446744073709551616).toNat := by rw [BitVec.toNat_ofInt]; rfl
  have h2 : (BitVec.ofInt 64 M).toNat = 2 ^ m - 1 := by
    rw [hMn, BitVec.ofInt_natCast, BitVec.toNat_ofNat]; exact Nat.mod_eq_of_lt (by omega)
  show IntKind.i64.wrap ((BitVec.ofInt 64 y &&& BitVec.ofInt 64 M).toNat : Int) = _
  rw [BitVec.toNat_and, h1, h2, Nat.and_two_pow_sub_one_eq_mod]
  have hd : ((2 : Int) ^ m) ∣ 18446744073709551616 := by
    have : (18446744073709551616 : Int) = 2 ^ m * 2 ^ (64 - m) := by rw [← Int.pow_add]; rw [show m + (64 - m) = 64 by omega]; rfl
    exact ⟨_, this⟩
  have h3 : (((y % 18446744073709551616).toNat % 2 ^ m : Nat) : Int) = y % 2 ^ m := by
    rw [Int.natCast_emod, Int.toNat_of_nonneg (Int.emod_nonneg _ (by omega))]
    rw [show (((2 : Nat) ^ m : Nat) : Int) = (2 : Int) ^ m by simp]
    exact Int.emod_emod_of_dvd y hd
  rw [h3]
  have hq : (0 : Int) < (2 : Int) ^ m := by have : (((2 : Nat) ^ m : Nat) : Int) = (2 : Int) ^ m := by simp
                                            omega
  have hq2 : (2 : Int) ^ m ≤ 4611686018427387904 := by
    have : (((2 : Nat) ^ m : Nat) : Int) = (2 : Int) ^ m := by simp
    have h4 : (2 : Nat) ^ 62 = 4611686018427387904 := by decide
    omega
  have h5 := Int.emod_nonneg y (show (2 : Int) ^ m ≠ 0 by omega)
  have h6 := Int.emod_lt_of_pos y hq
  rw [IntKind.wrap_i64]
  generalize y % 2 ^ m = z at h5 h6
  omega

/-- what kind of number: 0 nought, 1 small, 2 plain, 3 infinite, 4 none -/
def kindV (E F top : Int) : Int := if E = top ∧ F ≠ 0 then 4 else if E = top then 3 else if E = 0 then (if F = 0 then 0 else 1) else 2
def classV (x wd : Int) : Int :=
  if wd = 64 then kindV (x / 4503599627370496 % 2048) (x % 4503599627370496) 2047
  else if 0 ≤ x ∧ x < 4294967296 then kindV (x / 8388608 % 256) (x % 8388608) 255 else 4

theorem classV32 (x : Int) : classV x 32 = if 0 ≤ x ∧ x < 4294967296 then kindV (x / 8388608 % 256) (x % 8388608) 255 else 4 := by unfold classV; rw [if_neg (by decide)]
theorem classV64 (x : Int) : classV x 64 = kindV (x / 4503599627370496 % 2048) (x % 4503599627370496) 2047 := by unfold classV; rw [if_pos rfl]

theorem bj0_eq (k : Nat) (E F a b c d : Int) (t : Bool) : bits_Class.j0 (k + 1) E F t a b c d = some (if t = true then 4 else if E = b then 3 else if E = 0 then (if F = 0 then 0 else 1) else 2) := by
  rw [bits_Class.j0]
  repeat' split
  all_goals first | rfl | simp_all

theorem rj0_eq (k : Nat) (E F a b c d e f g h i : Int) (t : Bool) (hE : 0 ≤ E) (hF : 0 ≤ F) : pupilref1_Class.j0 (k + 1) E F t a b c d e f g h i = some (if t = true then 4 else if E = d then 3 else if E = 0 then (if F = 0 then 0 else 1) else 2) := by
  rw [pupilref1_Class.j0]
  by_cases ht : t = true
  · rw [if_pos ht, if_pos ht]
  rw [if_neg ht, if_neg ht]
  by_cases hd : E = d
  · rw [if_pos hd, if_pos hd]
  rw [if_neg hd, if_neg hd]
  by_cases h0 : E = 0
  · rw [if_neg (by omega), if_pos h0]
    by_cases f0 : F = 0
    · rw [if_neg (by omega), if_pos f0]
    · rw [if_pos (by omega), if_neg f0]
  · rw [if_pos (by omega), if_neg h0]

theorem shr_eq (x : Int) (m : Nat) (hm : m ≤ 64) : shr .i64 x m = x / 2 ^ m := by
  unfold shr
  rw [Int.toNat_natCast, show min m IntKind.i64.bits = m from Nat.min_eq_left hm]

theorem bclass_eq (k : Nat) (x wd : Int) (hw : wd = 32 ∨ wd = 64) : bits_Class.f (k + 1) x wd = some (classV x wd) := by
  unfold bits_Class.f
  rcases hw with rfl | rfl
  · have e1 : bits_of.f 32 = some (23, 255, -149, 2147483648, true) := rfl
    have e2 : bits_Valid.f x 32 = some (x == (x % 4294967296)) := rfl
    have e3 : wrap64 (shl .i64 1 23 - 1) = 8388607 := by decide +kernel
    have e4 : shr .i64 x 23 = x / 8388608 := shr_eq x 23 (by decide)
    have m1 := and_mask (x / 8388608) 255 8 (by decide) (by decide)
    have m2 := and_mask x 8388607 23 (by decide) (by decide)
    rw [e1, e2]
    simp only [Option.bind_some, if_true]
    rw [if_pos (by decide)]
    rw [classV32]
    by_cases hv : 0 ≤ x ∧ x < 4294967296
    · rw [if_pos (by simp; omega), if_pos hv, e3, e4, m1, m2]
      have p1 : (2 : Int) ^ 8 = 256 := by decide
      have p2 : (2 : Int) ^ 23 = 8388608 := by decide
      rw [p1, p2]
      generalize x / 8388608 % 256 = E
      generalize x % 8388608 = F
      unfold kindV
      by_cases hE : E = 255
      · subst hE
        rw [if_pos rfl, bj0_eq]
        by_cases hF : F = 0 <;> simp [hF]
      · rw [if_neg hE, bj0_eq]
        simp [hE]
    · rw [if_neg (by simp; omega), if_neg hv, bj0_eq]
      rfl
  · have e1 : bits_of.f 64 = some (52, 2047, -1074, -9223372036854775808, true) := rfl
    have e2 : bits_Valid.f x 64 = some true := rfl
    have e3 : wrap64 (shl .i64 1 52 - 1) = 4503599627370495 := by decide +kernel
    have e4 : shr .i64 x 52 = x / 4503599627370496 := shr_eq x 52 (by decide)
    have m1 := and_mask (x / 4503599627370496) 2047 11 (by decide) (by decide)
    have m2 := and_mask x 4503599627370495 52 (by decide) (by decide)
    rw [e1, e2]
    simp only [Option.bind_some, if_true]
    rw [if_pos (by decide), e3, e4, m1, m2]
    have p1 : (2 : Int) ^ 11 = 2048 := by decide
    have p2 : (2 : Int) ^ 52 = 4503599627370496 := by decide
    rw [p1, p2]
    rw [classV64]
    generalize x / 4503599627370496 % 2048 = E
    generalize x % 4503599627370496 = F
    unfold kindV
    by_cases hE : E = 2047
    · subst hE
      rw [if_pos rfl, bj0_eq]
      by_cases hF : F = 0 <;> simp [hF]
    · rw [if_neg hE, bj0_eq]
      simp [hE]

theorem tdiv_nn (a b : Int) (h : 0 ≤ a) : Int.tdiv a b = a / b := Int.tdiv_eq_ediv_of_nonneg h
theorem tmod_nn (a b : Int) (h : 0 ≤ a) : Int.tmod a b = a % b := Int.tmod_eq_emod_of_nonneg h

theorem rclass_eq (k : Nat) (x wd : Int) (hw : wd = 32 ∨ wd = 64) (h0 : -9223372036854775808 ≤ x) (h1 : x ≤ 9223372036854775807) : pupilref1_Class.f (k + 1) x wd = some (classV x wd) := by
  unfold pupilref1_Class.f
  rcases hw with rfl | rfl
  · have e1 : pupilref1_Of.f 32 = some (32, 24, 8388608, 255, (-149), 128, 2139095040, 2147483648, 2143289345, true) := rfl
    rw [e1]
    simp only [Option.bind_some, if_true]
    rw [classV32]
    by_cases hv : 0 ≤ x ∧ x < 4294967296
    · rw [if_pos hv]
      have hE : wrap64 (x % 2147483648 / 8388608) = x / 8388608 % 256 := by
        rw [IntWalk.wrap64_in _ (by omega)]; omega
      have hc : pupilref1_Kind_cut.f (k + 1) 32 24 8388608 255 (-149) 128 2139095040 2147483648 2143289345 x = some (decide (x ≥ 2147483648), x / 8388608 % 256, x % 8388608, true) := by
        unfold pupilref1_Kind_cut.f
        rw [if_pos rfl, if_neg (by omega), pupilref1_Kind_cut.j0, if_neg (by simp; omega), if_neg (by decide), if_neg (by decide)]
        rw [tmod_nn x _ hv.1, tmod_nn x _ hv.1, tdiv_nn _ _ (by omega), hE]
      rw [hc]
      simp only [Option.bind_some, if_true]
      have b0 : 0 ≤ x / 8388608 % 256 := by omega
      have b1 : 0 ≤ x % 8388608 := by omega
      generalize x / 8388608 % 256 = E at b0
      generalize x % 8388608 = F at b1
      unfold kindV
      by_cases hE : E = 255
      · subst hE
        rw [if_pos rfl, rj0_eq _ _ _ _ _ _ _ _ _ _ _ _ _ b0 b1]
        by_cases hF : F = 0
        · simp [hF]
        · have : F > 0 := by omega
          simp [hF, this]
      · rw [if_neg hE, rj0_eq _ _ _ _ _ _ _ _ _ _ _ _ _ b0 b1]
        simp [hE]
    · rw [if_neg hv]
      have hc : pupilref1_Kind_cut.f (k + 1) 32 24 8388608 255 (-149) 128 2139095040 2147483648 2143289345 x = some (false, 0, 0, false) := by
        unfold pupilref1_Kind_cut.f
        rw [if_pos rfl]
        by_cases hn : x < 0
        · rw [if_pos hn, pupilref1_Kind_cut.j0, if_pos rfl]
        · rw [if_neg hn, pupilref1_Kind_cut.j0, if_pos (by simp; omega)]
      rw [hc]
      simp only [Option.bind_some]
      rw [if_neg (by decide), rj0_eq _ _ _ _ _ _ _ _ _ _ _ _ _ (by decide) (by decide)]
      rfl
  · have e1 : pupilref1_Of.f 64 = some (64, 53, 4503599627370496, 2047, (-1074), 1024, 9218868437227405312, (-9223372036854775808), 9221120237041090561, true) := rfl
    rw [e1]
    simp only [Option.bind_some, if_true]
    rw [classV64]
    have hc : pupilref1_Kind_cut.f (k + 1) 64 53 4503599627370496 2047 (-1074) 1024 9218868437227405312 (-9223372036854775808) 9221120237041090561 x = some (decide (x < 0), x / 4503599627370496 % 2048, x % 4503599627370496, true) := by
      unfold pupilref1_Kind_cut.f
      rw [if_neg (by decide)]
      by_cases hn : x < 0
      · rw [if_pos hn, if_neg (by decide), IntWalk.wrap64_in (x - -9223372036854775808) (by omega), tmod_nn _ _ (by omega), tdiv_nn _ _ (by omega), IntWalk.wrap64_in _ (by omega)]
        rw [show (x - -9223372036854775808) / 4503599627370496 = x / 4503599627370496 % 2048 by omega, show (x - -9223372036854775808) % 4503599627370496 = x % 4503599627370496 by omega]
      · rw [if_neg hn, if_neg (by decide), tmod_nn _ _ (by omega), tdiv_nn _ _ (by omega), IntWalk.wrap64_in _ (by omega)]
        rw [show x / 4503599627370496 = x / 4503599627370496 % 2048 by omega]
        rw [show x / 4503599627370496 % 2048 % 2048 = x / 4503599627370496 % 2048 by omega]
    rw [hc]
    simp only [Option.bind_some, if_true]
    have b0 : 0 ≤ x / 4503599627370496 % 2048 := by omega
    have b1 : 0 ≤ x % 4503599627370496 := by omega
    generalize x / 4503599627370496 % 2048 = E at b0
    generalize x % 4503599627370496 = F at b1
    unfold kindV
    by_cases hE : E = 2047
    · subst hE
      rw [if_pos rfl, rj0_eq _ _ _ _ _ _ _ _ _ _ _ _ _ b0 b1]
      by_cases hF : F = 0
      · simp [hF]
      · have : F > 0 := by omega
        simp [hF, this]
    · rw [if_neg hE, rj0_eq _ _ _ _ _ _ _ _ _ _ _ _ _ b0 b1]
      simp [hE]

theorem cleanV_eq (x wd : Int) (hw : wd = 32 ∨ wd = 64) : cleanV wd x = if classV x wd = 4 then (if wd = 32 then 2143289345 else 9221120237041090561) else x := by
  unfold cleanV tensor_Clean.f
  rw [bclass_eq 0 x wd hw, Option.bind_some]
  repeat' split
  all_goals rfl

theorem refClean_eq (k : Nat) (x wd : Int) (hw : wd = 32 ∨ wd = 64) (h0 : -9223372036854775808 ≤ x) (h1 : x ≤ 9223372036854775807) : pupilref7_Clean.f (k + 1) x wd = some (cleanV wd x) := by
  rw [cleanV_eq x wd hw]
  unfold pupilref7_Clean.f pupilref1_NaN.f
  rw [rclass_eq k x wd hw h0 h1, Option.bind_some, Option.bind_some]
  by_cases h : classV x wd = 4
  · rw [h]; simp
    split <;> rfl
  · simp [h]

end Go.Proofs.Ytklomikdihlcgaa
