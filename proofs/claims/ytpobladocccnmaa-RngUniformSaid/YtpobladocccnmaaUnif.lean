/- A whole number times a power of 2 as a float: its pattern, when the format has it. No program in sight. -/
import Ieee.Arith
namespace Go.Proofs.Ytpobladocccnmaa.UnifN
open Ieee

theorem log2_eq {n k : Nat} (h1 : 2 ^ k ≤ n) (h2 : n < 2 ^ (k + 1)) : n.log2 = k := by
  have hn : n ≠ 0 := by have := Nat.two_pow_pos k; omega
  have a : k ≤ n.log2 := (Nat.le_log2 hn).2 h1
  have b : n.log2 < k + 1 := (Nat.log2_lt hn).2 h2
  omega

theorem log2_mul {n : Nat} (hn : n ≠ 0) (k : Nat) : (n * 2 ^ k).log2 = n.log2 + k := by
  refine log2_eq ?_ ?_
  · rw [Nat.pow_add]; exact Nat.mul_le_mul_right _ (Nat.log2_self_le hn)
  · rw [show n.log2 + k + 1 = (n.log2 + 1) + k by omega, Nat.pow_add]
    exact Nat.mul_lt_mul_of_pos_right Nat.lt_log2_self (Nat.two_pow_pos _)

theorem cut_zero (neg : Bool) (n : Nat) : Toward.even.cut neg n 0 = n := by
  simp [Toward.cut, Nat.mod_one]

theorem cut_pow (neg : Bool) (K fb : Nat) (hK : 0 < K) : Toward.even.cut neg (K * 2 ^ fb) fb = K := by
  have hl : (K * 2 ^ fb).log2 = K.log2 + fb := log2_mul (by omega) fb
  have hm : min fb ((K * 2 ^ fb).log2 + 2) = fb := by rw [hl]; omega
  have hp := Nat.two_pow_pos fb
  unfold Toward.cut
  simp only [hm, Nat.shiftLeft_eq, Nat.one_mul, Nat.mul_div_cancel _ hp, Nat.mul_mod_left, Nat.mul_zero]
  have : ¬ 2 ^ fb < 0 := by omega
  have h2 : (2 ^ fb == 0) = false := by simp
  simp [h2]

/-- the significand brought to its full length -/
def full (fb m : Nat) : Nat := m * 2 ^ (fb - m.log2)

theorem full_ge {fb m : Nat} (hm : 0 < m) (h : m < 2 ^ (fb + 1)) : 2 ^ fb ≤ full fb m := by
  have hl : m.log2 ≤ fb := by have := (Nat.log2_lt (show m ≠ 0 by omega)).2 h; omega
  have := Nat.mul_le_mul_right (2 ^ (fb - m.log2)) (Nat.log2_self_le (show m ≠ 0 by omega))
  rw [← Nat.pow_add, show m.log2 + (fb - m.log2) = fb by omega] at this
  exact this

theorem full_lt {fb m : Nat} (hm : 0 < m) (h : m < 2 ^ (fb + 1)) : full fb m < 2 ^ (fb + 1) := by
  have hl : m.log2 ≤ fb := by have := (Nat.log2_lt (show m ≠ 0 by omega)).2 h; omega
  have := Nat.mul_lt_mul_of_pos_right (Nat.lt_log2_self (n := m)) (Nat.two_pow_pos (fb - m.log2))
  rw [← Nat.pow_add, show m.log2 + 1 + (fb - m.log2) = fb + 1 by omega] at this
  exact this

theorem nearest_exact (f : Format) (m : Nat) (p : Int) (hm : 0 < m) (h : m < 2 ^ (f.fractionBits + 1)) (hp : f.leastPlace ≤ p + m.log2 - f.fractionBits) :
    f.nearest false m p = min ((p + m.log2 - f.fractionBits - f.leastPlace).toNat * f.binade + full f.fractionBits m) f.infRung := by
  have hl : m.log2 ≤ f.fractionBits := by have := (Nat.log2_lt (show m ≠ 0 by omega)).2 h; omega
  unfold Format.nearest
  rw [if_neg (by omega)]
  have hmax : max (p + m.log2 - f.fractionBits) f.leastPlace = p + m.log2 - f.fractionBits := by omega
  simp only [hmax]
  have h1 : (p + (m.log2 : Int) - f.fractionBits - p).toNat = 0 := by omega
  have h2 : (p - (p + (m.log2 : Int) - f.fractionBits)).toNat = f.fractionBits - m.log2 := by omega
  rw [h1, h2, cut_zero, Nat.shiftLeft_eq]
  rfl

theorem nearest_long (f : Format) (K : Nat) (p : Int) (h1 : 2 ^ f.fractionBits ≤ K) (h2 : K < 2 ^ (f.fractionBits + 1)) (hp : f.leastPlace ≤ p + f.fractionBits) :
    f.nearest false (K * 2 ^ f.fractionBits) p = min ((p + f.fractionBits - f.leastPlace).toNat * f.binade + K) f.infRung := by
  have hK : 0 < K := by have := Nat.two_pow_pos f.fractionBits; omega
  have hl : (K * 2 ^ f.fractionBits).log2 = f.fractionBits + f.fractionBits := by rw [log2_mul (by omega), log2_eq h1 h2]
  unfold Format.nearest
  rw [if_neg (by have := Nat.mul_pos hK (Nat.two_pow_pos f.fractionBits); omega)]
  have hmax : max (p + ((K * 2 ^ f.fractionBits).log2 : Nat) - f.fractionBits) f.leastPlace = p + f.fractionBits := by rw [hl]; omega
  simp only [hmax]
  have e1 : (p + (f.fractionBits : Int) - p).toNat = f.fractionBits := by omega
  have e2 : (p - (p + (f.fractionBits : Int))).toNat = 0 := by omega
  rw [e1, e2, Nat.shiftLeft_zero, cut_pow _ _ _ hK]
  rfl

/-- m times 2^-53 -/
def uni64 (m : Nat) : Nat := if m = 0 then 0 else (m.log2 + 969) * 4503599627370496 + full 52 m
/-- m times 2^-24 -/
def uni32 (m : Nat) : Nat := if m = 0 then 0 else (m.log2 + 102) * 8388608 + full 23 m

theorem log53 {m : Nat} (h : m < 9007199254740992) (hm : m ≠ 0) : m.log2 ≤ 52 := by
  have := (Nat.log2_lt hm).2 (show m < 2 ^ 53 from h); omega
theorem log24 {m : Nat} (h : m < 16777216) (hm : m ≠ 0) : m.log2 ≤ 23 := by
  have := (Nat.log2_lt hm).2 (show m < 2 ^ 24 from h); omega

/-- a number below 2^53 as a binary64 -/
theorem of53 {m : Nat} (h : m < 9007199254740992) : double.nearest false m 0 = if m = 0 then 0 else (m.log2 + 1022) * 4503599627370496 + full 52 m := by
  by_cases hm : m = 0
  · subst hm; rfl
  · have hl := log53 h hm
    have hlp : double.leastPlace = -1074 := by decide
    have hfb : double.fractionBits = 52 := rfl
    have hb : double.binade = 4503599627370496 := by decide
    have hi : double.infRung = 2047 * 4503599627370496 := by decide
    have hf := full_lt (fb := 52) (m := m) (by omega) h
    rw [if_neg hm, nearest_exact double m 0 (by omega) (by rw [hfb]; exact h) (by rw [hlp, hfb]; omega), hlp, hfb, hb, hi]
    have e : (0 + (m.log2 : Int) - ((52 : Nat) : Int) - -1074).toNat = m.log2 + 1022 := by omega
    rw [e]
    have : (2 : Nat) ^ (52 + 1) = 9007199254740992 := by decide
    rw [this] at hf
    omega

theorem of24 {m : Nat} (h : m < 16777216) : single.nearest false m 0 = if m = 0 then 0 else (m.log2 + 126) * 8388608 + full 23 m := by
  by_cases hm : m = 0
  · subst hm; rfl
  · have hl := log24 h hm
    have hlp : single.leastPlace = -149 := by decide
    have hfb : single.fractionBits = 23 := rfl
    have hb : single.binade = 8388608 := by decide
    have hi : single.infRung = 255 * 8388608 := by decide
    have hf := full_lt (fb := 23) (m := m) (by omega) h
    rw [if_neg hm, nearest_exact single m 0 (by omega) (by rw [hfb]; exact h) (by rw [hlp, hfb]; omega), hlp, hfb, hb, hi]
    have e : (0 + (m.log2 : Int) - ((23 : Nat) : Int) - -149).toNat = m.log2 + 126 := by omega
    rw [e]
    have : (2 : Nat) ^ (23 + 1) = 16777216 := by decide
    rw [this] at hf
    omega

theorem read_of (f : Format) (a K B : Nat) (hB : f.binade = B) (ha : 0 < a) (h1 : B ≤ K) (h2 : K < 2 * B) (hi : a * B + K < f.infRung) (hs : f.infRung < f.signWeight) :
    f.read (a * B + K) = .number false K (f.leastPlace + (a : Nat)) := by
  have hlt : a * B + K < f.signWeight := by omega
  unfold Format.read
  have hK : a * B + K = (a + 1) * B + (K - B) := by rw [Nat.add_mul, Nat.one_mul]; omega
  have hBp : 0 < B := by omega
  have hdiv : (a * B + K) / B = a + 1 := by
    rw [hK, Nat.mul_comm, Nat.mul_add_div hBp, Nat.div_eq_of_lt (by omega)]
  have hmod : (a * B + K) % B = K - B := by
    rw [hK, Nat.mul_comm, Nat.mul_add_mod, Nat.mod_eq_of_lt (by omega)]
  simp only [Nat.mod_eq_of_lt hlt, Nat.div_eq_of_lt hlt, hB, hdiv, hmod]
  have n1 : ¬ a * B + K < B := by omega
  rw [if_neg n1, if_pos hi]
  have e1 : B + (K - B) = K := by omega
  have e2 : a + 1 - 1 = a := by omega
  rw [e1, e2]
  rfl

/-- times 2^-53 -/
theorem mul53 {m : Nat} (h : m < 9007199254740992) : double.mul (double.nearest false m 0) 4368491638549381120 = some (uni64 m) := by
  rw [of53 h]
  by_cases hm : m = 0
  · subst hm; decide
  · have hl := log53 h hm
    have hfb : double.fractionBits = 52 := rfl
    have hf := full_lt (fb := 52) (m := m) (by omega) h
    have hg := full_ge (fb := 52) (m := m) (by omega) h
    have hlp : double.leastPlace = -1074 := by decide
    have hb : double.binade = 4503599627370496 := by decide
    have hi : double.infRung = 9218868437227405312 := by decide
    have hsw : double.signWeight = 9223372036854775808 := by decide
    have p53 : (2 : Nat) ^ (52 + 1) = 9007199254740992 := by decide
    have p52 : (2 : Nat) ^ 52 = 4503599627370496 := by decide
    rw [p53] at hf
    rw [p52] at hg
    have hr2 : double.read 4368491638549381120 = .number false 4503599627370496 (-105) := by decide
    unfold Format.mul
    rw [if_neg hm, read_of double _ _ 4503599627370496 hb (by omega) hg (by omega) (by omega) (by omega), hr2]
    have hn := nearest_long double (full 52 m) (double.leastPlace + ((m.log2 + 1022 : Nat) : Int) + -105) (by rw [hfb, p52]; exact hg) (by rw [hfb, p53]; exact hf) (by rw [hlp, hfb]; omega)
    rw [hfb, p52] at hn
    simp only [Datum.product, Option.map_some, Format.write, Bool.false_xor]
    rw [hn, hlp, hb, hi]
    have e : (-1074 + ((m.log2 + 1022 : Nat) : Int) + -105 + ((52 : Nat) : Int) - -1074).toNat = m.log2 + 969 := by omega
    rw [e, uni64, if_neg hm]
    rw [Nat.min_eq_left (by omega)]

theorem mul24 {m : Nat} (h : m < 16777216) : single.mul (single.nearest false m 0) 864026624 = some (uni32 m) := by
  rw [of24 h]
  by_cases hm : m = 0
  · subst hm; decide
  · have hl := log24 h hm
    have hfb : single.fractionBits = 23 := rfl
    have hf := full_lt (fb := 23) (m := m) (by omega) h
    have hg := full_ge (fb := 23) (m := m) (by omega) h
    have hlp : single.leastPlace = -149 := by decide
    have hb : single.binade = 8388608 := by decide
    have hi : single.infRung = 2139095040 := by decide
    have hsw : single.signWeight = 2147483648 := by decide
    have p53 : (2 : Nat) ^ (23 + 1) = 16777216 := by decide
    have p52 : (2 : Nat) ^ 23 = 8388608 := by decide
    rw [p53] at hf
    rw [p52] at hg
    have hr2 : single.read 864026624 = .number false 8388608 (-47) := by decide
    unfold Format.mul
    rw [if_neg hm, read_of single _ _ 8388608 hb (by omega) hg (by omega) (by omega) (by omega), hr2]
    have hn := nearest_long single (full 23 m) (single.leastPlace + ((m.log2 + 126 : Nat) : Int) + -47) (by rw [hfb, p52]; exact hg) (by rw [hfb, p53]; exact hf) (by rw [hlp, hfb]; omega)
    rw [hfb, p52] at hn
    simp only [Datum.product, Option.map_some, Format.write, Bool.false_xor]
    rw [hn, hlp, hb, hi]
    have e : (-149 + ((m.log2 + 126 : Nat) : Int) + -47 + ((23 : Nat) : Int) - -149).toNat = m.log2 + 102 := by omega
    rw [e, uni32, if_neg hm]
    rw [Nat.min_eq_left (by omega)]

theorem uni64_lt {m : Nat} (h : m < 9007199254740992) : uni64 m < 4607182418800017408 := by
  unfold uni64
  by_cases hm : m = 0
  · rw [if_pos hm]; decide
  · have hl := log53 h hm
    have hf := full_lt (fb := 52) (m := m) (by omega) h
    have p53 : (2 : Nat) ^ (52 + 1) = 9007199254740992 := by decide
    rw [p53] at hf
    rw [if_neg hm]; omega

theorem uni32_lt {m : Nat} (h : m < 16777216) : uni32 m < 1065353216 := by
  unfold uni32
  by_cases hm : m = 0
  · rw [if_pos hm]; decide
  · have hl := log24 h hm
    have hf := full_lt (fb := 23) (m := m) (by omega) h
    have p53 : (2 : Nat) ^ (23 + 1) = 16777216 := by decide
    rw [p53] at hf
    rw [if_neg hm]; omega
end Go.Proofs.Ytpobladocccnmaa.UnifN
