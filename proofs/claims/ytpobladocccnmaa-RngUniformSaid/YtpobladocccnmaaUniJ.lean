/- Floats that are whole numbers by powers of 2: how they compare, what Ldexp does to them, their parts, the other width. No program in sight but the printed Parts. -/
import Derived.Test.YtpobladocccnmaaUnif
import Derived.Test.YtpobladocccnmaaPPartsx
import Derived.Laws.FloatArith
namespace Go.Proofs.Ytpobladocccnmaa.UnifN
open Ieee Go

theorem cmp_of {x y : Nat} {a b : Int} (hlt : x < y → a < b) (heq : x = y → a = b) (hgt : y < x → b < a) : compare a b = compare x y := by
  rcases Nat.lt_trichotomy x y with h | h | h
  · rw [show compare x y = .lt from Nat.compare_eq_lt.2 h]
    exact Int.compare_eq_lt.2 (hlt h)
  · rw [show compare x y = .eq from Nat.compare_eq_eq.2 h]
    exact Int.compare_eq_eq.2 (heq h)
  · rw [show compare x y = .gt from Nat.compare_eq_gt.2 h]
    exact Int.compare_eq_gt.2 (hgt h)

/-- a pattern with no sign: its number -/
def mant (B x : Nat) : Nat := if x < B then x else B + x % B
def plac (B x : Nat) : Nat := if x < B then 0 else x / B - 1
theorem read_pos (f : Format) (B x : Nat) (hB : f.binade = B) (hi : x < f.infRung) (hs : f.infRung < f.signWeight) : f.read x = .number false (mant B x) (f.leastPlace + (plac B x : Nat)) := by
  have hlt : x < f.signWeight := by omega
  unfold Format.read mant plac
  simp only [Nat.mod_eq_of_lt hlt, Nat.div_eq_of_lt hlt, hB]
  by_cases h : x < B
  · rw [if_pos h, if_pos h, if_pos h]; simp
  · rw [if_neg h, if_neg h, if_neg h, if_pos hi]; simp
theorem mant_lt {B x : Nat} (hB : 0 < B) : mant B x < 2 * B := by
  unfold mant
  have := Nat.mod_lt x hB
  split <;> omega
theorem pat_eq {B x : Nat} (hB : 0 < B) : x = plac B x * B + mant B x := by
  unfold mant plac
  split
  · omega
  · rename_i h
    have h1 := Nat.div_add_mod x B
    have h2 : 1 ≤ x / B := (Nat.le_div_iff_mul_le hB).2 (by omega)
    rw [Nat.sub_mul, Nat.one_mul]
    have h3 : B ≤ x / B * B := Nat.le_mul_of_pos_left B h2
    rw [Nat.mul_comm] at h1
    omega
theorem mant_ge {B x : Nat} (h : 0 < plac B x) : B ≤ mant B x := by
  unfold mant plac at *
  split at h
  · omega
  · rename_i h1; rw [if_neg h1]; omega

theorem order_pos (f : Format) (B x y : Nat) (hB : f.binade = B) (hB0 : 0 < B) (hx : x < f.infRung) (hy : y < f.infRung) (hs : f.infRung < f.signWeight) : f.order x y = some (compare x y) := by
  unfold Format.order
  rw [read_pos f B x hB hx hs, read_pos f B y hB hy hs]
  have ex := pat_eq (B := B) (x := x) hB0
  have ey := pat_eq (B := B) (x := y) hB0
  have lx := mant_lt (B := B) (x := x) hB0
  have ly := mant_lt (B := B) (x := y) hB0
  have gx := mant_ge (B := B) (x := x)
  have gy := mant_ge (B := B) (x := y)
  generalize mant B x = m at *
  generalize mant B y = n at *
  generalize plac B x = p at *
  generalize plac B y = q at *
  unfold Datum.order
  simp only
  congr 1
  have sg : ∀ (a b : Nat), signed false a b = ((a * 2 ^ b : Nat) : Int) := fun a b => by unfold signed; simp [Nat.shiftLeft_eq]
  rw [sg, sg]
  rcases Nat.lt_trichotomy p q with h | h | h
  · have e1 : (f.leastPlace + (p : Int) - min (f.leastPlace + (p : Int)) (f.leastPlace + (q : Int))).toNat = 0 := by omega
    have e2 : (f.leastPlace + (q : Int) - min (f.leastPlace + (p : Int)) (f.leastPlace + (q : Int))).toNat = q - p := by omega
    rw [e1, e2, Nat.pow_zero, Nat.mul_one]
    have h1 : B ≤ n := gy (by omega)
    have h2 : 2 * n ≤ n * 2 ^ (q - p) := by
      rw [Nat.mul_comm 2 n]
      exact Nat.mul_le_mul_left n (by have : 2 ^ 1 ≤ 2 ^ (q - p) := Nat.pow_le_pow_right (by omega) (by omega); omega)
    have h3 : (p + 1) * B ≤ q * B := Nat.mul_le_mul_right B (by omega)
    rw [Nat.add_mul, Nat.one_mul] at h3
    have hxy : x < y := by omega
    exact cmp_of (fun _ => by omega) (fun e => by omega) (fun e => by omega)
  · subst h
    have e1 : (f.leastPlace + (p : Int) - min (f.leastPlace + (p : Int)) (f.leastPlace + (p : Int))).toNat = 0 := by omega
    rw [e1, Nat.pow_zero, Nat.mul_one, Nat.mul_one]
    exact cmp_of (fun _ => by omega) (fun e => by omega) (fun e => by omega)
  · have e1 : (f.leastPlace + (p : Int) - min (f.leastPlace + (p : Int)) (f.leastPlace + (q : Int))).toNat = p - q := by omega
    have e2 : (f.leastPlace + (q : Int) - min (f.leastPlace + (p : Int)) (f.leastPlace + (q : Int))).toNat = 0 := by omega
    rw [e1, e2, Nat.pow_zero, Nat.mul_one]
    have h1 : B ≤ m := gx (by omega)
    have h2 : 2 * m ≤ m * 2 ^ (p - q) := by
      rw [Nat.mul_comm 2 m]
      exact Nat.mul_le_mul_left m (by have : 2 ^ 1 ≤ 2 ^ (p - q) := Nat.pow_le_pow_right (by omega) (by omega); omega)
    have h3 : (q + 1) * B ≤ p * B := Nat.mul_le_mul_right B (by omega)
    rw [Nat.add_mul, Nat.one_mul] at h3
    have hxy : y < x := by omega
    exact cmp_of (fun _ => by omega) (fun e => by omega) (fun e => by omega)

theorem dord {x y : Nat} (hx : x < 9218868437227405312) (hy : y < 9218868437227405312) : double.order x y = some (compare x y) := by
  have hi : double.infRung = 9218868437227405312 := by decide
  exact order_pos double 4503599627370496 x y (by decide) (by decide) (by omega) (by omega) (by decide)

/-- by 1 -/
theorem one_mul64 {a K : Nat} (h1 : 4503599627370496 ≤ K) (h2 : K < 9007199254740992) (ha : a ≤ 2044) (ha0 : 0 < a) : double.mul 4607182418800017408 (a * 4503599627370496 + K) = some (a * 4503599627370496 + K) := by
  have hlp : double.leastPlace = -1074 := by decide
  have hb : double.binade = 4503599627370496 := by decide
  have hi : double.infRung = 9218868437227405312 := by decide
  have hsw : double.signWeight = 9223372036854775808 := by decide
  have hfb : double.fractionBits = 52 := rfl
  have p53 : (2 : Nat) ^ (52 + 1) = 9007199254740992 := by decide
  have p52 : (2 : Nat) ^ 52 = 4503599627370496 := by decide
  have hr2 : double.read 4607182418800017408 = .number false 4503599627370496 (-52) := by decide
  unfold Format.mul
  rw [read_of double a K 4503599627370496 hb ha0 h1 (by omega) (by omega) (by omega), hr2]
  have hn := nearest_long double K (-52 + (double.leastPlace + (a : Nat))) (by rw [hfb, p52]; exact h1) (by rw [hfb, p53]; exact h2) (by rw [hlp, hfb]; omega)
  rw [hfb, p52, Nat.mul_comm] at hn
  simp only [Datum.product, Option.map_some, Format.write, Bool.false_xor]
  rw [hn, hlp, hb, hi]
  have e : (-52 + (-1074 + (a : Int)) + ((52 : Nat) : Int) - -1074).toNat = a := by omega
  rw [e, Nat.min_eq_left (by omega)]

/-- a whole number below 2^24 times 2^-24, as a binary64 -/
def dbl24 (m : Nat) : Nat := (m.log2 + 998) * 4503599627370496 + full 52 m
theorem full_split {m : Nat} (h : m < 16777216) (hm : m ≠ 0) : full 52 m = full 23 m * 2 ^ 29 := by
  have hl := log24 h hm
  unfold full
  rw [Nat.mul_assoc, ← Nat.pow_add]
  congr 2
  omega
theorem full_log {m fb : Nat} (hm : 0 < m) (h : m < 2 ^ (fb + 1)) : (full fb m).log2 = fb := log2_eq (full_ge hm h) (full_lt hm h)

theorem key_down {x Y m m' : Nat} {s s' : Bool} {p p' : Int} (h1 : double.read x = .number s m p) (h2 : single.nearest s m p = Y) (h3 : single.read Y = .number s' m' p') : floatToFloatBits .f64 x .f32 = some Y := by
  unfold floatToFloatBits
  rw [if_neg (by decide)]
  show (match double.read x with | .nan _ _ => none | .infinity s => _ | .number s m e => _) = _
  rw [h1]
  show (if (single.read (single.nearest s m p)).isInfinity = true then none else some (single.nearest s m p)) = some Y
  rw [h2, h3, if_neg (show ¬ (Datum.number s' m' p').isInfinity = true from fun h => by cases h)]
theorem key_up {x Y m m' : Nat} {s s' : Bool} {p p' : Int} (h1 : single.read x = .number s m p) (h2 : double.nearest s m p = Y) (h3 : double.read Y = .number s' m' p') : floatToFloatBits .f32 x .f64 = some Y := by
  unfold floatToFloatBits
  rw [if_neg (by decide)]
  show (match single.read x with | .nan _ _ => none | .infinity s => _ | .number s m e => _) = _
  rw [h1]
  show (if (double.read (double.nearest s m p)).isInfinity = true then none else some (double.nearest s m p)) = some Y
  rw [h2, h3, if_neg (show ¬ (Datum.number s' m' p').isInfinity = true from fun h => by cases h)]
theorem narrow24 {m : Nat} (h : m < 16777216) (hm : m ≠ 0) : floatToFloatBits .f64 (dbl24 m) .f32 = some (uni32 m) := by
  have hl := log24 h hm
  have hf := full_lt (fb := 52) (m := m) (by omega) (by have : (2 : Nat) ^ 24 ≤ 2 ^ 53 := by decide
                                                        exact Nat.lt_of_lt_of_le h this)
  have hg := full_ge (fb := 52) (m := m) (by omega) (by have : (2 : Nat) ^ 24 ≤ 2 ^ 53 := by decide
                                                        exact Nat.lt_of_lt_of_le h this)
  have hf2 := full_lt (fb := 23) (m := m) (by omega) h
  have hg2 := full_ge (fb := 23) (m := m) (by omega) h
  have hb : double.binade = 4503599627370496 := by decide
  have hi : double.infRung = 9218868437227405312 := by decide
  have hsw : double.signWeight = 9223372036854775808 := by decide
  have hlp : double.leastPlace = -1074 := by decide
  have hlp2 : single.leastPlace = -149 := by decide
  have hb2 : single.binade = 8388608 := by decide
  have hi2 : single.infRung = 2139095040 := by decide
  have hsw2 : single.signWeight = 2147483648 := by decide
  have p53 : (2 : Nat) ^ (52 + 1) = 9007199254740992 := by decide
  have p52 : (2 : Nat) ^ 52 = 4503599627370496 := by decide
  have p24 : (2 : Nat) ^ (23 + 1) = 16777216 := by decide
  have p23 : (2 : Nat) ^ 23 = 8388608 := by decide
  rw [p53] at hf
  rw [p52] at hg
  rw [p24] at hf2
  rw [p23] at hg2
  have hrd : double.read (dbl24 m) = .number false (full 52 m) (double.leastPlace + ((m.log2 + 998 : Nat) : Int)) := by
    unfold dbl24
    exact read_of double _ _ 4503599627370496 hb (by omega) hg (by omega) (by omega) (by omega)
  have hu : uni32 m = (m.log2 + 102) * 8388608 + full 23 m := by unfold uni32; rw [if_neg hm]
  have hrd2 : single.read (uni32 m) = .number false (full 23 m) (single.leastPlace + ((m.log2 + 102 : Nat) : Int)) := by
    rw [hu]
    exact read_of single _ _ 8388608 hb2 (by omega) hg2 (by omega) (by omega) (by omega)
  have hlog : (full 52 m).log2 = 52 := full_log (by omega) (by have : (2 : Nat) ^ 24 ≤ 2 ^ 53 := by decide
                                                               exact Nat.lt_of_lt_of_le h this)
  have hn : single.nearest false (full 52 m) (double.leastPlace + ((m.log2 + 998 : Nat) : Int)) = uni32 m := by
    unfold Format.nearest
    rw [if_neg (by omega), hlog, hlp, hlp2, hb2, hi2]
    have hfb : single.fractionBits = 23 := rfl
    rw [hfb]
    have hmx : max (-1074 + ((m.log2 + 998 : Nat) : Int) + ((52 : Nat) : Int) - ((23 : Nat) : Int)) (-149) = (m.log2 : Int) - 47 := by omega
    simp only [hmx]
    have h1 : (-1074 + ((m.log2 + 998 : Nat) : Int) - ((m.log2 : Int) - 47)).toNat = 0 := by omega
    have h3 : ((m.log2 : Int) - 47 - (-1074 + ((m.log2 + 998 : Nat) : Int))).toNat = 29 := by omega
    rw [h1, h3, Nat.shiftLeft_zero, full_split h hm, cut_pow _ _ _ (by omega)]
    have h4 : ((m.log2 : Int) - 47 - -149).toNat = m.log2 + 102 := by omega
    rw [h4, hu, Nat.min_eq_left (by omega)]
    rfl
  exact key_down hrd hn hrd2

theorem widen24 {m : Nat} (h : m < 16777216) (hm : m ≠ 0) : floatToFloatBits .f32 (uni32 m) .f64 = some (dbl24 m) := by
  have hl := log24 h hm
  have h53 : m < 2 ^ (52 + 1) := by have : (2 : Nat) ^ 24 ≤ 2 ^ 53 := by decide
                                    exact Nat.lt_of_lt_of_le h this
  have hf := full_lt (fb := 52) (m := m) (by omega) h53
  have hg := full_ge (fb := 52) (m := m) (by omega) h53
  have hf2 := full_lt (fb := 23) (m := m) (by omega) h
  have hg2 := full_ge (fb := 23) (m := m) (by omega) h
  have hb : double.binade = 4503599627370496 := by decide
  have hi : double.infRung = 9218868437227405312 := by decide
  have hsw : double.signWeight = 9223372036854775808 := by decide
  have hlp : double.leastPlace = -1074 := by decide
  have hlp2 : single.leastPlace = -149 := by decide
  have hb2 : single.binade = 8388608 := by decide
  have hi2 : single.infRung = 2139095040 := by decide
  have hsw2 : single.signWeight = 2147483648 := by decide
  have p53 : (2 : Nat) ^ (52 + 1) = 9007199254740992 := by decide
  have p52 : (2 : Nat) ^ 52 = 4503599627370496 := by decide
  have p24 : (2 : Nat) ^ (23 + 1) = 16777216 := by decide
  have p23 : (2 : Nat) ^ 23 = 8388608 := by decide
  rw [p53] at hf
  rw [p52] at hg
  rw [p24] at hf2
  rw [p23] at hg2
  have hrd : double.read (dbl24 m) = .number false (full 52 m) (double.leastPlace + ((m.log2 + 998 : Nat) : Int)) := by
    unfold dbl24
    exact read_of double _ _ 4503599627370496 hb (by omega) hg (by omega) (by omega) (by omega)
  have hu : uni32 m = (m.log2 + 102) * 8388608 + full 23 m := by unfold uni32; rw [if_neg hm]
  have hrd2 : single.read (uni32 m) = .number false (full 23 m) (single.leastPlace + ((m.log2 + 102 : Nat) : Int)) := by
    rw [hu]
    exact read_of single _ _ 8388608 hb2 (by omega) hg2 (by omega) (by omega) (by omega)
  have hlog : (full 23 m).log2 = 23 := full_log (by omega) h
  have hff : full 52 (full 23 m) = full 52 m := by
    show full 23 m * 2 ^ (52 - (full 23 m).log2) = full 52 m
    rw [hlog, full_split h hm]
  have hn : double.nearest false (full 23 m) (single.leastPlace + ((m.log2 + 102 : Nat) : Int)) = dbl24 m := by
    rw [nearest_exact double (full 23 m) _ (by omega) (by have hfb : double.fractionBits = 52 := rfl
                                                          rw [hfb, p53]; omega) (by have hfb : double.fractionBits = 52 := rfl
                                                                                    rw [hlp, hlp2, hlog, hfb]; omega)]
    have hfb : double.fractionBits = 52 := rfl
    rw [hlog, hlp, hlp2, hb, hi, hfb, hff]
    have e : (-149 + ((m.log2 + 102 : Nat) : Int) + ((23 : Nat) : Int) - ((52 : Nat) : Int) - -1074).toNat = m.log2 + 998 := by omega
    rw [e, Nat.min_eq_left (by omega)]
    rfl
  exact key_up hrd2 hn hrd

/-! the odd part -/
theorem odd_once {o t o' t' : Nat} (h : o * 2 ^ t = o' * 2 ^ t') (h1 : o % 2 = 1) (h2 : o' % 2 = 1) : o = o' ∧ t = t' := by
  have key : ∀ t t' : Nat, t < t' → o * 2 ^ t = o' * 2 ^ t' → False := by
    intro t t' hlt h
    have e : 2 ^ t' = 2 ^ t * (2 * 2 ^ (t' - t - 1)) := by rw [← Nat.pow_succ', ← Nat.pow_add]; congr 1; omega
    rw [e, ← Nat.mul_assoc, Nat.mul_comm o' (2 ^ t), Nat.mul_assoc, Nat.mul_comm o] at h
    have h3 := Nat.eq_of_mul_eq_mul_left (Nat.two_pow_pos t) h
    rw [h3, Nat.mul_left_comm] at h1
    omega
  have key2 : ∀ t t' : Nat, t < t' → o' * 2 ^ t = o * 2 ^ t' → False := by
    intro t t' hlt h
    have e : 2 ^ t' = 2 ^ t * (2 * 2 ^ (t' - t - 1)) := by rw [← Nat.pow_succ', ← Nat.pow_add]; congr 1; omega
    rw [e, ← Nat.mul_assoc, Nat.mul_comm o (2 ^ t), Nat.mul_assoc, Nat.mul_comm o'] at h
    have h3 := Nat.eq_of_mul_eq_mul_left (Nat.two_pow_pos t) h
    rw [h3, Nat.mul_left_comm] at h2
    omega
  rcases Nat.lt_trichotomy t t' with h3 | h3 | h3
  · exact (key _ _ h3 h).elim
  · subst h3
    exact ⟨Nat.eq_of_mul_eq_mul_right (Nat.two_pow_pos t) h, rfl⟩
  · exact (key2 _ _ h3 h.symm).elim
end Go.Proofs.Ytpobladocccnmaa.UnifN
