/- A float of 32 bits made one of 64, and back; no program in sight. -/
import Derived.Laws.FloatArith
namespace Go.Proofs.Ytmiljlbbacbbpaa
open Ieee

/-- nothing is cut off -/
theorem cut_none (neg : Bool) (n : Nat) : Toward.even.cut neg n 0 = n := by
  unfold Toward.cut
  have h : (1 <<< min 0 (n.log2 + 2)) = 1 := by rw [Nat.zero_min]; rfl
  simp only [h, Nat.div_one, Nat.mod_one]
  simp
/-- what is cut off is nought -/
theorem cut_exact (neg : Bool) (a d : Nat) (ha : a ≠ 0) : Toward.even.cut neg (a * 2 ^ d) d = a := by
  unfold Toward.cut
  have hl : d ≤ (a * 2 ^ d).log2 := by
    have h2 : a * 2 ^ d ≠ 0 := Nat.mul_ne_zero ha (Nat.pos_iff_ne_zero.1 (Nat.two_pow_pos d))
    exact (Nat.le_log2 h2).2 (Nat.le_mul_of_pos_left _ (Nat.pos_of_ne_zero ha))
  have hm : min d ((a * 2 ^ d).log2 + 2) = d := Nat.min_eq_left (by omega)
  have hs : (1 <<< d) = 2 ^ d := by rw [Nat.shiftLeft_eq, Nat.one_mul]
  simp only [hm, hs]
  rw [Nat.mul_div_cancel _ (Nat.two_pow_pos d), Nat.mul_mod_left]
  have := Nat.two_pow_pos d
  simp
/-- a whole number's size: its first digit's place -/
theorem log2_eq {m k : Nat} (h1 : 2 ^ k ≤ m) (h2 : m < 2 ^ (k + 1)) : m.log2 = k := by
  have hm : m ≠ 0 := by have := Nat.two_pow_pos k; omega
  have h3 := (Nat.le_log2 hm).2 h1
  have h4 := (Nat.log2_lt hm).2 h2
  omega
/-- brought to 53 digits: between 2^52 and 2^53 -/
theorem full {m k : Nat} (hm : m ≠ 0) (hk : m.log2 = k) (hk2 : k ≤ 52) : 2 ^ 52 ≤ m * 2 ^ (52 - k) ∧ m * 2 ^ (52 - k) < 2 ^ 53 := by
  have h1 : 2 ^ k ≤ m := (Nat.le_log2 hm).1 (by omega)
  have h2 : m < 2 ^ (k + 1) := (Nat.log2_lt hm).1 (by omega)
  have e1 : 2 ^ k * 2 ^ (52 - k) = 2 ^ 52 := by rw [← Nat.pow_add]; congr 1; omega
  have e2 : 2 ^ (k + 1) * 2 ^ (52 - k) = 2 ^ 53 := by rw [← Nat.pow_add]; congr 1; omega
  exact ⟨by rw [← e1]; exact Nat.mul_le_mul_right _ h1, by rw [← e2]; exact Nat.mul_lt_mul_of_pos_right h2 (Nat.two_pow_pos _)⟩

/-- a number of few digits, as one of 64 bits: its word -/
theorem double_of (s : Bool) (m : Nat) (p : Int) (k : Nat) (hm : m ≠ 0) (hk : m.log2 = k) (hk2 : k ≤ 52) (hp : -1074 ≤ p + k - 52) (hp2 : p + k - 52 ≤ 970) :
    double.nearest s m p = double.word s ((p + k - 52 + 1074).toNat * 2 ^ 52 + m * 2 ^ (52 - k)) ∧ (p + k - 52 + 1074).toNat * 2 ^ 52 + m * 2 ^ (52 - k) < double.infRung := by
  have hl : double.leastPlace = -1074 := by decide
  have hb : double.binade = 2 ^ 52 := rfl
  have hi : double.infRung = 2047 * 2 ^ 52 := by decide
  have hf : (double.fractionBits : Int) = 52 := rfl
  have hfl := full hm hk hk2
  have hlt : (p + k - 52 + 1074).toNat * 2 ^ 52 + m * 2 ^ (52 - k) < double.infRung := by
    rw [hi]
    have : (p + k - 52 + 1074).toNat ≤ 2044 := by omega
    have h2 : (p + k - 52 + 1074).toNat * 2 ^ 52 ≤ 2044 * 2 ^ 52 := Nat.mul_le_mul_right _ this
    have h3 : (2 : Nat) ^ 53 = 2 * 2 ^ 52 := by decide
    omega
  refine ⟨?_, hlt⟩
  unfold Format.nearest
  rw [if_neg hm, hk, hl, hf, hb]
  have hmx : max (p + (k : Int) - 52) (-1074) = p + k - 52 := by omega
  simp only [hmx]
  have h1 : (p - (p + (k : Int) - 52)).toNat = 52 - k := by omega
  have h2 : ((p + (k : Int) - 52) - p).toNat = 0 := by omega
  rw [h1, h2, cut_none, Nat.shiftLeft_eq]
  have h3 : (p + (k : Int) - 52 - -1074).toNat = (p + k - 52 + 1074).toNat   := by omega
  rw [h3, Nat.min_eq_left (Nat.le_of_lt hlt)]

/-- and read again -/
theorem double_read (s : Bool) (q a : Nat) (h1 : 2 ^ 52 ≤ a) (h2 : a < 2 ^ 53) (hlt : q * 2 ^ 52 + a < double.infRung) : double.read (double.word s (q * 2 ^ 52 + a)) = .number s a ((q : Int) - 1074) := by
  have hl : double.leastPlace = -1074 := by decide
  have hb : double.binade = 2 ^ 52 := rfl
  have hi : double.infRung = 2047 * 2 ^ 52 := by decide
  have hw : double.signWeight = 2048 * 2 ^ 52 := by decide
  obtain ⟨r, hr⟩ : ∃ r, a = 2 ^ 52 + r := ⟨a - 2 ^ 52, by omega⟩
  have hr2 : r < 2 ^ 52 := by have h3 : (2 : Nat) ^ 53 = 2 * 2 ^ 52 := by decide
                              omega
  have hm : (q * 2 ^ 52 + a) % 2 ^ 52 = r := by
    rw [hr, show q * 2 ^ 52 + (2 ^ 52 + r) = r + 2 ^ 52 * (q + 1) by rw [Nat.mul_add, Nat.mul_comm q]; omega, Nat.add_mul_mod_self_left, Nat.mod_eq_of_lt hr2]
  have hd : (q * 2 ^ 52 + a) / 2 ^ 52 = q + 1 := by
    rw [hr, show q * 2 ^ 52 + (2 ^ 52 + r) = r + 2 ^ 52 * (q + 1) by rw [Nat.mul_add, Nat.mul_comm q]; omega, Nat.add_mul_div_left _ _ (Nat.two_pow_pos 52), Nat.div_eq_of_lt hr2]
    omega
  rw [hi] at hlt
  have hs : ∀ X, X < 2047 * 2 ^ 52 → (double.word s X) / double.signWeight % 2 = s.toNat ∧ double.word s X % double.signWeight = X := by
    intro X hX
    unfold Format.word
    rw [hw]
    cases s with
    | false =>
      simp only [Bool.false_eq_true, if_false]
      rw [Nat.div_eq_of_lt (by omega), Nat.mod_eq_of_lt (a := X) (by omega)]
      exact ⟨rfl, rfl⟩
    | true =>
      simp only [if_true]
      rw [Nat.add_comm, Nat.add_div_right _ (by decide), Nat.add_mod_right, Nat.div_eq_of_lt (by omega), Nat.mod_eq_of_lt (a := X) (by omega)]
      exact ⟨rfl, rfl⟩
  obtain ⟨h3, h4⟩ := hs _ hlt
  unfold Format.read
  simp only [h3, h4, hb, hi, hl, hm, hd]
  rw [if_neg (by omega), if_pos hlt]
  have hsb : (s.toNat == 1) = s := by cases s <;> rfl
  rw [hsb]
  rw [Nat.add_sub_cancel]
  have e1 : 2 ^ 52 + r = a := hr.symm
  have e2 : (-1074 : Int) + (q : Nat) = (q : Int) - 1074 := by omega
  rw [e1, e2]

/-- one of 64 bits that one of 32 is: narrowed -/
theorem single_of (s : Bool) (m : Nat) (p : Int) (k : Nat) (hm : m ≠ 0) (hk : m.log2 = k) (hk2 : k ≤ 23) (hp : -149 ≤ p) (hp2 : p ≤ 104) (hn : p = -149 ∨ k = 23) :
    single.nearest s (m * 2 ^ (52 - k)) (p + k - 52) = single.word s ((p + 149).toNat * 2 ^ 23 + m) ∧ (p + 149).toNat * 2 ^ 23 + m < single.infRung := by
  have hl : single.leastPlace = -149 := by decide
  have hb : single.binade = 2 ^ 23 := rfl
  have hi : single.infRung = 255 * 2 ^ 23 := by decide
  have hf : (single.fractionBits : Int) = 23 := rfl
  have hfl := full hm hk (by omega)
  have h2 : m < 2 ^ (k + 1) := (Nat.log2_lt hm).1 (by omega)
  have hm24 : m < 2 ^ 24 := Nat.lt_of_lt_of_le h2 (Nat.pow_le_pow_right (by decide) (by omega))
  have hlt : (p + 149).toNat * 2 ^ 23 + m < single.infRung := by
    rw [hi]
    have : (p + 149).toNat ≤ 253 := by omega
    have h2 : (p + 149).toNat * 2 ^ 23 ≤ 253 * 2 ^ 23 := Nat.mul_le_mul_right _ this
    have h3 : (2 : Nat) ^ 24 = 2 * 2 ^ 23 := by decide
    omega
  refine ⟨?_, hlt⟩
  unfold Format.nearest
  rw [if_neg (by have := Nat.two_pow_pos 52; omega), log2_eq hfl.1 hfl.2, hl, hf, hb]
  have hmx : max (p + (k : Int) - 52 + (52 : Nat) - 23) (-149) = p := by omega
  simp only [hmx]
  have h1 : (p + (k : Int) - 52 - p).toNat = 0 := by omega
  have h3 : (p - (p + (k : Int) - 52)).toNat = 52 - k := by omega
  rw [h1, h3, Nat.shiftLeft_zero, cut_exact s m _ hm]
  have h4 : (p - -149).toNat = (p + 149).toNat := by omega
  rw [h4, Nat.min_eq_left (Nat.le_of_lt hlt)]

/-- a word of 32 bits is its sign and its rung -/
theorem single_word {x : Nat} (hx : x < 2 ^ 32) : single.word (x / single.signWeight % 2 == 1) (x % single.signWeight) = x ∧ x % single.signWeight < 2 ^ 31 := by
  have hw : single.signWeight = 2 ^ 31 := by decide
  rw [hw]
  have h2 : (2 : Nat) ^ 32 = 2 * 2 ^ 31 := by decide
  have hm := Nat.mod_lt x (Nat.two_pow_pos 31)
  have hd := Nat.div_add_mod x (2 ^ 31)
  refine ⟨?_, hm⟩
  unfold Format.word
  rw [hw]
  rcases Nat.lt_or_ge x (2 ^ 31) with h | h
  · rw [Nat.div_eq_of_lt h, Nat.mod_eq_of_lt h]
    rfl
  · have h3 : x / 2 ^ 31 = 1 := by
      apply Nat.div_eq_of_lt_le <;> omega
    rw [h3] at hd ⊢
    simp only [Nat.mod_eq_of_lt (show 1 < 2 by decide), beq_self_eq_true, if_true]
    omega
theorem double_zero (s : Bool) : double.read (double.word s 0) = .number s 0 (-1074) := by cases s <;> decide +kernel
theorem double_inf (s : Bool) : double.read (double.word s double.infRung) = .infinity s := by cases s <;> decide +kernel

/-- a float of 32 bits, as one of 64 -/
def wid (x : Nat) : Nat := double.write (single.read x)

theorem wid_ok {x : Nat} (hx : x < 2 ^ 32) (hn : (single.read x).isNaN = false) :
    floatToFloatBits .f32 x .f64 = some (wid x) ∧ floatToFloatBits .f64 (wid x) .f32 = some x ∧ (double.read (wid x)).isNaN = false := by
  obtain ⟨hw, hr31⟩ := single_word hx
  have hi : single.infRung = 255 * 2 ^ 23 := by decide
  have hb : single.binade = 2 ^ 23 := rfl
  have hl : single.leastPlace = -149 := by decide
  -- what a number is, once it is known to go there and back
  have key : ∀ (s : Bool) (m : Nat) (p : Int) (Y : Nat) (m' : Nat) (p' : Int), single.read x = .number s m p → double.nearest s m p = Y → double.read Y = .number s m' p' → single.nearest s m' p' = x → (single.read x).isInfinity = false →
      floatToFloatBits .f32 x .f64 = some (wid x) ∧ floatToFloatBits .f64 (wid x) .f32 = some x ∧ (double.read (wid x)).isNaN = false := by
    intro s m p Y m' p' h1 h2 h3 h4 h5
    have hwd : wid x = Y := by unfold wid; rw [h1]; exact h2
    rw [hwd]
    refine ⟨?_, ?_, by rw [h3]; rfl⟩
    · unfold floatToFloatBits
      rw [if_neg (by decide)]
      show (match single.read x with | .nan _ _ => none | .infinity s => _ | .number s m e => _) = _
      rw [h1]
      show (if (double.read (double.nearest s m p)).isInfinity = true then none else some (double.nearest s m p)) = some Y
      rw [h2, h3, if_neg (show ¬ (Datum.number s m' p').isInfinity = true from fun h => by cases h)]
    · unfold floatToFloatBits
      rw [if_neg (by decide)]
      show (match double.read Y with | .nan _ _ => none | .infinity s => _ | .number s m e => _) = _
      rw [h3]
      show (if (single.read (single.nearest s m' p')).isInfinity = true then none else some (single.nearest s m' p')) = some x
      rw [h4, if_neg (by rw [h5]; decide)]
  generalize hS : (x / single.signWeight % 2 == 1) = s at hw
  generalize hR : x % single.signWeight = r at hw hr31
  by_cases c1 : r < single.binade
  · have hrd : single.read x = .number s r single.leastPlace := by
      unfold Format.read
      simp only [hS, hR]
      rw [if_pos c1]
    by_cases h0 : r = 0
    · subst h0
      refine key s 0 _ (double.word s 0) 0 (-1074) hrd ?_ (double_zero s) ?_ (by rw [hrd]; rfl)
      · unfold Format.nearest; rw [if_pos rfl]
      · unfold Format.nearest; rw [if_pos rfl]; exact hw
    · have hk : r.log2 ≤ 22 := by
        have := (Nat.log2_lt h0 (k := 23)).2 (by rw [← hb]; exact c1)
        omega
      obtain ⟨d1, d2⟩ := double_of s r (-149) r.log2 h0 rfl (by omega) (by omega) (by omega)
      obtain ⟨f1, f2⟩ := full h0 rfl (show r.log2 ≤ 52 by omega)
      obtain ⟨s1, s2⟩ := single_of s r (-149) r.log2 h0 rfl (by omega) (by omega) (by omega) (.inl rfl)
      rw [hl] at hrd
      refine key s r (-149) _ _ _ hrd d1 (double_read s _ _ f1 f2 d2) ?_ (by rw [hrd]; rfl)
      have e : (((-149 + (r.log2 : Int) - 52 + 1074).toNat : Nat) : Int) - 1074 = -149 + r.log2 - 52 := by omega
      rw [e, s1]
      simpa using hw
  · by_cases c2 : r < single.infRung
    · have hrd : single.read x = .number s (single.binade + r % single.binade) (single.leastPlace + (r / single.binade - 1 : Nat)) := by
        unfold Format.read
        simp only [hS, hR]
        rw [if_neg c1, if_pos c2]
      rw [hb, hl] at hrd
      rw [hb] at c1
      rw [hi] at c2
      have hq1 : 1 ≤ r / 2 ^ 23 := (Nat.le_div_iff_mul_le (by decide)).2 (by omega)
      have hq2 : r / 2 ^ 23 < 255 := (Nat.div_lt_iff_lt_mul (by decide)).2 c2
      have hm := Nat.mod_lt r (Nat.two_pow_pos 23)
      have hd := Nat.div_add_mod r (2 ^ 23)
      generalize r / 2 ^ 23 = q at hq1 hq2 hd hrd
      generalize r % 2 ^ 23 = t at hm hd hrd
      have h24 : (2 : Nat) ^ 24 = 2 * 2 ^ 23 := by decide
      have hlog : (2 ^ 23 + t).log2 = 23 := log2_eq (by omega) (by omega)
      have hm0 : 2 ^ 23 + t ≠ 0 := by have := Nat.two_pow_pos 23; omega
      obtain ⟨d1, d2⟩ := double_of s (2 ^ 23 + t) (-149 + (q - 1 : Nat)) 23 hm0 hlog (by omega) (by omega) (by omega)
      obtain ⟨f1, f2⟩ := full hm0 hlog (show 23 ≤ 52 by omega)
      obtain ⟨s1, s2⟩ := single_of s (2 ^ 23 + t) (-149 + (q - 1 : Nat)) 23 hm0 hlog (by omega) (by omega) (by omega) (.inr rfl)
      refine key s _ _ _ _ _ hrd d1 (double_read s _ _ f1 f2 d2) ?_ (by rw [hrd]; rfl)
      have e : (((-149 + ((q - 1 : Nat) : Int) + (23 : Nat) - 52 + 1074).toNat : Nat) : Int) - 1074 = -149 + ((q - 1 : Nat) : Int) + (23 : Nat) - 52 := by omega
      rw [e, s1]
      have e2 : (-149 + ((q - 1 : Nat) : Int) + 149).toNat * 2 ^ 23 + (2 ^ 23 + t) = r := by
        have : (-149 + ((q - 1 : Nat) : Int) + 149).toNat = q - 1 := by omega
        rw [this]
        have h5 : 2 ^ 23 * q = (q - 1) * 2 ^ 23 + 2 ^ 23 := by
          obtain ⟨j, rfl⟩ : ∃ j, q = j + 1 := ⟨q - 1, by omega⟩
          rw [Nat.mul_succ, Nat.add_sub_cancel, Nat.mul_comm]
        omega
      rw [e2]
      exact hw
    · by_cases c3 : r = single.infRung
      · have hrd : single.read x = .infinity s := by
          unfold Format.read
          simp only [hS, hR]
          rw [if_neg c1, if_neg c2, if_pos c3]
        have hwd : wid x = double.word s double.infRung := by unfold wid; rw [hrd]; rfl
        rw [hwd]
        refine ⟨?_, ?_, by rw [double_inf]; rfl⟩
        · unfold floatToFloatBits
          rw [if_neg (by decide)]
          show (match single.read x with | .nan _ _ => none | .infinity s => some (double.word s double.infRung) | .number s m e => _) = _
          rw [hrd]
        · unfold floatToFloatBits
          rw [if_neg (by decide)]
          show (match double.read (double.word s double.infRung) with | .nan _ _ => none | .infinity s => some (single.word s single.infRung) | .number s m e => _) = _
          rw [double_inf]
          show some (single.word s single.infRung) = some x
          rw [← c3, hw]
      · exfalso
        have hrd : single.read x = .nan s (r - single.infRung) := by
          unfold Format.read
          simp only [hS, hR]
          rw [if_neg c1, if_neg c2, if_neg c3]
        rw [hrd] at hn
        cases hn
end Go.Proofs.Ytmiljlbbacbbpaa
