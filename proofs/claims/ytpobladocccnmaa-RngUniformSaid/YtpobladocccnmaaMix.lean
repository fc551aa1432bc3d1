/- That mixing a word loses nothing, and that no more different words lie in a span than it is long. Plain numbers alone. -/
namespace Go.Proofs.Ytpobladocccnmaa.Mix

/-- a number is told by itself and its bits moved down -/
theorem xs_inj {s a b : Nat} (hs : 0 < s) (h : a ^^^ (a >>> s) = b ^^^ (b >>> s)) : a = b := by
  have key : ∀ d i, a + b < 2 ^ (i + d) → a.testBit i = b.testBit i := by
    intro d
    induction d with
    | zero =>
      intro i hi
      rw [Nat.testBit_lt_two_pow (by simp at hi; omega), Nat.testBit_lt_two_pow (by simp at hi; omega)]
    | succ d ih =>
      intro i hi
      have hle : 2 ^ (i + (d + 1)) ≤ 2 ^ (i + s + d) := Nat.pow_le_pow_right (by omega) (by omega)
      have h1 := ih (i + s) (by omega)
      have h2 := congrArg (fun x => x.testBit i) h
      simp only [Nat.testBit_xor, Nat.testBit_shiftRight] at h2
      rw [Nat.add_comm s i, h1] at h2
      revert h2
      cases a.testBit i <;> cases b.testBit i <;> cases b.testBit (i + s) <;> simp
  apply Nat.eq_of_testBit_eq
  intro i
  refine key (a + b) i ?_
  have h1 : a + b < 2 ^ (a + b) := Nat.lt_two_pow_self
  have h2 : 2 ^ (a + b) ≤ 2 ^ (i + (a + b)) := Nat.pow_le_pow_right (by omega) (by omega)
  omega

/-- a product by an odd number is told by the other factor -/
theorem mul_inj {M C I a b : Nat} (hI : C * I % M = 1 % M) (ha : a < M) (hb : b < M) (h : a * C % M = b * C % M) : a = b := by
  have step : ∀ x, x < M → x * C % M * I % M = x := by
    intro x hx
    rw [Nat.mod_mul_mod, Nat.mul_assoc, ← Nat.mul_mod_mod, hI, Nat.mul_mod_mod, Nat.mul_one, Nat.mod_eq_of_lt hx]
  rw [← step a ha, ← step b hb, h]

/-- as many as fit, no more -/
theorem pigeon : ∀ (n : Nat) (t : Nat) (f : Nat → Nat), (∀ i, i < t → f i < n) → (∀ i j, i < t → j < t → f i = f j → i = j) → t ≤ n := by
  intro n
  induction n with
  | zero =>
    intro t f h _
    cases t with
    | zero => exact Nat.le_refl _
    | succ t => exact absurd (h 0 (by omega)) (by omega)
  | succ n ih =>
    intro t f h hj
    by_cases hx : ∃ i, i < t ∧ f i = n
    · obtain ⟨i0, hi0, e0⟩ := hx
      have := ih (t - 1) (fun i => if i < i0 then f i else f (i + 1)) (by
        intro i hi
        show (if i < i0 then f i else f (i + 1)) < n
        split
        · rename_i hlt
          have h1 := h i (by omega)
          have h2 : f i ≠ n := fun e => by have := hj i i0 (by omega) hi0 (by omega); omega
          omega
        · have h1 := h (i + 1) (by omega)
          have h2 : f (i + 1) ≠ n := fun e => by have := hj (i + 1) i0 (by omega) hi0 (by omega); omega
          omega) (by
        intro i j hi hj' e
        have e : (if i < i0 then f i else f (i + 1)) = (if j < i0 then f j else f (j + 1)) := e
        by_cases hi1 : i < i0 <;> by_cases hj1 : j < i0
        · rw [if_pos hi1, if_pos hj1] at e; exact hj _ _ (by omega) (by omega) e
        · rw [if_pos hi1, if_neg hj1] at e; have := hj _ _ (by omega) (by omega) e; omega
        · rw [if_neg hi1, if_pos hj1] at e; have := hj _ _ (by omega) (by omega) e; omega
        · rw [if_neg hi1, if_neg hj1] at e; have := hj _ _ (by omega) (by omega) e; omega)
      omega
    · have := ih t f (fun i hi => by
        have h1 := h i hi
        have h2 : f i ≠ n := fun e => hx ⟨i, hi, e⟩
        omega) hj
      omega

def mixA (z : Nat) : Nat := (z ^^^ (z >>> 30)) * 13787848793156543929 % 18446744073709551616
def mixB (z : Nat) : Nat := (z ^^^ (z >>> 27)) * 10723151780598845931 % 18446744073709551616
def mixC (z : Nat) : Nat := z ^^^ (z >>> 31)
/-- P601's mixing, of numbers below 2^64 -/
def mix (z : Nat) : Nat := mixC (mixB (mixA z))

theorem xs_lt {a s : Nat} (h : a < 18446744073709551616) : a ^^^ (a >>> s) < 18446744073709551616 := by
  have h1 : a >>> s ≤ a := by
    rw [Nat.shiftRight_eq_div_pow]
    exact Nat.div_le_self _ _
  have e : (18446744073709551616 : Nat) = 2 ^ 64 := by rfl
  rw [e] at h ⊢
  exact Nat.xor_lt_two_pow h (Nat.lt_of_le_of_lt h1 h)

theorem mixA_lt (z : Nat) : mixA z < 18446744073709551616 := Nat.mod_lt _ (by omega)
theorem mixB_lt (z : Nat) : mixB z < 18446744073709551616 := Nat.mod_lt _ (by omega)
theorem mix_lt (z : Nat) : mix z < 18446744073709551616 := xs_lt (mixB_lt _)

theorem invA : 13787848793156543929 * 10871156337175269513 % 18446744073709551616 = 1 % 18446744073709551616 := by rfl
theorem invB : 10723151780598845931 * 3573116690164977347 % 18446744073709551616 = 1 % 18446744073709551616 := by rfl
theorem invS : 11400714819323198485 * 17428512612931826493 % 18446744073709551616 = 1 % 18446744073709551616 := by rfl

theorem mixA_inj {a b : Nat} (ha : a < 18446744073709551616) (hb : b < 18446744073709551616) (h : mixA a = mixA b) : a = b := by
  unfold mixA at h
  have h1 := mul_inj (M := 18446744073709551616) (C := 13787848793156543929) (I := 10871156337175269513) invA (xs_lt ha) (xs_lt hb) h
  exact xs_inj (s := 30) (by decide) h1
theorem mixB_inj {a b : Nat} (ha : a < 18446744073709551616) (hb : b < 18446744073709551616) (h : mixB a = mixB b) : a = b := by
  unfold mixB at h
  have h1 := mul_inj (M := 18446744073709551616) (C := 10723151780598845931) (I := 3573116690164977347) invB (xs_lt ha) (xs_lt hb) h
  exact xs_inj (s := 27) (by decide) h1
theorem mixC_inj {a b : Nat} (h : mixC a = mixC b) : a = b := by
  unfold mixC at h
  exact xs_inj (s := 31) (by decide) h

theorem mix_inj {a b : Nat} (ha : a < 18446744073709551616) (hb : b < 18446744073709551616) (h : mix a = mix b) : a = b :=
  mixA_inj ha hb (mixB_inj (mixA_lt _) (mixA_lt _) (mixC_inj h))

end Go.Proofs.Ytpobladocccnmaa.Mix
