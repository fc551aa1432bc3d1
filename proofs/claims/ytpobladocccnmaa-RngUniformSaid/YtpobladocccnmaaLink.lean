/- What the printed functions of the words come to, in the plain numbers of Draw: mix, key, word, split, below. -/
import Derived.Test.YtpobladocccnmaaDraw
import Derived.Test.YtpobladocccnmaaPBasex
import Derived.Laws.Bits64
namespace Go.Proofs.Ytpobladocccnmaa
open Go.RowKit Mix PBase
open Go.Proofs.YtpobladocccnmaaW.PrintWords

theorem shr_div (x s : Nat) (k : Nat) (h : s = 2 ^ k) : x >>> k = x / s := by rw [h, Nat.shiftRight_eq_div_pow]

theorem c1 : ((1073741824 : Nat) : Int) = 1073741824 := rfl
theorem c2 : ((13787848793156543929 : Nat) : Int) = 13787848793156543929 := rfl
theorem c3 : ((134217728 : Nat) : Int) = 134217728 := rfl
theorem c4 : ((10723151780598845931 : Nat) : Int) = 10723151780598845931 := rfl
theorem c5 : ((2147483648 : Nat) : Int) = 2147483648 := rfl
theorem c6 : ((7146057691288625177 : Nat) : Int) = 7146057691288625177 := rfl
theorem c7 : ((11400714819323198485 : Nat) : Int) = 11400714819323198485 := rfl
theorem c8 : ((15111065706836454659 : Nat) : Int) = 15111065706836454659 := rfl

theorem stepA (z : Nat) (hz : z < 18446744073709551616) : IntKind.u64.wrap (bits .xor .u64 (z : Int) ((z : Int) / 1073741824) * 13787848793156543929) = ((mixA z : Nat) : Int) := by
  unfold mixA; rw [shr_div _ 1073741824 30 rfl, ← c1, ← c2]; exact mixStep_u64 z 1073741824 13787848793156543929 hz
theorem stepB (z : Nat) (hz : z < 18446744073709551616) : IntKind.u64.wrap (bits .xor .u64 (z : Int) ((z : Int) / 134217728) * 10723151780598845931) = ((mixB z : Nat) : Int) := by
  unfold mixB; rw [shr_div _ 134217728 27 rfl, ← c3, ← c4]; exact mixStep_u64 z 134217728 10723151780598845931 hz
theorem stepC (z : Nat) (hz : z < 18446744073709551616) : bits .xor .u64 (z : Int) ((z : Int) / 2147483648) = ((mixC z : Nat) : Int) := by
  unfold mixC; rw [shr_div _ 2147483648 31 rfl, ← c5]; exact xorShift_u64 z 2147483648 hz

theorem rng_mix_eq (z : Nat) (hz : z < 18446744073709551616) : rng_mix.f (z : Int) = some ((mix z : Nat) : Int) := by
  unfold rng_mix.f
  rw [stepA z hz, stepB _ (mixA_lt _), stepC _ (mixB_lt _), mix]

theorem ref_mix_eq (z : Nat) (hz : z < 18446744073709551616) : pupilref6_mix.f (z : Int) = some ((mix z : Nat) : Int) := by
  unfold pupilref6_mix.f
  rw [stepA z hz, stepB _ (mixA_lt _), stepC _ (mixB_lt _), mix]

theorem wrap_uw (x : Int) : IntKind.u64.wrap x = ((uw x : Nat) : Int) := by rw [IntKind.wrap_u64, uw_cast]

theorem wrap_add (a b : Nat) : IntKind.u64.wrap ((a : Int) + (b : Int)) = (((a + b) % 18446744073709551616 : Nat) : Int) := by rw [IntKind.wrap_u64]; omega

theorem rng_key_eq (s t a : Int) : rng_key.f s t a = some ((keyN s t : Nat) : Int) := by
  have e : IntKind.u64.wrap (((uw t : Nat) : Int) + 7146057691288625177) = (((uw t + 7146057691288625177) % 18446744073709551616 : Nat) : Int) := wrap_add _ 7146057691288625177
  unfold rng_key.f
  rw [wrap_uw t, wrap_uw s, e, rng_mix_eq _ (Nat.mod_lt _ (by decide))]
  simp only [Option.bind_some]
  rw [bits_xor_u64_nat _ _ (uw_lt s) (mix_lt _), rng_mix_eq _ (Nat.xor_lt_two_pow (n := 64) (uw_lt s) (mix_lt _))]
  rfl

theorem ref_key_eq (s t a : Int) : pupilref6_key.f s t a = some ((keyN s t : Nat) : Int) := by
  have e : IntKind.u64.wrap (((uw t : Nat) : Int) + 7146057691288625177) = (((uw t + 7146057691288625177) % 18446744073709551616 : Nat) : Int) := wrap_add _ 7146057691288625177
  unfold pupilref6_key.f
  rw [wrap_uw t, wrap_uw s, e, ref_mix_eq _ (Nat.mod_lt _ (by decide))]
  simp only [Option.bind_some]
  rw [bits_xor_u64_nat _ _ (uw_lt s) (mix_lt _), ref_mix_eq _ (Nat.xor_lt_two_pow (n := 64) (uw_lt s) (mix_lt _))]
  rfl

theorem place_eq (k a i : Nat) : (k + ((a + i) % 18446744073709551616 + 1) % 18446744073709551616 * 11400714819323198485 % 18446744073709551616) % 18446744073709551616 = (k + (a + i + 1) * 11400714819323198485) % 18446744073709551616 := by
  rw [Nat.add_mod_mod, Nat.mod_add_mod, Nat.add_mod, Nat.mod_mul_mod, ← Nat.add_mod]

theorem rng_word_eq (s t a i : Int) : rng_word.f s t a i = some ((wordP s t (uw a + uw i + 1) : Nat) : Int) := by
  have e1 : IntKind.u64.wrap (((uw a : Nat) : Int) + ((uw i : Nat) : Int)) = (((uw a + uw i) % 18446744073709551616 : Nat) : Int) := wrap_add _ _
  have e2 : IntKind.u64.wrap ((((uw a + uw i) % 18446744073709551616 : Nat) : Int) + 1) = ((((uw a + uw i) % 18446744073709551616 + 1) % 18446744073709551616 : Nat) : Int) := wrap_add _ 1
  have e3 : ∀ x : Nat, IntKind.u64.wrap ((x : Int) * 11400714819323198485) = ((x * 11400714819323198485 % 18446744073709551616 : Nat) : Int) := fun x => by
    rw [IntKind.wrap_u64, Int.natCast_emod, Int.natCast_mul]; rfl
  unfold rng_word.f
  rw [rng_key_eq, Option.bind_some, wrap_uw a, wrap_uw i, e1, e2, e3, wrap_add, rng_mix_eq _ (Nat.mod_lt _ (by decide)), place_eq]
  rfl

theorem rng_Word_eq (s t a i : Int) : rng_Word.f s t a i = some (wrap64 ((wordP s t (uw a + uw i + 1) : Nat) : Int)) := by
  unfold rng_Word.f; rw [rng_word_eq]; rfl

theorem ref_Word_eq (s t a i : Int) : pupilref6_Word.f s t a i = some (wrap64 ((wordP s t (uw a + uw i + 1) : Nat) : Int)) := by
  have e1 : IntKind.u64.wrap (((uw a : Nat) : Int) + ((uw i : Nat) : Int)) = (((uw a + uw i) % 18446744073709551616 : Nat) : Int) := wrap_add _ _
  have e2 : IntKind.u64.wrap ((((uw a + uw i) % 18446744073709551616 : Nat) : Int) + 1) = ((((uw a + uw i) % 18446744073709551616 + 1) % 18446744073709551616 : Nat) : Int) := wrap_add _ 1
  have e3 : ∀ x : Nat, IntKind.u64.wrap ((x : Int) * 11400714819323198485) = ((x * 11400714819323198485 % 18446744073709551616 : Nat) : Int) := fun x => by
    rw [IntKind.wrap_u64, Int.natCast_emod, Int.natCast_mul]; rfl
  unfold pupilref6_Word.f
  rw [ref_key_eq, Option.bind_some, wrap_uw a, wrap_uw i, e1, e2, e3, wrap_add, ref_mix_eq _ (Nat.mod_lt _ (by decide)), place_eq, Option.bind_some]
  rfl

theorem rng_Split_eq (s t a k : Int) : rng_Split.f s t a k = some (s, splitN s t k, 0) := by
  have e : IntKind.u64.wrap (((uw k : Nat) : Int) + 15111065706836454659) = (((uw k + 15111065706836454659) % 18446744073709551616 : Nat) : Int) := wrap_add _ 15111065706836454659
  unfold rng_Split.f
  rw [rng_key_eq, Option.bind_some, wrap_uw k, e, rng_mix_eq _ (Nat.mod_lt _ (by decide)), Option.bind_some, bits_xor_u64_nat _ _ (keyN_lt _ _) (mix_lt _), rng_mix_eq _ (Nat.xor_lt_two_pow (n := 64) (keyN_lt _ _) (mix_lt _))]
  rfl

theorem ref_Split_eq (s t a k : Int) : pupilref6_Split.f s t a k = some (s, splitN s t k, 0) := by
  have e : IntKind.u64.wrap (((uw k : Nat) : Int) + 15111065706836454659) = (((uw k + 15111065706836454659) % 18446744073709551616 : Nat) : Int) := wrap_add _ 15111065706836454659
  unfold pupilref6_Split.f
  rw [ref_key_eq, Option.bind_some, wrap_uw k, e, ref_mix_eq _ (Nat.mod_lt _ (by decide)), Option.bind_some, bits_xor_u64_nat _ _ (keyN_lt _ _) (mix_lt _), ref_mix_eq _ (Nat.xor_lt_two_pow (n := 64) (keyN_lt _ _) (mix_lt _))]
  rfl

theorem ok_next (s t a : Int) (n j : Nat) : okAt s t (wrap64 (a + 1)) n j ↔ okAt s t a n (j + 1) := by
  have e : wordP s t (uw (wrap64 (a + 1)) + j + 1) = wordP s t (uw a + (j + 1) + 1) := by
    rw [← wordP_mod s t (uw (wrap64 (a + 1)) + j + 1), ← wordP_mod s t (uw a + (j + 1) + 1), uw_wrap]
    congr 1
    unfold uw
    omega
  unfold okAt
  rw [e]

theorem word_next (s t a : Int) (j : Nat) : wordP s t (uw (wrap64 (a + 1)) + j + 1) = wordP s t (uw a + (j + 1) + 1) := by
  rw [← wordP_mod s t (uw (wrap64 (a + 1)) + j + 1), ← wordP_mod s t (uw a + (j + 1) + 1), uw_wrap]
  congr 1
  unfold uw
  omega

theorem uw_zero : uw 0 = 0 := rfl

theorem below_l0 (s t : Int) {n : Nat} (hn : 0 < n) (hn2 : n ≤ 9223372036854775807) : ∀ (j : Nat) (a : Int), okAt s t a n j → (∀ i, i < j → ¬ okAt s t a n i) →
    rng_below.l0 (j + 1) (n : Int) ((over n : Nat) : Int) s t a = some (((wordP s t (uw a + j + 1) % n : Nat) : Int), s, t, wrap64 (a + j + 1)) := by
  have hov := over_lt hn
  have hw : IntKind.u64.wrap (18446744073709551615 - ((over n : Nat) : Int)) = 18446744073709551615 - ((over n : Nat) : Int) := by rw [IntKind.wrap_u64]; omega
  intro j
  induction j with
  | zero =>
    intro a hok _
    have h0 : wordP s t (uw a + 0 + 1) ≤ 18446744073709551615 - over n := hok
    have hlt := Nat.mod_lt (wordP s t (uw a + 0 + 1)) hn
    rw [rng_below.l0, rng_word_eq, uw_zero, Option.bind_some, hw, if_pos (by omega), if_neg (by omega), Int.tmod_eq_emod_of_nonneg (by omega), ← Int.natCast_emod, wrap64_id (by omega)]
    simp
  | succ j ih =>
    intro a hok hno
    have h0 : ¬ okAt s t a n 0 := hno 0 (by omega)
    have h1 : ¬ wordP s t (uw a + 0 + 1) ≤ 18446744073709551615 - over n := h0
    have := ih (wrap64 (a + 1)) ((ok_next s t a n j).2 hok) (fun i hi h => hno (i + 1) (by omega) ((ok_next s t a n i).1 h))
    rw [rng_below.l0, rng_word_eq, uw_zero, Option.bind_some, hw, if_neg (by omega), this, word_next]
    congr 4
    have e : ((j + 1 : Nat) : Int) = (j : Int) + 1 := by omega
    rw [e]
    unfold wrap64
    omega

theorem below_eq (s t a : Int) {n : Nat} (hn : 0 < n) (hn2 : n ≤ 9223372036854775807) :
    rng_below.f (passed s t a n + 1) s t a (n : Int) = some (((belowV s t a n : Nat) : Int), s, t, belowA s t a n) := by
  obtain ⟨_, h1, h2⟩ := passed_spec s t a hn hn2
  have e1 : IntKind.u64.wrap (n : Int) = (n : Int) := by rw [IntKind.wrap_u64]; omega
  have e2 : IntKind.u64.wrap (-(n : Int)) = ((18446744073709551616 - n : Nat) : Int) := by rw [IntKind.wrap_u64]; omega
  unfold rng_below.f
  rw [e1, if_neg (by omega), e2, Int.tmod_eq_emod_of_nonneg (by omega), ← Int.natCast_emod]
  exact below_l0 s t hn hn2 _ a h1 h2

end Go.Proofs.Ytpobladocccnmaa
