/- bits.Parts at a plain positive float, and bits.Join where it comes out. -/
import Derived.Test.YtpobladocccnmaaUniW
import Derived.Laws.StructEq
namespace Go.Proofs.Ytpobladocccnmaa
open Go.RowKit Mix PBase UnifN
open Go.Proofs.YtpobladocccnmaaW.PrintWords Go.Proofs.YtpobladocccnmaaW.PrintLast Go.Proofs.YtpobladocccnmaaW.PrintMore
set_option linter.unusedVariables false
set_option linter.unusedSimpArgs false

theorem i64_bits (x : Nat) (hx : x < 9223372036854775808) : (BitVec.ofInt 64 (x : Int)).toNat = x := by
  rw [BitVec.ofInt_natCast, BitVec.toNat_ofNat]; exact Nat.mod_eq_of_lt (by omega)
theorem and_nat {x y : Nat} (hx : x < 9223372036854775808) (hy : y < 9223372036854775808) : bits .and .i64 (x : Int) (y : Int) = ((x &&& y : Nat) : Int) := by
  show IntKind.i64.wrap ((BitVec.ofInt 64 (x : Int) &&& BitVec.ofInt 64 (y : Int)).toNat : Int) = _
  rw [BitVec.toNat_and, i64_bits x hx, i64_bits y hy, IntKind.wrap_i64]
  have : x &&& y ≤ x := Nat.and_le_left
  omega
theorem or_nat {x y : Nat} (hx : x < 4611686018427387904) (hy : y < 4611686018427387904) : bits .or .i64 (x : Int) (y : Int) = ((x ||| y : Nat) : Int) := by
  show IntKind.i64.wrap ((BitVec.ofInt 64 (x : Int) ||| BitVec.ofInt 64 (y : Int)).toNat : Int) = _
  rw [BitVec.toNat_or, i64_bits x (by omega), i64_bits y (by omega), IntKind.wrap_i64]
  have : x ||| y < 2 ^ 62 := Nat.or_lt_two_pow (by omega) (by omega)
  have p : (2 : Nat) ^ 62 = 4611686018427387904 := by decide
  omega
theorem and_low {x k : Nat} (hx : x < 9223372036854775808) (hk : k ≤ 62) : bits .and .i64 (x : Int) ((2 ^ k - 1 : Nat) : Int) = ((x % 2 ^ k : Nat) : Int) := by
  have hp : (2 : Nat) ^ k ≤ 2 ^ 62 := Nat.pow_le_pow_right (by omega) hk
  have p : (2 : Nat) ^ 62 = 4611686018427387904 := by decide
  rw [and_nat hx (by omega), Nat.and_two_pow_sub_one_eq_mod]
theorem and_top {x k : Nat} (hx : x < 2 ^ k) : x &&& 2 ^ k = 0 := by
  apply Nat.eq_of_testBit_eq
  intro i
  rw [Nat.testBit_and, Nat.testBit_two_pow, Nat.zero_testBit]
  by_cases h : k = i
  · subst h; rw [Nat.testBit_lt_two_pow hx]; rfl
  · rw [decide_eq_false h, Bool.and_false]
theorem and_sign64 {x : Nat} (hx : x < 9223372036854775808) : bits .and .i64 (x : Int) (-9223372036854775808) = 0 := by
  have h2 : (BitVec.ofInt 64 (-9223372036854775808 : Int)).toNat = 2 ^ 63 := by decide
  show IntKind.i64.wrap ((BitVec.ofInt 64 (x : Int) &&& BitVec.ofInt 64 (-9223372036854775808 : Int)).toNat : Int) = _
  rw [BitVec.toNat_and, i64_bits x hx, h2, and_top (by omega)]
  rfl
theorem and_sign32 {x : Nat} (hx : x < 2147483648) : bits .and .i64 (x : Int) 2147483648 = 0 := by
  have h2 : (BitVec.ofInt 64 (2147483648 : Int)).toNat = 2 ^ 31 := by decide
  show IntKind.i64.wrap ((BitVec.ofInt 64 (x : Int) &&& BitVec.ofInt 64 (2147483648 : Int)).toNat : Int) = _
  rw [BitVec.toNat_and, i64_bits x (by omega), h2, and_top (by omega)]
  rfl
theorem or_top {b k : Nat} (hb : b < 2 ^ k) (hk : k ≤ 61) : bits .or .i64 (b : Int) ((2 ^ k : Nat) : Int) = ((2 ^ k + b : Nat) : Int) := by
  have hp : (2 : Nat) ^ k ≤ 2 ^ 61 := Nat.pow_le_pow_right (by omega) hk
  have p : (2 : Nat) ^ 61 = 2305843009213693952 := by decide
  rw [or_nat (by omega) (by omega), Nat.or_comm]
  have h := Nat.shiftLeft_add_eq_or_of_lt hb 1
  rw [Nat.one_shiftLeft] at h
  rw [← h]

set_option maxRecDepth 100000 in
theorem Parts64 {a K : Nat} (k : Nat) (h1 : 4503599627370496 ≤ K) (h2 : K < 9007199254740992) (ha : a ≤ 2000) :
    PParts.bits_Parts.f (k + 1) ((a * 4503599627370496 + K : Nat) : Int) 64 = some (false, (K : Int), -1074 + (a : Int), true) := by
  obtain ⟨X, hX⟩ : ∃ X, X = a * 4503599627370496 + K := ⟨_, rfl⟩
  rw [← hX]
  have hXl : X < 9223372036854775808 := by omega
  have e1 : shr .i64 (X : Int) 52 = ((a + 1 : Nat) : Int) := by
    show (X : Int) / 2 ^ (52 : Nat) = _
    have : (2 : Int) ^ (52 : Nat) = 4503599627370496 := by decide
    rw [this, hX]; exact exp_field h1 h2 (by omega)
  have e2 : bits .and .i64 ((a + 1 : Nat) : Int) 2047 = ((a + 1 : Nat) : Int) := and_2047 (by omega)
  have e5 : shl .i64 1 52 = ((2 ^ 52 : Nat) : Int) := by decide
  have e3 : wrap64 (shl .i64 1 52 - 1) = ((2 ^ 52 - 1 : Nat) : Int) := by
    have p : (2 : Nat) ^ 52 = 4503599627370496 := by decide
    rw [e5, p]; unfold wrap64; omega
  have e4 : bits .and .i64 (X : Int) ((2 ^ 52 - 1 : Nat) : Int) = ((K - 4503599627370496 : Nat) : Int) := by
    rw [and_low hXl (by omega)]
    have : (2 : Nat) ^ 52 = 4503599627370496 := by decide
    rw [this, hX, frac_field h1 h2]
  have e6 : bits .or .i64 ((K - 4503599627370496 : Nat) : Int) ((2 ^ 52 : Nat) : Int) = (K : Int) := by
    have p : (2 : Nat) ^ 52 = 4503599627370496 := by decide
    rw [or_top (by omega) (by omega), p]
    omega
  have e7 := and_sign64 hXl
  have c1 : ¬ (((a + 1 : Nat) : Int) = 2047) := by omega
  have c2 : ¬ (((a + 1 : Nat) : Int) = 0) := by omega
  have hcl : PParts.bits_Class.f (k + 1) (X : Int) 64 = some 2 := by
    have hv : PParts.bits_Valid.f (X : Int) 64 = some true := rfl
    unfold PParts.bits_Class.f PParts.bits_of.f
    simp only [if_pos, Option.bind_some, hv, e1, e2, e3, e4]
    rw [if_pos (by decide), if_neg c1, PParts.bits_Class.j0, if_neg (by decide), if_neg c1, if_neg c2]
  unfold PParts.bits_Parts.f PParts.bits_of.f
  simp only [if_pos, Option.bind_some, hcl]
  rw [PParts.bits_Parts.j0, if_neg (by decide), if_pos (by decide)]
  rw [e1, e2, e3, e4, e5, e6, e7, if_pos (by omega)]
  have e8 : wrap64 (((a + 1 : Nat) : Int) - 1) = (a : Int) := by unfold wrap64; omega
  have e9 : mx (a : Int) 0 = (a : Int) := by unfold mx; rw [if_neg (by omega)]
  have e10 : wrap64 (-1074 + (a : Int)) = -1074 + (a : Int) := by unfold wrap64; omega
  rw [e8, e9, e10]
  rfl

set_option maxRecDepth 100000 in
theorem Parts32 {a K : Nat} (k : Nat) (h1 : 8388608 ≤ K) (h2 : K < 16777216) (ha : a ≤ 200) :
    PParts.bits_Parts.f (k + 1) ((a * 8388608 + K : Nat) : Int) 32 = some (false, (K : Int), -149 + (a : Int), true) := by
  obtain ⟨X, hX⟩ : ∃ X, X = a * 8388608 + K := ⟨_, rfl⟩
  rw [← hX]
  have hXl : X < 2147483648 := by omega
  have e1 : shr .i64 (X : Int) 23 = ((a + 1 : Nat) : Int) := by
    show (X : Int) / 2 ^ (23 : Nat) = _
    have : (2 : Int) ^ (23 : Nat) = 8388608 := by decide
    rw [this, hX]; omega
  have e2 : bits .and .i64 ((a + 1 : Nat) : Int) 255 = ((a + 1 : Nat) : Int) := by
    have h := and_low (x := a + 1) (k := 8) (by omega) (by omega)
    rw [Nat.mod_eq_of_lt (show a + 1 < 2 ^ 8 by omega)] at h
    exact h
  have e5 : shl .i64 1 23 = ((2 ^ 23 : Nat) : Int) := by decide
  have e3 : wrap64 (shl .i64 1 23 - 1) = ((2 ^ 23 - 1 : Nat) : Int) := by
    have p : (2 : Nat) ^ 23 = 8388608 := by decide
    rw [e5, p]; unfold wrap64; omega
  have e4 : bits .and .i64 (X : Int) ((2 ^ 23 - 1 : Nat) : Int) = ((K - 8388608 : Nat) : Int) := by
    rw [and_low (by omega) (by omega)]
    have : (2 : Nat) ^ 23 = 8388608 := by decide
    rw [this, hX]; omega
  have e6 : bits .or .i64 ((K - 8388608 : Nat) : Int) ((2 ^ 23 : Nat) : Int) = (K : Int) := by
    have p : (2 : Nat) ^ 23 = 8388608 := by decide
    rw [or_top (by omega) (by omega), p]
    omega
  have e7 := and_sign32 hXl
  have c1 : ¬ (((a + 1 : Nat) : Int) = 255) := by omega
  have c2 : ¬ (((a + 1 : Nat) : Int) = 0) := by omega
  have hcl : PParts.bits_Class.f (k + 1) (X : Int) 32 = some 2 := by
    have hv : PParts.bits_Valid.f (X : Int) 32 = some true := by
      unfold PParts.bits_Valid.f
      rw [if_neg (by decide), if_pos rfl]
      congr 1
      rw [beq_iff_eq]
      omega
    unfold PParts.bits_Class.f PParts.bits_of.f
    rw [if_neg (by decide), if_pos rfl]
    simp only [if_pos, Option.bind_some, hv, e1, e2, e3, e4]
    rw [if_pos (by decide), if_neg c1, PParts.bits_Class.j0, if_neg (by decide), if_neg c1, if_neg c2]
  unfold PParts.bits_Parts.f PParts.bits_of.f
  rw [if_neg (by decide), if_pos rfl]
  simp only [if_pos, Option.bind_some, hcl]
  rw [PParts.bits_Parts.j0, if_neg (by decide), if_pos (by decide)]
  rw [e1, e2, e3, e4, e5, e6, e7, if_pos (by omega)]
  have e8 : wrap64 (((a + 1 : Nat) : Int) - 1) = (a : Int) := by unfold wrap64; omega
  have e9 : mx (a : Int) 0 = (a : Int) := by unfold mx; rw [if_neg (by omega)]
  have e10 : wrap64 (-149 + (a : Int)) = -149 + (a : Int) := by unfold wrap64; omega
  rw [e8, e9, e10]
  rfl
theorem Parts_zero64 : PParts.bits_Parts.f 1 0 64 = some (false, 0, -1074, true) := by decide +kernel
theorem Parts_zero32 : PParts.bits_Parts.f 1 0 32 = some (false, 0, -149, true) := by decide +kernel

theorem equal_two (o e : Int) (w : World) : (Op.equalIn 10000 74 (.agg #[.int .i64 o, .int .i64 e]) (.agg #[.int .i64 o, .int .i64 e])).run Try.prog w = .ok true w := by
  rw [Op.equalIn]
  have hsz : ∀ w, (sizeOf 3).run Try.prog w = .ok 1 w := fun _ => by kernel_rfl
  simp only [Sem.run_bind, run_underlying Try.underlying74, Result.andThen_ok, hsz, Std.Legacy.Range.forIn_eq_forIn_range', Std.Legacy.Range.size, Nat.sub_zero, Nat.add_sub_cancel, Nat.div_one]
  have hr : List.range' 0 2 1 = [0, 1] := rfl
  rw [hr]
  have pe : ∀ x : Int, (Op.equalIn 9999 3 (.int .i64 x) (.int .i64 x)).run Try.prog w = .ok true w := fun x => by
    rw [run_equalIn_int w 9998 3 .i64 .i64 _ _ Try.underlying3]; simp
  simp [List.forIn_cons, Sem.run_bind, part, isAgg, run_underlying Try.underlying3, pe]

set_option maxHeartbeats 2000000 in
set_option maxRecDepth 100000 in
theorem Join64_calls (m : Nat) (hm : 0 < m) (h : m < 9007199254740992) (w : World) :
    Calls Try.prog 20 #[.bool false, .int .i64 m, .int .i64 (-53), .int .i64 64] w fun e w' => e = .returned (.tuple #[.int .i64 (uni64 m : Nat), .bool true]) ∧ Below w.heap.size w w' := by
  have hl := log53 h (by omega)
  have hf := full_lt (fb := 52) (m := m) (by omega) h
  have hg := full_ge (fb := 52) (m := m) (by omega) h
  have p53 : (2 : Nat) ^ (52 + 1) = 9007199254740992 := by decide
  have p52 : (2 : Nat) ^ 52 = 4503599627370496 := by decide
  rw [p53] at hf
  rw [p52] at hg
  have hu : uni64 m = (m.log2 + 969) * 4503599627370496 + full 52 m := by unfold uni64; rw [if_neg (by omega)]
  have hX : floatOfInt .f64 (m : Int) = (m.log2 + 1022) * 4503599627370496 + full 52 m := by
    have h1 : ¬ ((m : Int) < 0) := by omega
    have h2 : floatOfInt .f64 (m : Int) = Ieee.double.nearest false m 0 := by
      unfold floatOfInt FloatKind.nearest FloatKind.encode
      rw [show decide ((m : Int) < 0) = false from decide_eq_false h1]; rfl
    rw [h2, of53 h, if_neg (by omega)]
  have HL := Aside0.mk (Ldexp_calls (m.log2 + 1022) (full 52 m) (floatOfInt .f64 (m : Int)) hg hf (by omega) hX (-53) (m.log2 + 969) (uni64 m) (by omega) (by omega) (by omega) hu)
  have HP := Aside0.mk (show PParts.bits_Parts.f 1 (uni64 m : Nat) 64 = some (false, (full 52 m : Int), -1074 + ((m.log2 + 969 : Nat) : Int), true) by rw [hu]; exact Parts64 0 hg hf (by omega))
  obtain ⟨s, hs⟩ : ∃ s, s = 52 - m.log2 := ⟨_, rfl⟩
  have HE := Aside0.mk (show -1074 + ((m.log2 + 969 : Nat) : Int) = -53 - (s : Int) ∧ full 52 m = m * 2 ^ s ∧ s ≤ 52 from ⟨by omega, by rw [hs]; rfl, by omega⟩)
  have HU := Aside0.mk (show uni64 m < 9218868437227405312 by have := uni64_lt h; omega)
  have HM := Aside0.mk (And.intro hm h)
  have HFK := Aside0.mk (show 0 < full 52 m ∧ full 52 m < 9223372036854775808 by omega)
  have d0 : decide ((m : Int) < 0) = false := decide_eq_false (by omega)
  generalize hXX : floatOfInt .f64 (m : Int) = X at HL
  clear hl hf hg p53 p52 hu hX hs hm h
  obtain ⟨U, hUU⟩ : ∃ U, U = uni64 m := ⟨_, rfl⟩
  rw [← hUU] at HL HP HU ⊢
  clear hUU
  obtain ⟨KK, hKK⟩ : ∃ U, U = full 52 m := ⟨_, rfl⟩
  rw [← hKK] at HP HE HFK
  clear hKK
  obtain ⟨ee, hee⟩ : ∃ z, z = -1074 + ((m.log2 + 969 : Nat) : Int) := ⟨_, rfl⟩
  rw [← hee] at HP HE
  clear hee
  go_enter Try.func20, Try.ntmps20
  go_wp2_with fail
  refine (PParts.bits_of.calls 64 52 2047 (-1074) (-9223372036854775808) true w rfl).mono ?_
  rintro e w2 ⟨rfl, hb⟩
  have HB := Aside0.mk hb
  clear hb
  have HI := Aside0.mk (blk_new w2 (Obj.cells #[.int .i64 52, .int .i64 2047, .int .i64 (-1074), .int .i64 (-9223372036854775808)] 67))
  replace HB := Aside0.mk (below_alloc HB.out (Obj.cells #[.int .i64 52, .int .i64 2047, .int .i64 (-1074), .int .i64 (-9223372036854775808)] 67))
  go_wp2_with fail
  clear hXX d0
  generalize w2.alloc (Obj.cells #[.int .i64 52, .int .i64 2047, .int .i64 (-1074), .int .i64 (-9223372036854775808)] 67) = w3 at HI HB ⊢
  generalize w2.heap.size = g at HI ⊢
  refine (HL.out w3).mono ?_
  rintro e w4 ⟨rfl, hb⟩
  replace HB := Aside0.mk (below_step HB.out hb)
  replace HI := Aside0.mk (blk_below HI.out hb)
  clear hb
  go_wp2_with fail
  refine (Of_calls U HU.out w4).mono ?_
  rintro e w5 ⟨rfl, hb⟩
  replace HB := Aside0.mk (below_step HB.out hb)
  replace HI := Aside0.mk (blk_below HI.out hb)
  clear hb
  go_wp2_with fail
  refine (PParts.bits_Parts.calls 1 (U : Int) 64 false (KK : Int) ee true w5 HP.out).mono ?_
  rintro e w6 ⟨rfl, hb⟩
  replace HB := Aside0.mk (below_step HB.out hb)
  replace HI := Aside0.mk (blk_below HI.out hb)
  clear hb
  have hK0 := HFK.out.1
  have hm0 := HM.out.1
  have d1 : ((KK : Int) == 0) = false := by simp; omega
  have d2 : ((m : Int) == 0) = false := by simp; omega
  clear hK0 hm0
  go_wp2_with fail
  refine (reduced_calls KK HFK.out.1 HFK.out.2 ee (by have := HE.out; omega) (by have := HE.out; omega) w6).mono ?_
  rintro e w7 ⟨⟨o, t, ho, hodd, rfl⟩, hb⟩
  replace HB := Aside0.mk (below_step HB.out hb)
  replace HI := Aside0.mk (blk_below HI.out hb)
  have HO := Aside0.mk (And.intro ho hodd)
  clear hb ho hodd
  go_wp2_with fail
  refine (reduced_calls m HM.out.1 (by have := HM.out.2; omega) (-53) (by omega) (by omega) w7).mono ?_
  rintro e w8 ⟨⟨o2, t2, ho2, hodd2, rfl⟩, hb⟩
  replace HB := Aside0.mk (below_step HB.out hb)
  replace HI := Aside0.mk (blk_below HI.out hb)
  obtain ⟨hoo, htt⟩ : o = o2 ∧ ee + (t : Int) = -53 + (t2 : Int) := by
    obtain ⟨h1, h2, _⟩ := HE.out
    have h3 := HO.out.1
    rw [h2, ho2, Nat.mul_assoc, ← Nat.pow_add] at h3
    obtain ⟨h4, h5⟩ := odd_once h3 hodd2 HO.out.2
    exact ⟨h4.symm, by omega⟩
  clear hb ho2 hodd2
  rw [← hoo, ← htt]
  clear hoo htt HO
  generalize ee + (t : Int) = et
  have hel : decide (ee < -1074) = false := decide_eq_false (by have := HE.out; omega)
  have c2 := (blk_cell HI.out 2).trans rfl
  have hq := equal_two o et

  go_wp2
  go_ret2
  exact ⟨rfl, HB.out⟩

set_option maxHeartbeats 2000000 in
set_option maxRecDepth 100000 in
theorem Join32_calls (m : Nat) (hm : 0 < m) (h : m < 16777216) (w : World) :
    Calls Try.prog 20 #[.bool false, .int .i64 m, .int .i64 (-24), .int .i64 32] w fun e w' => e = .returned (.tuple #[.int .i64 (uni32 m : Nat), .bool true]) ∧ Below w.heap.size w w' := by
  have hl := log24 h (by omega)
  have h53 : m < 9007199254740992 := by omega
  have hf := full_lt (fb := 52) (m := m) (by omega) h53
  have hg := full_ge (fb := 52) (m := m) (by omega) h53
  have hf2 := full_lt (fb := 23) (m := m) (by omega) h
  have hg2 := full_ge (fb := 23) (m := m) (by omega) h
  have p53 : (2 : Nat) ^ (52 + 1) = 9007199254740992 := by decide
  have p52 : (2 : Nat) ^ 52 = 4503599627370496 := by decide
  have p24 : (2 : Nat) ^ (23 + 1) = 16777216 := by decide
  have p23 : (2 : Nat) ^ 23 = 8388608 := by decide
  rw [p53] at hf
  rw [p52] at hg
  rw [p24] at hf2
  rw [p23] at hg2
  have hu : uni32 m = (m.log2 + 102) * 8388608 + full 23 m := by unfold uni32; rw [if_neg (by omega)]
  have hX : floatOfInt .f64 (m : Int) = (m.log2 + 1022) * 4503599627370496 + full 52 m := by
    have h1 : ¬ ((m : Int) < 0) := by omega
    have h2 : floatOfInt .f64 (m : Int) = Ieee.double.nearest false m 0 := by
      unfold floatOfInt FloatKind.nearest FloatKind.encode
      rw [show decide ((m : Int) < 0) = false from decide_eq_false h1]; rfl
    rw [h2, of53 h53, if_neg (by omega)]
  have HL := Aside0.mk (Ldexp_calls (m.log2 + 1022) (full 52 m) (floatOfInt .f64 (m : Int)) hg hf (by omega) hX (-24) (m.log2 + 998) (dbl24 m) (by omega) (by omega) (by omega) rfl)
  have HP := Aside0.mk (show PParts.bits_Parts.f 1 (uni32 m : Nat) 32 = some (false, (full 23 m : Int), -149 + ((m.log2 + 102 : Nat) : Int), true) by rw [hu]; exact Parts32 0 hg2 hf2 (by omega))
  have hcv : ∀ w : World, (convert 63 65 (.float .f64 (dbl24 m))).run Try.prog w = .ok (.float .f32 (uni32 m)) w := fun w => run_convert_float_float w 63 65 .f64 .f32 _ _ (by kernel_rfl) Try.underlying65 (narrow24 h (by omega))
  have HD := Aside0.mk (show dbl24 m < 9218868437227405312 by unfold dbl24; omega)
  obtain ⟨s, hs⟩ : ∃ s, s = 23 - m.log2 := ⟨_, rfl⟩
  have HE := Aside0.mk (show -149 + ((m.log2 + 102 : Nat) : Int) = -24 - (s : Int) ∧ full 23 m = m * 2 ^ s ∧ s ≤ 23 from ⟨by omega, by rw [hs]; rfl, by omega⟩)
  have HU := Aside0.mk (show uni32 m < 2139095040 by have := uni32_lt h; omega)
  have HM := Aside0.mk (And.intro hm h)
  have HFK := Aside0.mk (show 0 < full 23 m ∧ full 23 m < 9223372036854775808 by omega)
  have d0 : decide ((m : Int) < 0) = false := decide_eq_false (by omega)
  generalize hXX : floatOfInt .f64 (m : Int) = X at HL
  clear hl hf hg hf2 hg2 p53 p52 p24 p23 hu hX hs hm h h53
  obtain ⟨U, hUU⟩ : ∃ U, U = uni32 m := ⟨_, rfl⟩
  rw [← hUU] at HP HU hcv ⊢
  clear hUU
  generalize dbl24 m = D at HL HD hcv
  obtain ⟨KK, hKK⟩ : ∃ U, U = full 23 m := ⟨_, rfl⟩
  rw [← hKK] at HP HE HFK
  clear hKK
  obtain ⟨ee, hee⟩ : ∃ z, z = -149 + ((m.log2 + 102 : Nat) : Int) := ⟨_, rfl⟩
  rw [← hee] at HP HE
  clear hee
  go_enter Try.func20, Try.ntmps20
  go_wp2_with fail
  refine (PParts.bits_of.calls 32 23 255 (-149) 2147483648 true w rfl).mono ?_
  rintro e w2 ⟨rfl, hb⟩
  have HB := Aside0.mk hb
  clear hb
  have HI := Aside0.mk (blk_new w2 (Obj.cells #[.int .i64 23, .int .i64 255, .int .i64 (-149), .int .i64 2147483648] 67))
  replace HB := Aside0.mk (below_alloc HB.out (Obj.cells #[.int .i64 23, .int .i64 255, .int .i64 (-149), .int .i64 2147483648] 67))
  go_wp2_with fail
  clear hXX d0
  generalize w2.alloc (Obj.cells #[.int .i64 23, .int .i64 255, .int .i64 (-149), .int .i64 2147483648] 67) = w3 at HI HB ⊢
  generalize w2.heap.size = g at HI ⊢
  refine (HL.out w3).mono ?_
  rintro e w4 ⟨rfl, hb⟩
  replace HB := Aside0.mk (below_step HB.out hb)
  replace HI := Aside0.mk (blk_below HI.out hb)
  clear hb
  go_wp2_with fail
  refine (Of_calls D HD.out w4).mono ?_
  rintro e w4a ⟨rfl, hb⟩
  replace HB := Aside0.mk (below_step HB.out hb)
  replace HI := Aside0.mk (blk_below HI.out hb)
  clear hb
  go_wp2_with fail
  refine (Of32_calls U HU.out w4a).mono ?_
  rintro e w5 ⟨rfl, hb⟩
  replace HB := Aside0.mk (below_step HB.out hb)
  replace HI := Aside0.mk (blk_below HI.out hb)
  clear hb hcv
  go_wp2_with fail
  refine (PParts.bits_Parts.calls 1 (U : Int) 32 false (KK : Int) ee true w5 HP.out).mono ?_
  rintro e w6 ⟨rfl, hb⟩
  replace HB := Aside0.mk (below_step HB.out hb)
  replace HI := Aside0.mk (blk_below HI.out hb)
  clear hb
  have hK0 := HFK.out.1
  have hm0 := HM.out.1
  have d1 : ((KK : Int) == 0) = false := by simp; omega
  have d2 : ((m : Int) == 0) = false := by simp; omega
  clear hK0 hm0
  go_wp2_with fail
  refine (reduced_calls KK HFK.out.1 HFK.out.2 ee (by have := HE.out; omega) (by have := HE.out; omega) w6).mono ?_
  rintro e w7 ⟨⟨o, t, ho, hodd, rfl⟩, hb⟩
  replace HB := Aside0.mk (below_step HB.out hb)
  replace HI := Aside0.mk (blk_below HI.out hb)
  have HO := Aside0.mk (And.intro ho hodd)
  clear hb ho hodd
  go_wp2_with fail
  refine (reduced_calls m HM.out.1 (by have := HM.out.2; omega) (-24) (by omega) (by omega) w7).mono ?_
  rintro e w8 ⟨⟨o2, t2, ho2, hodd2, rfl⟩, hb⟩
  replace HB := Aside0.mk (below_step HB.out hb)
  replace HI := Aside0.mk (blk_below HI.out hb)
  obtain ⟨hoo, htt⟩ : o = o2 ∧ ee + (t : Int) = -24 + (t2 : Int) := by
    obtain ⟨h1, h2, _⟩ := HE.out
    have h3 := HO.out.1
    rw [h2, ho2, Nat.mul_assoc, ← Nat.pow_add] at h3
    obtain ⟨h4, h5⟩ := odd_once h3 hodd2 HO.out.2
    exact ⟨h4.symm, by omega⟩
  clear hb ho2 hodd2
  rw [← hoo, ← htt]
  clear hoo htt HO
  generalize ee + (t : Int) = et
  have hel : decide (ee < -149) = false := decide_eq_false (by have := HE.out; omega)
  have c2 := (blk_cell HI.out 2).trans rfl
  have hq := equal_two o et

  go_wp2
  go_ret2
  exact ⟨rfl, HB.out⟩

set_option maxHeartbeats 2000000 in
set_option maxRecDepth 100000 in
theorem Join64_zero (w : World) : Calls Try.prog 20 #[.bool false, .int .i64 0, .int .i64 (-53), .int .i64 64] w fun e w' => e = .returned (.tuple #[.int .i64 0, .bool true]) ∧ Below w.heap.size w w' := by
  have hXX : floatOfInt .f64 0 = 0 := by decide
  go_enter Try.func20, Try.ntmps20
  go_wp2_with fail
  refine (PParts.bits_of.calls 64 52 2047 (-1074) (-9223372036854775808) true w rfl).mono ?_
  rintro e w2 ⟨rfl, hb⟩
  have HB := Aside0.mk hb
  clear hb
  replace HB := Aside0.mk (below_alloc HB.out (Obj.cells #[.int .i64 52, .int .i64 2047, .int .i64 (-1074), .int .i64 (-9223372036854775808)] 67))
  go_wp2_with fail
  generalize w2.alloc (Obj.cells #[.int .i64 52, .int .i64 2047, .int .i64 (-1074), .int .i64 (-9223372036854775808)] 67) = w3 at HB ⊢
  refine (Ldexp_zero (-53) w3).mono ?_
  rintro e w4 ⟨rfl, hb⟩
  replace HB := Aside0.mk (below_step HB.out hb)
  clear hb
  go_wp2_with fail
  refine (Of_calls 0 (by decide) w4).mono ?_
  rintro e w5 ⟨rfl, hb⟩
  replace HB := Aside0.mk (below_step HB.out hb)
  clear hb
  go_wp2_with fail
  refine (PParts.bits_Parts.calls 1 0 64 false 0 (-1074) true w5 Parts_zero64).mono ?_
  rintro e w6 ⟨rfl, hb⟩
  replace HB := Aside0.mk (below_step HB.out hb)
  clear hb
  go_wp2
  go_ret2
  exact ⟨rfl, HB.out⟩

set_option maxHeartbeats 2000000 in
set_option maxRecDepth 100000 in
theorem Join32_zero (w : World) : Calls Try.prog 20 #[.bool false, .int .i64 0, .int .i64 (-24), .int .i64 32] w fun e w' => e = .returned (.tuple #[.int .i64 0, .bool true]) ∧ Below w.heap.size w w' := by
  have hcv : ∀ w : World, (convert 63 65 (.float .f64 0)).run Try.prog w = .ok (.float .f32 0) w := fun w => run_convert_float_float w 63 65 .f64 .f32 _ _ (by kernel_rfl) Try.underlying65 (by decide)
  have hXX : floatOfInt .f64 0 = 0 := by decide
  go_enter Try.func20, Try.ntmps20
  go_wp2_with fail
  refine (PParts.bits_of.calls 32 23 255 (-149) 2147483648 true w rfl).mono ?_
  rintro e w2 ⟨rfl, hb⟩
  have HB := Aside0.mk hb
  clear hb
  replace HB := Aside0.mk (below_alloc HB.out (Obj.cells #[.int .i64 23, .int .i64 255, .int .i64 (-149), .int .i64 2147483648] 67))
  go_wp2_with fail
  generalize w2.alloc (Obj.cells #[.int .i64 23, .int .i64 255, .int .i64 (-149), .int .i64 2147483648] 67) = w3 at HB ⊢
  refine (Ldexp_zero (-24) w3).mono ?_
  rintro e w4 ⟨rfl, hb⟩
  replace HB := Aside0.mk (below_step HB.out hb)
  clear hb
  go_wp2_with fail
  refine (Of_calls 0 (by decide) w4).mono ?_
  rintro e w4a ⟨rfl, hb⟩
  replace HB := Aside0.mk (below_step HB.out hb)
  clear hb
  go_wp2_with fail
  refine (Of32_calls 0 (by decide) w4a).mono ?_
  rintro e w5 ⟨rfl, hb⟩
  replace HB := Aside0.mk (below_step HB.out hb)
  clear hb
  go_wp2_with fail
  refine (PParts.bits_Parts.calls 1 0 32 false 0 (-149) true w5 Parts_zero32).mono ?_
  rintro e w6 ⟨rfl, hb⟩
  replace HB := Aside0.mk (below_step HB.out hb)
  clear hb
  go_wp2
  go_ret2
  exact ⟨rfl, HB.out⟩
end Go.Proofs.Ytpobladocccnmaa
