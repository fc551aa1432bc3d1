/- The walks of math.Ldexp and what it calls, where the float is a plain positive one. -/
import Derived.Test.YtpobladocccnmaaUniJ
import Derived.Test.YtpobladocccnmaaFloatW
import Derived.WalkLawsBesides
import Derived.Laws.Externs
import Derived.Outline
namespace Go.Proofs.Ytpobladocccnmaa
open Go.RowKit Mix PBase UnifN
open Go.Proofs.YtpobladocccnmaaW.PrintWords Go.Proofs.YtpobladocccnmaaW.PrintLast Go.Proofs.YtpobladocccnmaaW.PrintMore
set_option linter.unusedVariables false
set_option linter.unusedSimpArgs false

theorem u64_bits_and (x c : Nat) (hx : x < 18446744073709551616) : (BitVec.ofInt 64 (x : Int)).toNat = x := by
  rw [BitVec.ofInt_natCast, BitVec.toNat_ofNat]; exact Nat.mod_eq_of_lt hx
theorem andNot_sign {x : Nat} (hx : x < 9223372036854775808) : bits .andNot .u64 (x : Int) 9223372036854775808 = (x : Int) := by
  have h1 := u64_bits_and x 0 (by omega)
  have h2 : (~~~ (BitVec.ofInt 64 (9223372036854775808 : Int))).toNat = 2 ^ 63 - 1 := by decide
  show IntKind.u64.wrap ((BitVec.ofInt 64 (x : Int) &&& ~~~ (BitVec.ofInt 64 (9223372036854775808 : Int))).toNat : Int) = _
  rw [BitVec.toNat_and, h1, h2, Nat.and_two_pow_sub_one_eq_mod, Nat.mod_eq_of_lt hx, IntKind.wrap_u64]
  omega
theorem tb52 : ∀ i, i < 64 → (9223372036854775807 - 9218868437227405312 + 9223372036854775808 : Nat).testBit i = (decide (i < 52) || decide (i = 63)) := by decide
theorem andNot_exp {x : Nat} (hx : x < 9223372036854775808) : bits .andNot .u64 (x : Int) 9218868437227405312 = ((x % 4503599627370496 : Nat) : Int) := by
  have h1 := u64_bits_and x 0 (by omega)
  have h2 : (~~~ (BitVec.ofInt 64 (9218868437227405312 : Int))).toNat = 9223372036854775807 - 9218868437227405312 + 9223372036854775808 := by decide
  show IntKind.u64.wrap ((BitVec.ofInt 64 (x : Int) &&& ~~~ (BitVec.ofInt 64 (9218868437227405312 : Int))).toNat : Int) = _
  rw [BitVec.toNat_and, h1, h2]
  have e : x &&& (9223372036854775807 - 9218868437227405312 + 9223372036854775808) = x % 2 ^ 52 := by
    apply Nat.eq_of_testBit_eq
    intro i
    rw [Nat.testBit_and, Nat.testBit_mod_two_pow]
    by_cases hi : i < 63
    · rw [tb52 i (by omega)]
      have : decide (i = 63) = false := decide_eq_false (by omega)
      rw [this]
      simp [Bool.and_comm]
    · have hp : 2 ^ 63 ≤ 2 ^ i := Nat.pow_le_pow_right (by omega) (by omega)
      have hx2 : x < 2 ^ i := Nat.lt_of_lt_of_le hx hp
      rw [Nat.testBit_lt_two_pow hx2]; simp
  rw [e, IntKind.wrap_u64]
  have p52 : (2 : Nat) ^ 52 = 4503599627370496 := by decide
  rw [p52]
  omega
theorem or_exp {a b : Nat} (ha : a < 4096) (hb : b < 4503599627370496) : bits .or .u64 (b : Int) ((a * 4503599627370496 : Nat) : Int) = ((a * 4503599627370496 + b : Nat) : Int) := by
  have h1 := u64_bits_and b 0 (by omega)
  have h2 := u64_bits_and (a * 4503599627370496) 0 (by omega)
  show IntKind.u64.wrap ((BitVec.ofInt 64 (b : Int) ||| BitVec.ofInt 64 ((a * 4503599627370496 : Nat) : Int)).toNat : Int) = _
  rw [BitVec.toNat_or, h1, h2]
  have p52 : (2 : Nat) ^ 52 = 4503599627370496 := by decide
  have e : b ||| a * 4503599627370496 = a * 4503599627370496 + b := by
    rw [Nat.or_comm, ← p52, ← Nat.shiftLeft_eq, Nat.shiftLeft_add_eq_or_of_lt (by omega)]
  rw [e, IntKind.wrap_u64]
  omega

theorem ord_f {x y : Nat} (hx : x < 9218868437227405312) (hy : y < 9218868437227405312) : FloatKind.f64.format.order x y = some (compare x y) := dord hx hy

set_option maxHeartbeats 1000000 in
set_option maxRecDepth 100000 in
theorem Abs_calls (b : Nat) (hb : b < 9223372036854775808) (w : World) :
    Calls Try.prog 82 #[.float .f64 b] w fun e w' => e = .returned (.float .f64 b) ∧ Below w.heap.size w w' := by
  have h1 := run_f64bits b
  have h2 := run_f64from (b : Int)
  have h3 := andNot_sign hb
  simp only [Int.toNat_natCast] at h2
  clear hb
  go_enter Try.func82, Try.ntmps82
  go_wp2
  go_ret
  exact ⟨rfl, Below.refl _ _⟩

set_option maxHeartbeats 1000000 in
set_option maxRecDepth 100000 in
theorem IsInf_calls (b : Nat) (hb : b < 9218868437227405312) (w : World) :
    Calls Try.prog 65 #[.float .f64 b, .int .i64 0] w fun e w' => e = .returned (.bool false) ∧ Below w.heap.size w w' := by
  have hA := Abs_calls b (by omega)
  have d1 : (FloatKind.f64.format.order b 9218868437227405311 == some .gt) = false := by
    rw [ord_f hb (by decide)]
    have : compare b 9218868437227405311 ≠ .gt := fun h => by rw [Nat.compare_eq_gt] at h; omega
    simpa using this
  have HA := Aside0.mk hA
  clear hA hb
  go_enter Try.func65, Try.ntmps65
  go_wp2_with fail
  refine (HA.out _).mono ?_
  rintro e w2 ⟨rfl, hb⟩
  have HB := Aside0.mk hb
  clear hb
  go_wp2
  go_ret
  exact ⟨rfl, HB.out⟩

set_option maxHeartbeats 1000000 in
set_option maxRecDepth 100000 in
theorem IsNaN_calls (b : Nat) (hb : b < 9218868437227405312) (w : World) :
    Calls Try.prog 66 #[.float .f64 b] w fun e w' => e = .returned (.bool false) ∧ Below w.heap.size w w' := by
  have d1 : (FloatKind.f64.format.order b b != some .eq) = false := by
    rw [ord_f hb hb, show compare b b = .eq from Nat.compare_eq_eq.2 rfl]; rfl
  clear hb
  go_enter Try.func66, Try.ntmps66
  go_wp2
  go_ret
  exact ⟨rfl, Below.refl _ _⟩

set_option maxHeartbeats 1000000 in
set_option maxRecDepth 100000 in
theorem normalize_calls (b : Nat) (hb0 : 4503599627370496 ≤ b) (hb : b < 9218868437227405312) (w : World) :
    Calls Try.prog 67 #[.float .f64 b] w fun e w' => e = .returned (.tuple #[.float .f64 b, .int .i64 0]) ∧ Below w.heap.size w w' := by
  have hA := Abs_calls b (by omega)
  have d1 : (FloatKind.f64.format.order b 4503599627370496 == some .lt) = false := by
    rw [ord_f hb (by decide)]
    have : compare b 4503599627370496 ≠ .lt := fun h => by rw [Nat.compare_eq_lt] at h; omega
    simpa using this
  have HA := Aside0.mk hA
  clear hA hb hb0
  go_enter Try.func67, Try.ntmps67
  go_wp2_with fail
  refine (HA.out _).mono ?_
  rintro e w2 ⟨rfl, hb⟩
  have HB := Aside0.mk hb
  clear hb
  go_wp2
  go_ret2
  exact ⟨rfl, HB.out⟩

theorem exp_field {a K : Nat} (h1 : 4503599627370496 ≤ K) (h2 : K < 9007199254740992) (ha : a ≤ 2045) : ((a * 4503599627370496 + K : Nat) : Int) / 4503599627370496 = ((a + 1 : Nat) : Int) := by omega
theorem frac_field {a K : Nat} (h1 : 4503599627370496 ≤ K) (h2 : K < 9007199254740992) : (a * 4503599627370496 + K) % 4503599627370496 = K - 4503599627370496 := by omega
theorem and_2047 {n : Nat} (h : n < 2048) : bits .and .i64 (n : Int) 2047 = (n : Int) := by
  have h1 : (BitVec.ofInt 64 (n : Int)).toNat = n := by rw [BitVec.ofInt_natCast, BitVec.toNat_ofNat]; exact Nat.mod_eq_of_lt (by omega)
  have h2 : (BitVec.ofInt 64 (2047 : Int)).toNat = 2 ^ 11 - 1 := by decide
  show IntKind.i64.wrap ((BitVec.ofInt 64 (n : Int) &&& BitVec.ofInt 64 (2047 : Int)).toNat : Int) = _
  rw [BitVec.toNat_and, h1, h2, Nat.and_two_pow_sub_one_eq_mod, Nat.mod_eq_of_lt (by omega), IntKind.wrap_i64]
  omega
theorem and_1 (m : Nat) (h : m < 9223372036854775808) : bits .and .i64 (m : Int) 1 = ((m % 2 : Nat) : Int) := by
  have h1 : (BitVec.ofInt 64 (m : Int)).toNat = m := by rw [BitVec.ofInt_natCast, BitVec.toNat_ofNat]; exact Nat.mod_eq_of_lt (by omega)
  have h2 : (BitVec.ofInt 64 (1 : Int)).toNat = 2 ^ 1 - 1 := by decide
  show IntKind.i64.wrap ((BitVec.ofInt 64 (m : Int) &&& BitVec.ofInt 64 (1 : Int)).toNat : Int) = _
  rw [BitVec.toNat_and, h1, h2, Nat.and_two_pow_sub_one_eq_mod, IntKind.wrap_i64]
  omega

set_option maxHeartbeats 2000000 in
set_option maxRecDepth 100000 in
theorem ldexp_calls (a K X : Nat) (h1 : 4503599627370496 ≤ K) (h2 : K < 9007199254740992) (ha : a ≤ 2044) (hX : X = a * 4503599627370496 + K) (e0 : Int) (a' Y : Nat) (he : (a' : Int) = a + e0) (ha1 : 0 < a') (ha2 : a' ≤ 2044) (hY : Y = a' * 4503599627370496 + K) (w : World) :
    Calls Try.prog 56 #[.float .f64 X, .int .i64 e0] w fun e w' => e = .returned (.float .f64 Y) ∧ Below w.heap.size w w' := by
  have hXl : X < 9218868437227405312 := by omega
  have hXg : 4503599627370496 ≤ X := by omega
  have HI := Aside0.mk (IsInf_calls X hXl)
  have HN := Aside0.mk (IsNaN_calls X hXl)
  have HZ := Aside0.mk (normalize_calls X hXg hXl)
  have d0 : (FloatKind.f64.format.order X 0 == some .eq) = false := by
    rw [ord_f hXl (by decide)]
    have : compare X 0 ≠ .eq := fun h => by rw [Nat.compare_eq_eq] at h; omega
    simpa using this
  have hb1 := run_f64bits X
  obtain ⟨A0, hA0⟩ : ∃ n : Nat, n = a + 1 := ⟨_, rfl⟩
  obtain ⟨A1, hA1⟩ : ∃ n : Nat, n = a' + 1 := ⟨_, rfl⟩
  have hf1 : ((X : Nat) : Int) / 4503599627370496 = (A0 : Int) := by rw [hX, hA0]; exact exp_field h1 h2 (by omega)
  obtain ⟨F, hF⟩ : ∃ n : Nat, n = K - 4503599627370496 := ⟨_, rfl⟩
  have hx1 : bits .andNot .u64 (X : Int) 9218868437227405312 = (F : Int) := by rw [andNot_exp (by omega), hX, frac_field h1 h2, hF]
  have hor : bits .or .u64 (F : Int) ((A1 : Int) * 4503599627370496) = (Y : Int) := by
    have h := or_exp (a := a' + 1) (b := K - 4503599627370496) (by omega) (by omega)
    have hYe : (a' + 1) * 4503599627370496 + (K - 4503599627370496) = Y := by omega
    rw [hYe, ← hF, ← hA1, Int.natCast_mul] at h
    exact h
  have hfr := run_f64from (Y : Int)
  simp only [Int.toNat_natCast] at hfr
  have hmul : floatBits .mul .f64 4607182418800017408 Y = some Y := by rw [hY]; exact one_mul64 h1 h2 ha2 ha1
  have hrun : ∀ w : World, (binOp .mul 63 (.float .f64 4607182418800017408) (.float .f64 Y)).run Try.prog w = .ok (.float .f64 Y) w := fun w => run_float_arith w .mul 63 .f64 _ _ _ hmul
  have hc1 : bits .and .i64 (A0 : Int) 2047 = (A0 : Int) := and_2047 (by omega)
  obtain ⟨E, hE⟩ : ∃ E : Int, E = e0 + ((A0 : Int) - 1023) := ⟨_, rfl⟩
  have hE1 : E + 1023 = (A1 : Int) := by omega
  have b1 : (A0 : Int) ≤ 2047 := by omega
  have b2 : (A1 : Int) ≤ 2047 := by omega
  have b3 : -3000 ≤ e0 := by omega
  have b4 : e0 ≤ 3000 := by omega
  have b5 : -1022 ≤ E := by omega
  have b6 : E ≤ 1023 := by omega
  have t1 : decide (E < -1075) = false := decide_eq_false (by omega)
  have t2 : decide (1023 < E) = false := decide_eq_false (by omega)
  have t3 : decide (E < -1022) = false := decide_eq_false (by omega)
  have hE2 := hE.symm
  clear hE hA0 hA1 hF
  clear hXl hXg h1 h2 hX hY hmul he ha ha1 ha2
  go_enter Try.func56, Try.ntmps56
  go_wp2_with fail
  refine (HI.out _).mono ?_
  rintro e w2 ⟨rfl, hb⟩
  have HB := Aside0.mk hb
  clear hb
  go_wp2_with fail
  refine (HN.out _).mono ?_
  rintro e w3 ⟨rfl, hb⟩
  replace HB := Aside0.mk (below_step HB.out hb)
  clear hb
  go_wp2_with fail
  refine (HZ.out _).mono ?_
  rintro e w4 ⟨rfl, hb⟩
  replace HB := Aside0.mk (below_step HB.out hb)
  clear hb
  go_wp2
  go_ret
  exact ⟨rfl, HB.out⟩

theorem Ldexp_calls (a K X : Nat) (h1 : 4503599627370496 ≤ K) (h2 : K < 9007199254740992) (ha : a ≤ 2044) (hX : X = a * 4503599627370496 + K) (e0 : Int) (a' Y : Nat) (he : (a' : Int) = a + e0) (ha1 : 0 < a') (ha2 : a' ≤ 2044) (hY : Y = a' * 4503599627370496 + K) (w : World) :
    Calls Try.prog 41 #[.float .f64 X, .int .i64 e0] w fun e w' => e = .returned (.float .f64 Y) ∧ Below w.heap.size w w' := by
  have H := Aside0.mk (ldexp_calls a K X h1 h2 ha hX e0 a' Y he ha1 ha2 hY)
  clear h1 h2 ha hX he ha1 ha2 hY
  go_enter Try.func41, Try.ntmps41
  go_wp2_with fail
  refine (H.out _).mono ?_
  rintro e w2 ⟨rfl, hb⟩
  have HB := Aside0.mk hb
  clear hb
  go_wp2
  go_ret
  exact ⟨rfl, HB.out⟩

set_option maxHeartbeats 1000000 in
set_option maxRecDepth 100000 in
theorem Ldexp_zero (e0 : Int) (w : World) :
    Calls Try.prog 41 #[.float .f64 0, .int .i64 e0] w fun e w' => e = .returned (.float .f64 0) ∧ Below w.heap.size w w' := by
  have d0 : (FloatKind.f64.format.order 0 0 == some .eq) = true := by decide
  go_enter Try.func41, Try.ntmps41
  go_wp2
  go_ret
  exact ⟨rfl, Below.refl _ _⟩

abbrev IsB (W : World) (g : Nat) (cs : Array Value) (t : Nat) : Prop := W.heap[g]? = some (.cells cs t (0, 0))
theorem next_e {e0 : Int} {i : Nat} (h1 : -10000 ≤ e0) (h2 : e0 ≤ 10000) (h3 : i ≤ 10000) : Value.int .i64 (wrap64 (e0 + (i : Int) + 1)) = .int .i64 (e0 + ((i + 1 : Nat) : Int)) := by
  rw [IntWalk.wrap64_in (e0 + (i : Int) + 1) (by omega)]; congr 1; omega
theorem pow_le {m m' i : Nat} (h : m = m' * 2 ^ i) (h0 : 0 < m') (h2 : m < 9223372036854775808) : i ≤ 64 := by
  by_cases hi : i ≤ 64
  · exact hi
  · have h1 : 2 ^ 65 ≤ 2 ^ i := Nat.pow_le_pow_right (by omega) (by omega)
    have h3 : 2 ^ i ≤ m' * 2 ^ i := Nat.le_mul_of_pos_left _ h0
    have h4 : (2 : Nat) ^ 65 = 36893488147419103232 := by decide
    omega
set_option maxHeartbeats 1000000 in
set_option maxRecDepth 100000 in
theorem reduced_calls (m : Nat) (hm : 0 < m) (hm2 : m < 9223372036854775808) (e0 : Int) (h1 : -10000 ≤ e0) (h2 : e0 ≤ 5000) (w : World) :
    Calls Try.prog 44 #[.int .i64 m, .int .i64 e0] w fun e w' => (∃ o t : Nat, m = o * 2 ^ t ∧ o % 2 = 1 ∧ e = .returned (.agg #[.int .i64 o, .int .i64 (e0 + (t : Int))])) ∧ Below w.heap.size w w' := by
  have HH := Aside0.mk (And.intro hm (And.intro hm2 (And.intro h1 h2)))
  clear hm hm2 h1 h2
  go_enter Try.func44, Try.ntmps44
  go_wp2_with fail
  have HI := Aside0.mk (blk_new w (Obj.cells #[.int .i64 0, .int .i64 0] 74))
  have HB := Aside0.mk (below_alloc (Below.refl w.heap.size w) (Obj.cells #[.int .i64 0, .int .i64 0] 74))
  generalize w.alloc (Obj.cells #[.int .i64 0, .int .i64 0] 74) = w1 at HI HB ⊢
  go_loopg [0, 1] m (fun kq v0 v1 w' => ∃ mm i : Nat, v0 = .int .i64 mm ∧ v1 = .int .i64 (e0 + (i : Int)) ∧ Aside0 (kq = mm ∧ 0 < mm ∧ m = mm * 2 ^ i ∧ mm < 9223372036854775808 ∧ i ≤ 64) ∧ Aside0 (IsB w' w.heap.size #[.int .i64 0, .int .i64 0] 74) ∧ Aside0 (Below w.heap.size w w'))
  case atStart => exact ⟨m, 0, rfl, by rw [Int.natCast_zero, Int.add_zero], ⟨⟨rfl, HH.out.1, by simp, HH.out.2.1, by omega⟩⟩, HI, HB⟩
  case round =>
    clear HI HB
    obtain ⟨mm, i, rfl, rfl, HM, HI, HB⟩ := hrel
    have ha := and_1 mm HM.out.2.2.2.1
    by_cases hp : mm % 2 = 0
    · have HP := Aside0.mk hp
      have d1 : (((mm % 2 : Nat) : Int) == 0) = true := by rw [hp]; rfl
      clear hp
      generalize ((mm % 2 : Nat) : Int) = mp at ha d1
      go_wp2
      go_roundg (gk / 2)
      case measure => have := HM.out; omega
      case rel =>
        have hMO := HM.out
        have hPO := HP.out
        have hpow : m = mm / 2 * 2 ^ (i + 1) := by
          rw [Nat.pow_succ', ← Nat.mul_assoc, Nat.div_mul_cancel (Nat.dvd_of_mod_eq_zero hPO)]; exact hMO.2.2.1
        exact ⟨mm / 2, i + 1, congrArg (Value.int .i64) (show (mm : Int) / 2 = ((mm / 2 : Nat) : Int) by omega), next_e (by have := HH.out; omega) (by have := HH.out; omega) (by omega), ⟨⟨by omega, by omega, hpow, by omega, pow_le hpow (by omega) HH.out.2.1⟩⟩, HI, HB⟩
    · have HP := Aside0.mk hp
      have d1 : (((mm % 2 : Nat) : Int) == 0) = false := by simp; omega
      clear hp
      generalize ((mm % 2 : Nat) : Int) = mp at ha d1
      have n0 := blk_cell HI.out 0
      have n1 := blk_cell HI.out 1
      simp only [List.getElem?_toArray, List.getElem?_cons_zero, List.getElem?_cons_succ] at n0 n1
      have rf0 := blk_frozen HI.out 0
      have rf1 := blk_frozen HI.out 1
      go_wp2
      have HE := blk_set (blk_set HI.out 0 (.int .i64 mm)) 1 (.int .i64 (e0 + (i : Int)))
      have e0' := (blk_cell HE 0).trans rfl
      have e1' := (blk_cell HE 1).trans rfl
      refine bodyPost_ret (v := .agg #[.int .i64 mm, .int .i64 (e0 + (i : Int))]) (by simp [results, Try.results44, go_sem, e0', e1']) rfl ?_
      exact ⟨⟨mm, i, HM.out.2.2.1, by have := HP.out; omega, rfl⟩, below_set (below_set HB.out (Nat.le_refl _)) (Nat.le_refl _)⟩
end Go.Proofs.Ytpobladocccnmaa
