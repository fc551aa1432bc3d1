/- The walks of bits.Of, bits.Of32, bits.Float, bits.Float32, bits.wide, bits.Convert. -/
import Derived.Test.YtklomikdihlcgaaCheckP
import Derived.Test.YtklomikdihlcgaaFcP
import Derived.WalkLawsBesides
import Derived.Laws.Externs
import Derived.Outline
namespace Go.Proofs.Ytklomikdihlcgaa
open Go.RowKit PBase
open Go.Proofs.YtklomikdihlcgaaW.PrintWords Go.Proofs.YtklomikdihlcgaaW.PrintLast Go.Proofs.YtklomikdihlcgaaW.PrintMore
set_option linter.unusedVariables false
set_option linter.unusedSimpArgs false

theorem run_f64bits (b : Nat) (w : World) : (callFunc 101 #[.float .f64 b]).run Try.prog w = .ok (.value (.int .u64 b)) w := by
  rw [run_callFunc_extern (e := Extern.MathFloatBits.float64bits) Try.func101 (by kernel_rfl) (by kernel_rfl) (by kernel_rfl) (by kernel_rfl)]; rfl
theorem run_f32bits (b : Nat) (w : World) : (callFunc 102 #[.float .f32 b]).run Try.prog w = .ok (.value (.int .u32 b)) w := by
  rw [run_callFunc_extern (e := Extern.MathFloatBits.float32bits) Try.func102 (by kernel_rfl) (by kernel_rfl) (by kernel_rfl) (by kernel_rfl)]; rfl
theorem run_f64from (b : Int) (w : World) : (callFunc 108 #[.int .u64 b]).run Try.prog w = .ok (.value (.float .f64 b.toNat)) w := by
  rw [run_callFunc_extern (e := Extern.MathFloatBits.float64frombits) Try.func108 (by kernel_rfl) (by kernel_rfl) (by kernel_rfl) (by kernel_rfl)]; rfl
theorem run_f32from (b : Int) (w : World) : (callFunc 109 #[.int .u32 b]).run Try.prog w = .ok (.value (.float .f32 b.toNat)) w := by
  rw [run_callFunc_extern (e := Extern.MathFloatBits.float32frombits) Try.func109 (by kernel_rfl) (by kernel_rfl) (by kernel_rfl) (by kernel_rfl)]; rfl

theorem cmp_self (z : Int) : compare z z = .eq := by simp
theorem order_self (f : Ieee.Format) (x : Nat) : f.order x x = if (f.read x).isNaN = true then none else some .eq := by
  unfold Ieee.Format.order
  cases f.read x with
  | number s m p => exact congrArg some (cmp_self _)
  | infinity s => cases s <;> rfl
  | nan s m => rfl

set_option maxHeartbeats 1000000 in
set_option maxRecDepth 100000 in
theorem Of_calls (b : Nat) (hn : (Ieee.double.read b).isNaN = false) (w : World) :
    Calls Try.prog 90 #[.float .f64 b] w fun e w' => e = .returned (.int .i64 (wrap64 b)) ∧ Below w.heap.size w w' := by
  have d1 : (FloatKind.f64.format.order b b != some .eq) = false := by rw [show FloatKind.f64.format = Ieee.double from rfl, order_self, hn]; rfl
  have hr := run_f64bits b
  go_enter Try.func90, Try.ntmps90
  go_wp2
  go_ret
  exact ⟨rfl, Below.refl _ _⟩
set_option maxHeartbeats 1000000 in
set_option maxRecDepth 100000 in
theorem Of_nan (b : Nat) (hn : (Ieee.double.read b).isNaN = true) (w : World) :
    Calls Try.prog 90 #[.float .f64 b] w fun e w' => e = .returned (.int .i64 9221120237041090561) ∧ Below w.heap.size w w' := by
  have d1 : (FloatKind.f64.format.order b b != some .eq) = true := by rw [show FloatKind.f64.format = Ieee.double from rfl, order_self, hn]; rfl
  go_enter Try.func90, Try.ntmps90
  go_wp2
  go_ret
  exact ⟨rfl, Below.refl _ _⟩
set_option maxHeartbeats 1000000 in
set_option maxRecDepth 100000 in
theorem Of32_calls (b : Nat) (hb : b < 2 ^ 32) (hn : (Ieee.single.read b).isNaN = false) (w : World) :
    Calls Try.prog 91 #[.float .f32 b] w fun e w' => e = .returned (.int .i64 b) ∧ Below w.heap.size w w' := by
  have d1 : (FloatKind.f32.format.order b b != some .eq) = false := by rw [show FloatKind.f32.format = Ieee.single from rfl, order_self, hn]; rfl
  have hr := run_f32bits b
  have hw : wrap64 (b : Int) = (b : Int) := by unfold wrap64; omega
  go_enter Try.func91, Try.ntmps91
  go_wp2
  go_ret
  exact ⟨rfl, Below.refl _ _⟩
set_option maxHeartbeats 1000000 in
set_option maxRecDepth 100000 in
theorem Of32_nan (b : Nat) (hn : (Ieee.single.read b).isNaN = true) (w : World) :
    Calls Try.prog 91 #[.float .f32 b] w fun e w' => e = .returned (.int .i64 2143289345) ∧ Below w.heap.size w w' := by
  have d1 : (FloatKind.f32.format.order b b != some .eq) = true := by rw [show FloatKind.f32.format = Ieee.single from rfl, order_self, hn]; rfl
  go_enter Try.func91, Try.ntmps91
  go_wp2
  go_ret
  exact ⟨rfl, Below.refl _ _⟩

set_option maxHeartbeats 1000000 in
set_option maxRecDepth 100000 in
theorem Float_calls (x : Int) (w : World) :
    Calls Try.prog 99 #[.int .i64 x] w fun e w' => e = .returned (.float .f64 (x % 18446744073709551616).toNat) ∧ Below w.heap.size w w' := by
  have hr := run_f64from
  go_enter Try.func99, Try.ntmps99
  go_wp2
  go_ret
  exact ⟨rfl, Below.refl _ _⟩
set_option maxHeartbeats 1000000 in
set_option maxRecDepth 100000 in
theorem Float32_calls (b : Nat) (hb : b < 4294967296) (w : World) :
    Calls Try.prog 100 #[.int .i64 b] w fun e w' => e = .returned (.float .f32 b) ∧ Below w.heap.size w w' := by
  have hr := run_f32from
  have hv : bits_Valid.f (b : Int) 32 = some true := by rw [valid_eq _ _ (.inl rfl)]; simp [badB]; omega
  have hm : ((b : Int) % 4294967296) = (b : Int) := Int.emod_eq_of_lt (by omega) (by omega)
  have hm2 : ((b : Int) % 4294967296).toNat = b := by rw [hm]; rfl
  go_enter Try.func100, Try.ntmps100
  go_wp2_with fail
  refine (bits_Valid.calls b 32 true w hv).mono ?_
  rintro e w1 ⟨rfl, hb1⟩
  have HB := Aside0.mk hb1
  go_wp2
  go_ret
  exact ⟨rfl, HB.out.below⟩

set_option maxHeartbeats 1000000 in
set_option maxRecDepth 100000 in
theorem wide_64 (x : Int) (w : World) :
    Calls Try.prog 89 #[.int .i64 x, .int .i64 64] w fun e w' => e = .returned (.tuple #[.float .f64 (x % 18446744073709551616).toNat, .bool true]) ∧ Below w.heap.size w w' := by
  go_enter Try.func89, Try.ntmps89
  go_wp2_with fail
  refine (Float_calls x w).mono ?_
  rintro e w1 ⟨rfl, hb1⟩
  have HB := Aside0.mk hb1
  go_wp2
  exact bodyPost_ret (v := .tuple #[.float .f64 (x % 18446744073709551616).toNat, .bool true]) (by simp [results, Try.results89, go_sem]) rfl ⟨rfl, HB.out⟩
theorem widen_run {b : Nat} (hb : b < 2 ^ 32) (hn : (Ieee.single.read b).isNaN = false) (W : World) : (convert 115 110 (.float .f32 b)).run Try.prog W = .ok (.float .f64 (wid b)) W :=
  run_convert_float_float W 115 110 .f32 .f64 b _ (by kernel_rfl) Try.underlying110 (wid_ok hb hn).1
theorem narrow_run {b : Nat} (hb : b < 2 ^ 32) (hn : (Ieee.single.read b).isNaN = false) (W : World) : (convert 110 115 (.float .f64 (wid b))).run Try.prog W = .ok (.float .f32 b) W :=
  run_convert_float_float W 110 115 .f64 .f32 _ b (by kernel_rfl) Try.underlying115 (wid_ok hb hn).2.1
theorem read_nan (f : Ieee.Format) (s r : Nat) (hs : s < 2) (h1 : f.infRung < r) (h2 : r < f.signWeight) (hb : f.binade ≤ f.infRung) : (f.read (s * f.signWeight + r)).isNaN = true := by
  unfold Ieee.Format.read
  have hm : (s * f.signWeight + r) % f.signWeight = r := by rw [Nat.mul_comm, Nat.mul_add_mod, Nat.mod_eq_of_lt h2]
  simp only [hm]
  rw [if_neg (by omega), if_neg (by omega), if_neg (by omega)]
  rfl
theorem cut_nan64 (t x : Nat) : (Ieee.double.read ((Question.nanConv .f64 x).cut t)).isNaN = true := by
  have hw : Ieee.double.signWeight = 2 ^ 63 := by decide
  have hi : Ieee.double.infRung = 0x7ff0000000000000 := by decide
  have hm := Nat.mod_lt (t / 2) (show 0 < 2 ^ 52 - 1 by decide)
  have h := read_nan Ieee.double (t % 2) (0x7ff0000000000000 + 1 + (t / 2) % (2 ^ 52 - 1)) (Nat.mod_lt _ (by decide)) (by rw [hi]; omega) (by rw [hw]; omega) (by decide)
  rw [hw] at h
  have e : (Question.nanConv .f64 x).cut t = t % 2 * 2 ^ 63 + (0x7ff0000000000000 + 1 + (t / 2) % (2 ^ 52 - 1)) := by
    show t % 2 * 2 ^ 63 + 0x7ff0000000000000 + 1 + (t / 2) % (2 ^ 52 - 1) = _
    omega
  rw [e]; exact h
theorem cut_nan32 (t x : Nat) : (Ieee.single.read ((Question.nanConv .f32 x).cut t)).isNaN = true := by
  have hw : Ieee.single.signWeight = 2 ^ 31 := by decide
  have hi : Ieee.single.infRung = 0x7f800000 := by decide
  have hm := Nat.mod_lt (t / 2) (show 0 < 2 ^ 23 - 1 by decide)
  have h := read_nan Ieee.single (t % 2) (0x7f800000 + 1 + (t / 2) % (2 ^ 23 - 1)) (Nat.mod_lt _ (by decide)) (by rw [hi]; omega) (by rw [hw]; omega) (by decide)
  rw [hw] at h
  have e : (Question.nanConv .f32 x).cut t = t % 2 * 2 ^ 31 + (0x7f800000 + 1 + (t / 2) % (2 ^ 23 - 1)) := by
    show t % 2 * 2 ^ 31 + 0x7f800000 + 1 + (t / 2) % (2 ^ 23 - 1) = _
    omega
  rw [e]; exact h
theorem widen_nan {b : Nat} (hn : (Ieee.single.read b).isNaN = true) (W : World) : ∃ r, (Ieee.double.read r).isNaN = true ∧ (convert 115 110 (.float .f32 b)).run Try.prog W = .ok (.float .f64 r) W.drew := by
  obtain ⟨s, m, hd⟩ : ∃ s m, FloatKind.f32.decode b = .nan s m := by
    have : FloatKind.f32.decode b = Ieee.single.read b := rfl
    rw [this]
    revert hn
    cases Ieee.single.read b with
    | nan s m => exact fun _ => ⟨s, m, rfl⟩
    | _ => exact fun h => by cases h
  refine ⟨_, cut_nan64 (W.tape W.drawn (.nanConv .f64 b)) b, ?_⟩
  have h1 := Try.underlying115
  have h2 := Try.underlying110
  simp [convert, run_underlying h1, run_underlying h2, Conv.floatToFloat, hd, Question.forced]
theorem narrow_nan {b : Nat} (hn : (Ieee.double.read b).isNaN = true) (W : World) : ∃ r, (Ieee.single.read r).isNaN = true ∧ (convert 110 115 (.float .f64 b)).run Try.prog W = .ok (.float .f32 r) W.drew := by
  obtain ⟨s, m, hd⟩ : ∃ s m, FloatKind.f64.decode b = .nan s m := by
    have : FloatKind.f64.decode b = Ieee.double.read b := rfl
    rw [this]
    revert hn
    cases Ieee.double.read b with
    | nan s m => exact fun _ => ⟨s, m, rfl⟩
    | _ => exact fun h => by cases h
  refine ⟨_, cut_nan32 (W.tape W.drawn (.nanConv .f32 b)) b, ?_⟩
  have h1 := Try.underlying115
  have h2 := Try.underlying110
  simp [convert, run_underlying h1, run_underlying h2, Conv.floatToFloat, hd, Question.forced]

set_option maxHeartbeats 1000000 in
set_option maxRecDepth 100000 in
theorem wide_32 {b : Nat} (hb : b < 4294967296) (hn : (Ieee.single.read b).isNaN = false) (w : World) :
    Calls Try.prog 89 #[.int .i64 b, .int .i64 32] w fun e w' => e = .returned (.tuple #[.float .f64 (wid b), .bool true]) ∧ Below w.heap.size w w' := by
  have hr := widen_run hb hn
  go_enter Try.func89, Try.ntmps89
  go_wp2_with fail
  refine (Float32_calls b hb w).mono ?_
  rintro e w1 ⟨rfl, hb1⟩
  have HB := Aside0.mk hb1
  go_wp2
  exact bodyPost_ret (v := .tuple #[.float .f64 (wid b), .bool true]) (by simp [results, Try.results89, go_sem]) rfl ⟨rfl, HB.out⟩
set_option maxHeartbeats 1000000 in
set_option maxRecDepth 100000 in
theorem wide_nan {b : Nat} (hb : b < 4294967296) (hn : (Ieee.single.read b).isNaN = true) (w : World) :
    Calls Try.prog 89 #[.int .i64 b, .int .i64 32] w fun e w' => (∃ r, (Ieee.double.read r).isNaN = true ∧ e = .returned (.tuple #[.float .f64 r, .bool true])) ∧ Below w.heap.size w w' := by
  go_enter Try.func89, Try.ntmps89
  go_wp2_with fail
  refine (Float32_calls b hb w).mono ?_
  rintro e w1 ⟨rfl, hb1⟩
  have HB := Aside0.mk hb1
  obtain ⟨r, hr, hrun⟩ := widen_nan hn w1
  go_wp2
  exact bodyPost_ret (v := .tuple #[.float .f64 r, .bool true]) (by simp [results, Try.results89, go_sem]) rfl ⟨⟨r, hr, rfl⟩, Below.drew HB.out⟩

/-- a pattern of 32 bits as one of 64 -/
def up (b : Nat) : Int := if (Ieee.single.read b).isNaN = true then 9221120237041090561 else wrap64 (wid b)
theorem wid_lt (b : Nat) : wid b < 2 ^ 64 := Ieee.Format.write_lt Ieee.double _
theorem wid_back (b : Nat) : (wrap64 (wid b) % 18446744073709551616).toNat = wid b := by
  have h := wid_lt b
  unfold wrap64
  omega
set_option maxHeartbeats 1000000 in
set_option maxRecDepth 100000 in
theorem conv_up {b : Nat} (hb : b < 4294967296) (w : World) :
    Calls Try.prog 80 #[.int .i64 b, .int .i64 32, .int .i64 64] w fun e w' => e = .returned (.int .i64 (up b)) ∧ Below w.heap.size w w' := by
  cases hn : (Ieee.single.read b).isNaN with
  | false =>
    have hu : up b = wrap64 (wid b) := by unfold up; rw [if_neg (by rw [hn]; exact Bool.false_ne_true)]
    rw [hu]
    have hd := (wid_ok hb hn).2.2
    go_enter Try.func80, Try.ntmps80
    go_wp2_with fail
    refine (wide_32 hb hn w).mono ?_
    rintro e w1 ⟨rfl, hb1⟩
    have HB := Aside0.mk hb1
    go_wp2_with fail
    refine (Of_calls (wid b) hd _).mono ?_
    rintro e w2 ⟨rfl, hb2⟩
    have HB2 := Aside0.mk (below_step HB.out hb2)
    go_wp2
    go_ret
    exact ⟨rfl, HB2.out⟩
  | true =>
    have hu : up b = 9221120237041090561 := by unfold up; rw [if_pos hn]
    rw [hu]
    go_enter Try.func80, Try.ntmps80
    go_wp2_with fail
    refine (wide_nan hb hn w).mono ?_
    rintro e w1 ⟨⟨r, hr, rfl⟩, hb1⟩
    have HB := Aside0.mk hb1
    go_wp2_with fail
    refine (Of_nan r hr _).mono ?_
    rintro e w2 ⟨rfl, hb2⟩
    have HB2 := Aside0.mk (below_step HB.out hb2)
    go_wp2
    go_ret
    exact ⟨rfl, HB2.out⟩

/-- a pattern of 32 bits, its NaN the one -/
def canon32 (b : Nat) : Int := if (Ieee.single.read b).isNaN = true then 2143289345 else b
set_option maxHeartbeats 1000000 in
set_option maxRecDepth 100000 in
theorem conv_down {b : Nat} (hb : b < 4294967296) (w : World) :
    Calls Try.prog 80 #[.int .i64 (up b), .int .i64 64, .int .i64 32] w fun e w' => e = .returned (.int .i64 (canon32 b)) ∧ Below w.heap.size w w' := by
  cases hn : (Ieee.single.read b).isNaN with
  | false =>
    have hu : up b = wrap64 (wid b) := by unfold up; rw [if_neg (by rw [hn]; exact Bool.false_ne_true)]
    have hc : canon32 b = b := by unfold canon32; rw [if_neg (by rw [hn]; exact Bool.false_ne_true)]
    rw [hu, hc]
    have hr := narrow_run hb hn
    have hwb := wid_back b
    generalize wrap64 (wid b : Int) = X at hwb ⊢
    go_enter Try.func80, Try.ntmps80
    go_wp2_with fail
    refine (wide_64 X w).mono ?_
    rintro e w1 ⟨rfl, hb1⟩
    rw [hwb]
    have HB := Aside0.mk hb1
    go_wp2_with fail
    refine (Of32_calls b hb hn _).mono ?_
    rintro e w2 ⟨rfl, hb2⟩
    have HB2 := Aside0.mk (below_step HB.out hb2)
    go_wp2
    go_ret
    exact ⟨rfl, HB2.out⟩
  | true =>
    have hu : up b = 9221120237041090561 := by unfold up; rw [if_pos hn]
    have hc : canon32 b = 2143289345 := by unfold canon32; rw [if_pos hn]
    rw [hu, hc]
    go_enter Try.func80, Try.ntmps80
    go_wp2_with fail
    refine (wide_64 9221120237041090561 w).mono ?_
    rintro e w1 ⟨rfl, hb1⟩
    have e1 : ((9221120237041090561 : Int) % 18446744073709551616).toNat = 9221120237041090561 := by decide
    rw [e1]
    have hnn : (Ieee.double.read 9221120237041090561).isNaN = true := by decide +kernel
    have HB := Aside0.mk hb1
    obtain ⟨r, hr, hrun⟩ := narrow_nan hnn w1
    go_wp2_with fail
    refine (Of32_nan r hr _).mono ?_
    rintro e w2 ⟨rfl, hb2⟩
    have HB2 := Aside0.mk (below_step (Below.drew HB.out) hb2)
    go_wp2
    go_ret
    exact ⟨rfl, HB2.out⟩
set_option maxHeartbeats 1000000 in
set_option maxRecDepth 100000 in
theorem conv_same (x : Int) (h1 : -9223372036854775808 ≤ x) (h2 : x ≤ 9223372036854775807) (w : World) :
    Calls Try.prog 80 #[.int .i64 x, .int .i64 64, .int .i64 64] w fun e w' => e = .returned (.int .i64 (if (Ieee.double.read (x % 18446744073709551616).toNat).isNaN = true then 9221120237041090561 else x)) ∧ Below w.heap.size w w' := by
  have hx : wrap64 (((x % 18446744073709551616).toNat : Nat) : Int) = x := by unfold wrap64; omega
  by_cases hn : (Ieee.double.read (x % 18446744073709551616).toNat).isNaN = true
  · rw [if_pos hn]
    go_enter Try.func80, Try.ntmps80
    go_wp2_with fail
    refine (wide_64 x w).mono ?_
    rintro e w1 ⟨rfl, hb1⟩
    have HB := Aside0.mk hb1
    generalize (x % 18446744073709551616).toNat = X at hn hx ⊢
    go_wp2_with fail
    refine (Of_nan X hn _).mono ?_
    rintro e w2 ⟨rfl, hb2⟩
    have HB2 := Aside0.mk (below_step HB.out hb2)
    go_wp2
    go_ret
    exact ⟨rfl, HB2.out⟩
  · rw [if_neg hn]
    have hn : (Ieee.double.read (x % 18446744073709551616).toNat).isNaN = false := by cases h : (Ieee.double.read (x % 18446744073709551616).toNat).isNaN with | false => rfl | true => exact absurd h hn
    go_enter Try.func80, Try.ntmps80
    go_wp2_with fail
    refine (wide_64 x w).mono ?_
    rintro e w1 ⟨rfl, hb1⟩
    have HB := Aside0.mk hb1
    generalize (x % 18446744073709551616).toNat = X at hn hx ⊢
    go_wp2_with fail
    refine (Of_calls X hn _).mono ?_
    rintro e w2 ⟨rfl, hb2⟩
    have HB2 := Aside0.mk (below_step HB.out hb2)
    rw [hx]
    go_wp2
    go_ret
    exact ⟨rfl, HB2.out⟩
end Go.Proofs.Ytklomikdihlcgaa
