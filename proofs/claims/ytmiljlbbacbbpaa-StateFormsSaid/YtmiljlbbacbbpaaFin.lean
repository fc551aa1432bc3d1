/- The walks of bits.Of, bits.Of32, bits.Float, bits.Float32, bits.wide, bits.Convert. -/
import Derived.Test.YtmiljlbbacbbpaaPBasebitsValid
import Derived.Test.YtmiljlbbacbbpaaFcP
import Derived.WalkLawsBesides
import Derived.Laws.Externs
import Derived.Outline
namespace Go.Proofs.Ytmiljlbbacbbpaa
open Go.RowKit PBase
open Go.Proofs.YtmiljlbbacbbpaaW.PrintWords Go.Proofs.YtmiljlbbacbbpaaW.PrintLast Go.Proofs.YtmiljlbbacbbpaaW.PrintMore
set_option linter.unusedVariables false
set_option linter.unusedSimpArgs false

theorem drawn_trans {a b c : World} (h : Drawn0 a b) (k : Drawn0 b c) : Drawn0 a c := by
  obtain ⟨n, rfl⟩ := h.out
  obtain ⟨m, rfl⟩ := k.out
  exact ⟨⟨n + m, World.drewN_drewN ..⟩⟩
theorem drawn_drew {a b : World} (h : Drawn0 a b) : Drawn0 a b.drew := Drawn0.step h 1
theorem run_f64bits (b : Nat) (w : World) : (callFunc 64 #[.float .f64 b]).run Try.prog w = .ok (.value (.int .u64 b)) w := by
  rw [run_callFunc_extern (e := Extern.MathFloatBits.float64bits) Try.func64 (by kernel_rfl) (by kernel_rfl) (by kernel_rfl) (by kernel_rfl)]; rfl
theorem run_f64from (b : Int) (w : World) : (callFunc 63 #[.int .u64 b]).run Try.prog w = .ok (.value (.float .f64 b.toNat)) w := by
  rw [run_callFunc_extern (e := Extern.MathFloatBits.float64frombits) Try.func63 (by kernel_rfl) (by kernel_rfl) (by kernel_rfl) (by kernel_rfl)]; rfl
theorem run_f32from (b : Int) (w : World) : (callFunc 72 #[.int .u32 b]).run Try.prog w = .ok (.value (.float .f32 b.toNat)) w := by
  rw [run_callFunc_extern (e := Extern.MathFloatBits.float32frombits) Try.func72 (by kernel_rfl) (by kernel_rfl) (by kernel_rfl) (by kernel_rfl)]; rfl

theorem cmp_self (z : Int) : compare z z = .eq := by simp
theorem order_self (f : Ieee.Format) (x : Nat) : f.order x x = if (f.read x).isNaN = true then none else some .eq := by
  unfold Ieee.Format.order
  cases f.read x with
  | number s m p => exact congrArg some (cmp_self _)
  | infinity s => cases s <;> rfl
  | nan s m => rfl

set_option maxHeartbeats 1000000 in
set_option maxRecDepth 100000 in
theorem Of_calls (b : Nat) (hn : (Ieee.double.read b).isNaN = false) (w : World) :
    Calls Try.prog 66 #[.float .f64 b] w fun e w' => e = .returned (.int .i64 (wrap64 b)) ∧ Drawn0 w w' := by
  have d1 : (FloatKind.f64.format.order b b != some .eq) = false := by rw [show FloatKind.f64.format = Ieee.double from rfl, order_self, hn]; rfl
  have hr := run_f64bits b
  go_enter Try.func66, Try.ntmps66
  go_wp2
  go_ret
  exact ⟨rfl, Drawn0.refl _⟩
set_option maxHeartbeats 1000000 in
set_option maxRecDepth 100000 in
theorem Of_nan (b : Nat) (hn : (Ieee.double.read b).isNaN = true) (w : World) :
    Calls Try.prog 66 #[.float .f64 b] w fun e w' => e = .returned (.int .i64 9221120237041090561) ∧ Drawn0 w w' := by
  have d1 : (FloatKind.f64.format.order b b != some .eq) = true := by rw [show FloatKind.f64.format = Ieee.double from rfl, order_self, hn]; rfl
  go_enter Try.func66, Try.ntmps66
  go_wp2
  go_ret
  exact ⟨rfl, Drawn0.refl _⟩
set_option maxHeartbeats 1000000 in
set_option maxRecDepth 100000 in
theorem Float_calls (x : Int) (w : World) :
    Calls Try.prog 59 #[.int .i64 x] w fun e w' => e = .returned (.float .f64 (x % 18446744073709551616).toNat) ∧ Drawn0 w w' := by
  have hr := run_f64from
  go_enter Try.func59, Try.ntmps59
  go_wp2
  go_ret
  exact ⟨rfl, Drawn0.refl _⟩
set_option maxHeartbeats 1000000 in
set_option maxRecDepth 100000 in
theorem Float32_calls (b : Nat) (hb : b < 4294967296) (w : World) :
    Calls Try.prog 70 #[.int .i64 b] w fun e w' => e = .returned (.float .f32 b) ∧ Drawn0 w w' := by
  have hr := run_f32from
  have hv : bits_Valid.f (b : Int) 32 = some true := by unfold bits_Valid.f; rw [if_neg (by decide), if_pos rfl]; congr 1; rw [beq_iff_eq]; omega
  have hm : ((b : Int) % 4294967296) = (b : Int) := Int.emod_eq_of_lt (by omega) (by omega)
  have hm2 : ((b : Int) % 4294967296).toNat = b := by rw [hm]; rfl
  go_enter Try.func70, Try.ntmps70
  go_wp2_with fail
  refine (bits_Valid.calls b 32 true w hv).mono ?_
  rintro e w1 ⟨rfl, hb1⟩
  have HB := Aside0.mk hb1
  go_wp2
  go_ret
  exact ⟨rfl, HB.out⟩

set_option maxHeartbeats 1000000 in
set_option maxRecDepth 100000 in
theorem wide_64 (x : Int) (w : World) :
    Calls Try.prog 65 #[.int .i64 x, .int .i64 64] w fun e w' => e = .returned (.tuple #[.float .f64 (x % 18446744073709551616).toNat, .bool true]) ∧ Drawn0 w w' := by
  go_enter Try.func65, Try.ntmps65
  go_wp2_with fail
  refine (Float_calls x w).mono ?_
  rintro e w1 ⟨rfl, hb1⟩
  have HB := Aside0.mk hb1
  go_wp2
  exact bodyPost_ret (v := .tuple #[.float .f64 (x % 18446744073709551616).toNat, .bool true]) (by simp [results, Try.results65, go_sem]) rfl ⟨rfl, HB.out⟩
theorem widen_run {b : Nat} (hb : b < 2 ^ 32) (hn : (Ieee.single.read b).isNaN = false) (W : World) : (convert 102 93 (.float .f32 b)).run Try.prog W = .ok (.float .f64 (wid b)) W :=
  run_convert_float_float W 102 93 .f32 .f64 b _ (by kernel_rfl) Try.underlying93 (wid_ok hb hn).1
theorem read_nan (f : Ieee.Format) (s r : Nat) (hs : s < 2) (h1 : f.infRung < r) (h2 : r < f.signWeight) (hb : f.binade ≤ f.infRung) : (f.read (s * f.signWeight + r)).isNaN = true := by
  unfold Ieee.Format.read
  have hm : (s * f.signWeight + r) % f.signWeight = r := by rw [Nat.mul_comm, Nat.mul_add_mod, Nat.mod_eq_of_lt h2]
  simp only [hm]
  rw [if_neg (by omega), if_neg (by omega), if_neg (by omega)]
  rfl
theorem cut_nan64 (t x : Nat) : (Ieee.double.read ((Question.nanConv .f64 x).cut t)).isNaN = true := by
  have hw : Ieee.double.signWeight = 2 ^ 63 := by decide
  have hi : Ieee.double.infRung = 0x7ff0000000000000 := by decide
  have hm := Nat.mod_lt (t / 2) (show 0 < 2 ^ 52 - 1 by decide)
  have h := read_nan Ieee.double (t % 2) (0x7ff0000000000000 + 1 + (t / 2) % (2 ^ 52 - 1)) (Nat.mod_lt _ (by decide)) (by rw [hi]; omega) (by rw [hw]; omega) (by decide)
  rw [hw] at h
  have e : (Question.nanConv .f64 x).cut t = t % 2 * 2 ^ 63 + (0x7ff0000000000000 + 1 + (t / 2) % (2 ^ 52 - 1)) := by
    show t % 2 * 2 ^ 63 + 0x7ff0000000000000 + 1 + (t / 2) % (2 ^ 52 - 1) = _
    omega
  rw [e]; exact h
theorem widen_nan {b : Nat} (hn : (Ieee.single.read b).isNaN = true) (W : World) : ∃ r, (Ieee.double.read r).isNaN = true ∧ (convert 102 93 (.float .f32 b)).run Try.prog W = .ok (.float .f64 r) W.drew := by
  obtain ⟨s, m, hd⟩ : ∃ s m, FloatKind.f32.decode b = .nan s m := by
    have : FloatKind.f32.decode b = Ieee.single.read b := rfl
    rw [this]
    revert hn
    cases Ieee.single.read b with
    | nan s m => exact fun _ => ⟨s, m, rfl⟩
    | _ => exact fun h => by cases h
  refine ⟨_, cut_nan64 (W.tape W.drawn (.nanConv .f64 b)) b, ?_⟩
  have h1 := Try.underlying102
  have h2 := Try.underlying93
  simp [convert, run_underlying h1, run_underlying h2, Conv.floatToFloat, hd, Question.forced]
set_option maxHeartbeats 1000000 in
set_option maxRecDepth 100000 in
theorem wide_32 {b : Nat} (hb : b < 4294967296) (hn : (Ieee.single.read b).isNaN = false) (w : World) :
    Calls Try.prog 65 #[.int .i64 b, .int .i64 32] w fun e w' => e = .returned (.tuple #[.float .f64 (wid b), .bool true]) ∧ Drawn0 w w' := by
  have hr := widen_run hb hn
  go_enter Try.func65, Try.ntmps65
  go_wp2_with fail
  refine (Float32_calls b hb w).mono ?_
  rintro e w1 ⟨rfl, hb1⟩
  have HB := Aside0.mk hb1
  go_wp2
  exact bodyPost_ret (v := .tuple #[.float .f64 (wid b), .bool true]) (by simp [results, Try.results65, go_sem]) rfl ⟨rfl, HB.out⟩
set_option maxHeartbeats 1000000 in
set_option maxRecDepth 100000 in
theorem wide_nan {b : Nat} (hb : b < 4294967296) (hn : (Ieee.single.read b).isNaN = true) (w : World) :
    Calls Try.prog 65 #[.int .i64 b, .int .i64 32] w fun e w' => (∃ r, (Ieee.double.read r).isNaN = true ∧ e = .returned (.tuple #[.float .f64 r, .bool true])) ∧ Drawn0 w w' := by
  go_enter Try.func65, Try.ntmps65
  go_wp2_with fail
  refine (Float32_calls b hb w).mono ?_
  rintro e w1 ⟨rfl, hb1⟩
  have HB := Aside0.mk hb1
  obtain ⟨r, hr, hrun⟩ := widen_nan hn w1
  go_wp2
  exact bodyPost_ret (v := .tuple #[.float .f64 r, .bool true]) (by simp [results, Try.results65, go_sem]) rfl ⟨⟨r, hr, rfl⟩, drawn_drew HB.out⟩

/-- a pattern of 32 bits as one of 64 -/
def up (b : Nat) : Int := if (Ieee.single.read b).isNaN = true then 9221120237041090561 else wrap64 (wid b)
theorem wid_lt (b : Nat) : wid b < 2 ^ 64 := Ieee.Format.write_lt Ieee.double _
theorem wid_back (b : Nat) : (wrap64 (wid b) % 18446744073709551616).toNat = wid b := by
  have h := wid_lt b
  unfold wrap64
  omega
set_option maxHeartbeats 1000000 in
set_option maxRecDepth 100000 in
theorem conv_up {b : Nat} (hb : b < 4294967296) (w : World) :
    Calls Try.prog 60 #[.int .i64 b, .int .i64 32, .int .i64 64] w fun e w' => e = .returned (.int .i64 (up b)) ∧ Drawn0 w w' := by
  cases hn : (Ieee.single.read b).isNaN with
  | false =>
    have hu : up b = wrap64 (wid b) := by unfold up; rw [if_neg (by rw [hn]; exact Bool.false_ne_true)]
    rw [hu]
    have hd := (wid_ok hb hn).2.2
    go_enter Try.func60, Try.ntmps60
    go_wp2_with fail
    refine (wide_32 hb hn w).mono ?_
    rintro e w1 ⟨rfl, hb1⟩
    have HB := Aside0.mk hb1
    go_wp2_with fail
    refine (Of_calls (wid b) hd _).mono ?_
    rintro e w2 ⟨rfl, hb2⟩
    have HB2 := Aside0.mk (drawn_trans HB.out hb2)
    go_wp2
    go_ret
    exact ⟨rfl, HB2.out⟩
  | true =>
    have hu : up b = 9221120237041090561 := by unfold up; rw [if_pos hn]
    rw [hu]
    go_enter Try.func60, Try.ntmps60
    go_wp2_with fail
    refine (wide_nan hb hn w).mono ?_
    rintro e w1 ⟨⟨r, hr, rfl⟩, hb1⟩
    have HB := Aside0.mk hb1
    go_wp2_with fail
    refine (Of_nan r hr _).mono ?_
    rintro e w2 ⟨rfl, hb2⟩
    have HB2 := Aside0.mk (drawn_trans HB.out hb2)
    go_wp2
    go_ret
    exact ⟨rfl, HB2.out⟩


set_option maxHeartbeats 1000000 in
set_option maxRecDepth 100000 in
theorem conv_64 (x : Int) (w : World) :
    Calls Try.prog 60 #[.int .i64 x, .int .i64 64, .int .i64 64] w fun e w' => e = .returned (.int .i64 (if (Ieee.double.read (x % 18446744073709551616).toNat).isNaN = true then 9221120237041090561 else wrap64 ((x % 18446744073709551616).toNat : Nat))) ∧ Drawn0 w w' := by
  obtain ⟨X, hX⟩ : ∃ X, X = (x % 18446744073709551616).toNat := ⟨_, rfl⟩
  rw [← hX]
  have HX := Aside0.mk hX
  clear hX
  by_cases hn : (Ieee.double.read X).isNaN = true
  · rw [if_pos hn]
    go_enter Try.func60, Try.ntmps60
    go_wp2_with fail
    refine (wide_64 x w).mono ?_
    rintro e w1 ⟨rfl, hb1⟩
    have HB := Aside0.mk hb1
    rw [← HX.out]
    go_wp2_with fail
    refine (Of_nan X hn _).mono ?_
    rintro e w2 ⟨rfl, hb2⟩
    have HB2 := Aside0.mk (drawn_trans HB.out hb2)
    go_wp2
    go_ret
    exact ⟨rfl, HB2.out⟩
  · rw [if_neg hn]
    have hn : (Ieee.double.read X).isNaN = false := by cases h : (Ieee.double.read X).isNaN with | false => rfl | true => exact absurd h hn
    go_enter Try.func60, Try.ntmps60
    go_wp2_with fail
    refine (wide_64 x w).mono ?_
    rintro e w1 ⟨rfl, hb1⟩
    have HB := Aside0.mk hb1
    rw [← HX.out]
    go_wp2_with fail
    refine (Of_calls X hn _).mono ?_
    rintro e w2 ⟨rfl, hb2⟩
    have HB2 := Aside0.mk (drawn_trans HB.out hb2)
    go_wp2
    go_ret
    exact ⟨rfl, HB2.out⟩
theorem read_num {f : Ieee.Format} {x : Nat} (h : x % f.signWeight < f.infRung) : ∃ s m p, f.read x = .number s m p := by
  unfold Ieee.Format.read
  by_cases h1 : x % f.signWeight < f.binade
  · simp only [if_pos h1]; exact ⟨_, _, _, rfl⟩
  · simp only [if_neg h1, if_pos h]; exact ⟨_, _, _, rfl⟩
theorem read_inf {f : Ieee.Format} {x : Nat} (h : x % f.signWeight = f.infRung) (hb : f.binade ≤ f.infRung) : ∃ s, f.read x = .infinity s := by
  unfold Ieee.Format.read
  have h1 : ¬ x % f.signWeight < f.binade := by omega
  have h2 : ¬ x % f.signWeight < f.infRung := by omega
  simp only [if_neg h1, if_neg h2, if_pos h]; exact ⟨_, rfl⟩
theorem read_none {f : Ieee.Format} {x : Nat} (h : f.infRung < x % f.signWeight) (hb : f.binade ≤ f.infRung) : (f.read x).isNaN = true := by
  unfold Ieee.Format.read
  have h1 : ¬ x % f.signWeight < f.binade := by omega
  have h2 : ¬ x % f.signWeight < f.infRung := by omega
  have h3 : ¬ x % f.signWeight = f.infRung := by omega
  simp only [if_neg h1, if_neg h2, if_neg h3]; rfl
theorem dI : Ieee.double.infRung = 9218868437227405312 := by decide
theorem dS : Ieee.double.signWeight = 9223372036854775808 := by decide
theorem sI : Ieee.single.infRung = 2139095040 := by decide
theorem sS : Ieee.single.signWeight = 2147483648 := by decide
theorem dB : Ieee.double.binade ≤ Ieee.double.infRung := by decide
theorem sB : Ieee.single.binade ≤ Ieee.single.infRung := by decide
theorem inf_read : Ieee.double.read 9218868437227405312 = .infinity false := by decide
theorem ord_inf {x : Nat} (hx : x < 9223372036854775808) : (Ieee.double.order x 9218868437227405312 == some .lt) = decide (x < 9218868437227405312) := by
  have hm : x % Ieee.double.signWeight = x := by rw [dS]; exact Nat.mod_eq_of_lt hx
  unfold Ieee.Format.order
  rw [inf_read]
  rcases Nat.lt_trichotomy x 9218868437227405312 with h | h | h
  · obtain ⟨s, m, p, e⟩ := read_num (f := Ieee.double) (x := x) (by rw [hm, dI]; exact h)
    rw [e, decide_eq_true h]; rfl
  · obtain ⟨s, e⟩ := read_inf (f := Ieee.double) (x := x) (by rw [hm, dI]; exact h) dB
    rw [e, decide_eq_false (by omega)]
    cases s
    · rfl
    · exfalso
      have : Ieee.double.read x = .infinity false := by rw [h]; exact inf_read
      rw [e] at this; cases this
  · have e := read_none (f := Ieee.double) (x := x) (by rw [hm, dI]; exact h) dB
    rw [decide_eq_false (by omega)]
    cases hr : Ieee.double.read x with
    | number s m p => rw [hr] at e; cases e
    | infinity s => rw [hr] at e; cases e
    | nan s m => rfl

theorem fin_wid {b : Nat} (hb : b < 4294967296) (hn : (Ieee.single.read b).isNaN = false) : wid b % 9223372036854775808 < 9218868437227405312 ↔ b % 2147483648 < 2139095040 := by
  obtain ⟨h1, h2, h3⟩ := wid_ok hb hn
  rcases Nat.lt_trichotomy (b % 2147483648) 2139095040 with h | h | h
  · refine ⟨fun _ => h, fun _ => ?_⟩
    rcases Nat.lt_trichotomy (wid b % 9223372036854775808) 9218868437227405312 with k | k | k
    · exact k
    · exfalso
      obtain ⟨s, e⟩ := read_inf (f := Ieee.double) (x := wid b) (by rw [dS, dI]; exact k) dB
      have h4 : floatToFloatBits .f64 (wid b) .f32 = some (Ieee.single.word s Ieee.single.infRung) := by
        unfold floatToFloatBits
        rw [if_neg (by decide)]
        show (match Ieee.double.read (wid b) with | .nan _ _ => none | .infinity s => some (Ieee.single.word s Ieee.single.infRung) | .number s m e => _) = _
        rw [e]
      rw [h4] at h2
      injection h2 with h2
      rw [← h2] at h
      revert h
      cases s <;> decide
    · exfalso
      rw [read_none (f := Ieee.double) (x := wid b) (by rw [dS, dI]; exact k) dB] at h3
      cases h3
  · refine ⟨fun k => ?_, fun k => by omega⟩
    obtain ⟨s, e⟩ := read_inf (f := Ieee.single) (x := b) (by rw [sS, sI]; exact h) sB
    have : wid b = Ieee.double.word s Ieee.double.infRung := by unfold wid; rw [e]; rfl
    rw [this] at k
    exfalso
    revert k
    cases s <;> decide
  · rw [read_none (f := Ieee.single) (x := b) (by rw [sS, sI]; exact h) sB] at hn
    cases hn

theorem andNot_any {x : Nat} (hx : x < 18446744073709551616) : bits .andNot .u64 (x : Int) 9223372036854775808 = ((x % 9223372036854775808 : Nat) : Int) := by
  have h1 : (BitVec.ofInt 64 (x : Int)).toNat = x := by rw [BitVec.ofInt_natCast, BitVec.toNat_ofNat]; exact Nat.mod_eq_of_lt hx
  have h2 : (~~~ (BitVec.ofInt 64 (9223372036854775808 : Int))).toNat = 2 ^ 63 - 1 := by decide
  have p : (2 : Nat) ^ 63 = 9223372036854775808 := by decide
  show IntKind.u64.wrap ((BitVec.ofInt 64 (x : Int) &&& ~~~ (BitVec.ofInt 64 (9223372036854775808 : Int))).toNat : Int) = _
  rw [BitVec.toNat_and, h1, h2, Nat.and_two_pow_sub_one_eq_mod, IntKind.wrap_u64, p]
  omega

set_option maxHeartbeats 1000000 in
set_option maxRecDepth 100000 in
theorem Abs_calls (b : Nat) (hb : b < 18446744073709551616) (w : World) :
    Calls Try.prog 58 #[.float .f64 b] w fun e w' => e = .returned (.float .f64 (b % 9223372036854775808)) ∧ Drawn0 w w' := by
  have h1 := run_f64bits b
  have h2 := run_f64from ((b % 9223372036854775808 : Nat) : Int)
  have h3 := andNot_any hb
  simp only [Int.toNat_natCast] at h2
  generalize b % 9223372036854775808 = B at h2 h3 ⊢
  clear hb
  go_enter Try.func58, Try.ntmps58
  go_wp2
  go_ret
  exact ⟨rfl, Drawn0.refl _⟩
set_option maxHeartbeats 1000000 in
set_option maxRecDepth 100000 in
theorem Inf_calls (w : World) :
    Calls Try.prog 61 #[.int .i64 1] w fun e w' => e = .returned (.float .f64 9218868437227405312) ∧ Drawn0 w w' := by
  have h2 : ∀ w, (callFunc 63 #[.int .u64 9218868437227405312]).run Try.prog w = .ok (.value (.float .f64 9218868437227405312)) w := fun w => run_f64from 9218868437227405312 w
  go_enter Try.func61, Try.ntmps61
  go_wp2
  go_ret
  exact ⟨rfl, Drawn0.refl _⟩

/-- is a pattern a finite float's? -/
def finV (x w : Int) : Bool := if w = 64 then decide (x % 9223372036854775808 < 9218868437227405312) else if w = 32 then decide (0 ≤ x ∧ x < 4294967296 ∧ x % 2147483648 < 2139095040) else false

set_option maxHeartbeats 1000000 in
set_option maxRecDepth 100000 in
theorem finite_end (x wd c : Int) (t : Bool) (hv : bits_Valid.f x wd = some true) (hc : ∀ w, Calls Try.prog 60 #[.int .i64 x, .int .i64 wd, .int .i64 64] w fun e w' => e = .returned (.int .i64 c) ∧ Drawn0 w w')
    (ht : decide ((c % 18446744073709551616).toNat % 9223372036854775808 < 9218868437227405312) = t) (w : World) :
    Calls Try.prog 50 #[.int .i64 x, .int .i64 wd] w fun e w' => e = .returned (.bool t) ∧ Drawn0 w w' := by
  have HV := Aside0.mk hv
  have HC := Aside0.mk hc
  obtain ⟨P, hP⟩ : ∃ P, P = (c % 18446744073709551616).toNat := ⟨_, rfl⟩
  have hPl : P < 18446744073709551616 := by omega
  rw [← hP] at ht
  have HP := Aside0.mk hP
  have d1 : (FloatKind.f64.format.order (P % 9223372036854775808) 9218868437227405312 == some .lt) = t := by rw [← ht]; exact ord_inf (Nat.mod_lt _ (by decide))
  have HL := Aside0.mk hPl
  clear hv hc hP ht hPl
  go_enter Try.func50, Try.ntmps50
  go_wp2_with fail
  refine (bits_Valid.calls x wd true w HV.out).mono ?_
  rintro e w1 ⟨rfl, hb⟩
  have HB := Aside0.mk hb
  clear hb
  go_wp2_with fail
  refine (HC.out w1).mono ?_
  rintro e w2 ⟨rfl, hb⟩
  replace HB := Aside0.mk (drawn_trans HB.out hb)
  clear hb
  go_wp2_with fail
  refine (Float_calls c w2).mono ?_
  rintro e w3 ⟨rfl, hb⟩
  replace HB := Aside0.mk (drawn_trans HB.out hb)
  rw [← HP.out]
  clear hb
  go_wp2_with fail
  refine (Abs_calls P HL.out w3).mono ?_
  rintro e w4 ⟨rfl, hb⟩
  replace HB := Aside0.mk (drawn_trans HB.out hb)
  clear hb
  generalize P % 9223372036854775808 = Q at d1 ⊢
  go_wp2_with fail
  refine (Inf_calls w4).mono ?_
  rintro e w5 ⟨rfl, hb⟩
  replace HB := Aside0.mk (drawn_trans HB.out hb)
  clear hb
  go_wp2
  go_ret
  exact ⟨rfl, HB.out⟩
set_option maxHeartbeats 1000000 in
set_option maxRecDepth 100000 in
theorem finite_not (x wd : Int) (hv : bits_Valid.f x wd = some false) (w : World) :
    Calls Try.prog 50 #[.int .i64 x, .int .i64 wd] w fun e w' => e = .returned (.bool false) ∧ Drawn0 w w' := by
  have HV := Aside0.mk hv
  clear hv
  go_enter Try.func50, Try.ntmps50
  go_wp2_with fail
  refine (bits_Valid.calls x wd false w HV.out).mono ?_
  rintro e w1 ⟨rfl, hb⟩
  have HB := Aside0.mk hb
  clear hb
  go_wp2
  go_ret
  exact ⟨rfl, HB.out⟩
namespace PBase
def state_finite.f (a0 : Int) (a1 : Int) : Option (Bool) := some (finV a0 a1)
theorem state_finite.calls (a0 : Int) (a1 : Int) (r : Bool) (w : World) (h : state_finite.f a0 a1 = some r) :
    Calls Try.prog 50 #[.int .i64 a0, .int .i64 a1] w fun e w' => e = .returned (.bool r) ∧ Drawn0 w w' := by
  have h : finV a0 a1 = r := Option.some.inj h
  rw [← h]
  clear h
  unfold finV
  by_cases h64 : a1 = 64
  · subst h64
    rw [if_pos rfl]
    refine finite_end a0 64 _ _ rfl (conv_64 a0) ?_ w
    obtain ⟨P, hP⟩ : ∃ P, P = (a0 % 18446744073709551616).toNat := ⟨_, rfl⟩
    have hPl : P < 18446744073709551616 := by omega
    have hPm : ((P % 9223372036854775808 : Nat) : Int) = a0 % 9223372036854775808 := by omega
    rw [← hP]
    by_cases hn : (Ieee.double.read P).isNaN = true
    · rw [if_pos hn]
      have : ¬ P % 9223372036854775808 < 9218868437227405312 := by
        intro k
        obtain ⟨s, m, p, e⟩ := read_num (f := Ieee.double) (x := P) (by rw [dS, dI]; exact k)
        rw [e] at hn; cases hn
      rw [decide_eq_false (by omega), decide_eq_false (by omega)]
    · rw [if_neg hn]
      have e : ((wrap64 (P : Int)) % 18446744073709551616).toNat = P := by unfold wrap64; omega
      rw [e]
      by_cases k : P % 9223372036854775808 < 9218868437227405312
      · rw [decide_eq_true k, decide_eq_true (by omega)]
      · rw [decide_eq_false k, decide_eq_false (by omega)]
  · rw [if_neg h64]
    by_cases h32 : a1 = 32
    · subst h32
      rw [if_pos rfl]
      by_cases hr : 0 ≤ a0 ∧ a0 < 4294967296
      · obtain ⟨b, rfl⟩ : ∃ b : Nat, a0 = b := ⟨a0.toNat, by omega⟩
        have hb : b < 4294967296 := by omega
        have hv : bits_Valid.f (b : Int) 32 = some true := by unfold bits_Valid.f; rw [if_neg (by decide), if_pos rfl]; congr 1; rw [beq_iff_eq]; omega
        refine finite_end (b : Int) 32 _ _ hv (conv_up hb) ?_ w
        cases hn : (Ieee.single.read b).isNaN with
        | true =>
          have hu : up b = 9221120237041090561 := by unfold up; rw [if_pos hn]
          rw [hu]
          have : ¬ b % 2147483648 < 2139095040 := by
            intro k
            obtain ⟨s, m, p, e⟩ := read_num (f := Ieee.single) (x := b) (by rw [sS, sI]; exact k)
            rw [e] at hn; cases hn
          rw [decide_eq_false (by decide), decide_eq_false (by omega)]
        | false =>
          have hu : up b = wrap64 (wid b) := by unfold up; rw [if_neg (by rw [hn]; exact Bool.false_ne_true)]
          rw [hu, wid_back]
          have hw := fin_wid hb hn
          by_cases k : wid b % 9223372036854775808 < 9218868437227405312
          · rw [decide_eq_true k, decide_eq_true (by have := hw.1 k; omega)]
          · rw [decide_eq_false k, decide_eq_false (by intro q; exact k (hw.2 (by omega)))]
      · have hv : bits_Valid.f a0 32 = some false := by
          unfold bits_Valid.f; rw [if_neg (by decide), if_pos rfl]; congr 1
          rw [beq_eq_false_iff_ne]; omega
        rw [decide_eq_false (by omega)]
        exact finite_not a0 32 hv w
    · rw [if_neg h32]
      exact finite_not a0 a1 (by unfold bits_Valid.f; rw [if_neg h64, if_neg h32]) w
end PBase
end Go.Proofs.Ytmiljlbbacbbpaa
