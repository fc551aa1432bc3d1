/- The walks of bits.Of, bits.Of32 and rng.Uniform: a word's upper bits as a float. -/
import Derived.Test.YtpobladocccnmaaAlive
import Derived.Test.YtpobladocccnmaaUnif
import Derived.WalkLawsBesides
import Derived.Laws.Externs
import Derived.Outline
namespace Go.Proofs.Ytpobladocccnmaa
open Go.RowKit Mix PBase UnifN
open Go.Proofs.YtpobladocccnmaaW.PrintWords Go.Proofs.YtpobladocccnmaaW.PrintLast Go.Proofs.YtpobladocccnmaaW.PrintMore
set_option linter.unusedVariables false
set_option linter.unusedSimpArgs false

theorem run_f64bits (b : Nat) (w : World) : (callFunc 53 #[.float .f64 b]).run Try.prog w = .ok (.value (.int .u64 b)) w := by
  rw [run_callFunc_extern (e := Extern.MathFloatBits.float64bits) Try.func53 (by kernel_rfl) (by kernel_rfl) (by kernel_rfl) (by kernel_rfl)]; rfl
theorem run_f32bits (b : Nat) (w : World) : (callFunc 54 #[.float .f32 b]).run Try.prog w = .ok (.value (.int .u32 b)) w := by
  rw [run_callFunc_extern (e := Extern.MathFloatBits.float32bits) Try.func54 (by kernel_rfl) (by kernel_rfl) (by kernel_rfl) (by kernel_rfl)]; rfl
theorem run_f64from (b : Int) (w : World) : (callFunc 57 #[.int .u64 b]).run Try.prog w = .ok (.value (.float .f64 b.toNat)) w := by
  rw [run_callFunc_extern (e := Extern.MathFloatBits.float64frombits) Try.func57 (by kernel_rfl) (by kernel_rfl) (by kernel_rfl) (by kernel_rfl)]; rfl
theorem run_f32from (b : Int) (w : World) : (callFunc 70 #[.int .u32 b]).run Try.prog w = .ok (.value (.float .f32 b.toNat)) w := by
  rw [run_callFunc_extern (e := Extern.MathFloatBits.float32frombits) Try.func70 (by kernel_rfl) (by kernel_rfl) (by kernel_rfl) (by kernel_rfl)]; rfl

theorem cmp_self (z : Int) : compare z z = .eq := by simp

theorem order_self (f : Ieee.Format) (x : Nat) (h1 : x < f.infRung) (h2 : f.infRung < f.signWeight) : f.order x x = some .eq := by
  unfold Ieee.Format.order Ieee.Format.read
  have hx : x < f.signWeight := by omega
  simp only [Nat.mod_eq_of_lt hx, Nat.div_eq_of_lt hx, if_pos h1]
  split <;> exact congrArg some (cmp_self _)

theorem order64 {x : Nat} (h : x < 9218868437227405312) : Ieee.double.order x x = some .eq :=
  order_self Ieee.double x (by have : Ieee.double.infRung = 9218868437227405312 := by decide
                               omega) (by decide)
theorem order32 {x : Nat} (h : x < 2139095040) : Ieee.single.order x x = some .eq :=
  order_self Ieee.single x (by have : Ieee.single.infRung = 2139095040 := by decide
                               omega) (by decide)

set_option maxHeartbeats 1000000 in
set_option maxRecDepth 100000 in
theorem Of_calls (b : Nat) (hb : b < 9218868437227405312) (w : World) :
    Calls Try.prog 38 #[.float .f64 b] w fun e w' => e = .returned (.int .i64 b) ∧ Below w.heap.size w w' := by
  have d1 : (FloatKind.f64.format.order b b != some .eq) = false := by rw [show FloatKind.f64.format = Ieee.double from rfl, order64 hb]; rfl
  have hr := run_f64bits b
  have hw : wrap64 (b : Int) = (b : Int) := by unfold wrap64; omega
  go_enter Try.func38, Try.ntmps38
  go_wp2
  go_ret
  exact ⟨rfl, Below.refl _ _⟩

set_option maxHeartbeats 1000000 in
set_option maxRecDepth 100000 in
theorem Of32_calls (b : Nat) (hb : b < 2139095040) (w : World) :
    Calls Try.prog 39 #[.float .f32 b] w fun e w' => e = .returned (.int .i64 b) ∧ Below w.heap.size w w' := by
  have d1 : (FloatKind.f32.format.order b b != some .eq) = false := by rw [show FloatKind.f32.format = Ieee.single from rfl, order32 hb]; rfl
  have hr := run_f32bits b
  have hw : wrap64 (b : Int) = (b : Int) := by unfold wrap64; omega
  go_enter Try.func39, Try.ntmps39
  go_wp2
  go_ret
  exact ⟨rfl, Below.refl _ _⟩

end Go.Proofs.Ytpobladocccnmaa
