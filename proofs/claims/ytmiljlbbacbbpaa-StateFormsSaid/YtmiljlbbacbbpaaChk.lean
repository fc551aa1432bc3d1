/- state.Check, told as the printed texts ask for it. -/
import Derived.Test.YtmiljlbbacbbpaaChkW
namespace Go.Proofs.Ytmiljlbbacbbpaa.PBase
open Go.RowKit Go.Proofs.YtmiljlbbacbbpaaW.PrintWords Go.Proofs.YtmiljlbbacbbpaaW.PrintLast Go.Proofs.YtmiljlbbacbbpaaW.PrintMore
set_option linter.unusedVariables false

def state_Check.f (a0_0 a0_1 a0_2 : Int) (l0_3 : List S56) (l0_4 : List (List S56)) (a0_5 a0_6 : Int) : Option Int := some (checkV a0_0 a0_1 a0_2 l0_3 l0_4)
theorem state_Check.calls (a0_0 a0_1 a0_2 : Int) (A0_3 : Option Addr) (c0_3 : Nat) (l0_3 : List S56) (A0_4 : Option Addr) (c0_4 : Nat) (l0_4 : List (List S56)) (a0_5 a0_6 : Int) (r : Int) (w : World) (hr0_3 : Kd.C k56 w A0_3 l0_3.length l0_3) (hc0_3 : l0_3.length ≤ c0_3) (hr0_4 : Kd.C (Kd.slice 56 k56) w A0_4 l0_4.length l0_4) (hc0_4 : l0_4.length ≤ c0_4) (h : state_Check.f a0_0 a0_1 a0_2 l0_3 l0_4 a0_5 a0_6 = some r) :
    Calls Try.prog 17 #[.agg #[.int .i64 a0_0, .int .i64 a0_1, .int .i64 a0_2, .slice A0_3 l0_3.length c0_3, .slice A0_4 l0_4.length c0_4, .int .i64 a0_5, .int .i64 a0_6]] w fun e w' => e = .returned (.int .i64 r) ∧ Below w.heap.size w w' := by
  injection h with h
  subst h
  exact check_any a0_0 a0_1 a0_2 A0_3 A0_4 c0_3 c0_4 l0_3 l0_4 a0_5 a0_6 w hr0_3 hc0_3 hr0_4 hc0_4
end Go.Proofs.Ytmiljlbbacbbpaa.PBase
