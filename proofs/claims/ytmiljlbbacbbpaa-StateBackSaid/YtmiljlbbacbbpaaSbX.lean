/- StateBack: the contract of the law. -/
import Derived.Test.YtmiljlbbacbbpaaSbW
import Derived.Test.YtmiljlbbacbbpaaOpS
namespace Go.Proofs.Ytmiljlbbacbbpaa
open Go.RowKit PBase
open Go.Proofs.YtmiljlbbacbbpaaW.PrintWords Go.Proofs.YtmiljlbbacbbpaaW.PrintLast Go.Proofs.YtmiljlbbacbbpaaW.PrintMore
set_option linter.unusedVariables false
theorem back_calls {s0 s1 s2 : Int} {ps : List S56} {ss : List (List S56)} {lo ra : Int} (hc : Came s0 s1 s2 ps ss lo ra) {A3 A4 A1 : Option Addr} {c3 c4 c1 : Nat} {l1 : List Int} (w : World) (h3 : Kd.C k56 w A3 ps.length ps) (k3 : ps.length ≤ c3) (h4 : Kd.C (Kd.slice 56 k56) w A4 ss.length ss) (k4 : ss.length ≤ c4) (h1 : Kd.C (Kd.int .u8) w A1 l1.length l1) (k1 : l1.length ≤ c1) (hB : Bytes l1) :
    Calls Try.prog 6 #[.agg #[.int .i64 s0, .int .i64 s1, .int .i64 s2, .slice A3 ps.length c3, .slice A4 ss.length c4, .int .i64 lo, .int .i64 ra], .slice A1 l1.length c1] w fun e w' => e = .returned (.bool true) ∧ Below w.heap.size w w' := by
  obtain ⟨k, hk⟩ := back_all s0 s1 s2 ps ss lo ra l1 (by have := hc.lp; omega) (by have := hc.ls; omega) (fun s hs => by have := (hc.ms s hs).1; omega) hc.w hB
  exact pupillaw23_StateBack.calls k s0 s1 s2 A3 c3 ps A4 c4 ss lo ra A1 c1 l1 true w h3 k3 h4 k4 h1 k1 hk
end Go.Proofs.Ytmiljlbbacbbpaa
