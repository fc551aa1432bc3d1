/- StateForms: the law's contract. -/
import Derived.Test.YtmiljlbbacbbpaaFmW
import Derived.Test.YtmiljlbbacbbpaaOpQ
namespace Go.Proofs.Ytmiljlbbacbbpaa
open Go.RowKit PBase
open Go.Proofs.YtmiljlbbacbbpaaW.PrintWords Go.Proofs.YtmiljlbbacbbpaaW.PrintLast Go.Proofs.YtmiljlbbacbbpaaW.PrintMore
set_option linter.unusedVariables false
theorem forms_calls {s0 s1 s2 : Int} {ps : List S56} {ss : List (List S56)} {lo ra : Int} (hc : Came s0 s1 s2 ps ss lo ra) {A3 A4 : Option Addr} {c3 c4 : Nat} {what at_ : Int} (hwh : -9223372036854775808 ≤ what ∧ what ≤ 9223372036854775807) (w : World) (h3 : Kd.C k56 w A3 ps.length ps) (k3 : ps.length ≤ c3) (h4 : Kd.C (Kd.slice 56 k56) w A4 ss.length ss) (k4 : ss.length ≤ c4) :
    Calls Try.prog 9 #[.agg #[.int .i64 s0, .int .i64 s1, .int .i64 s2, .slice A3 ps.length c3, .slice A4 ss.length c4, .int .i64 lo, .int .i64 ra], .int .i64 what, .int .i64 at_] w fun e w' => e = .returned (.bool true) ∧ Below w.heap.size w w' := by
  obtain ⟨n, hn⟩ := bulk_some s0 s1 s2 ps ss lo ra (by have := hc.lp; omega) (by have := hc.ls; omega) (fun s hs => by have := (hc.ms s hs).1; omega)
  obtain ⟨k, hk⟩ := hn.one
  obtain ⟨m, hm, hml⟩ := within_in (x := what) (n := 14) (by omega) (by decide) (by decide)
  exact forms_walk s0 s1 s2 A3 c3 ps A4 c4 ss lo ra what at_ w ⟨k3, h3, k4, h4⟩ k n m hk whole_of hm hml
end Go.Proofs.Ytmiljlbbacbbpaa
