/- A state that is handed in, as it lies in memory. -/
import Derived.Test.YtmiljlbbacbbpaaRdA
namespace Go.Proofs.Ytmiljlbbacbbpaa
open Go.RowKit PBase
open Go.Proofs.YtmiljlbbacbbpaaW.PrintWords Go.Proofs.YtmiljlbbacbbpaaW.PrintLast Go.Proofs.YtmiljlbbacbbpaaW.PrintMore
set_option linter.unusedVariables false
abbrev stC (s0 s1 s2 : Int) (A3 : Option Addr) (n3 c3 : Nat) (A4 : Option Addr) (n4 c4 : Nat) (lo ra : Int) : Array Value := #[.int .i64 s0, .int .i64 s1, .int .i64 s2, .slice A3 n3 c3, .slice A4 n4 c4, .int .i64 lo, .int .i64 ra]
/-- what must be known of a state that is handed in, in a world -/
structure InW (w : World) (A3 : Option Addr) (c3 : Nat) (ps : List S56) (A4 : Option Addr) (c4 : Nat) (ss : List (List S56)) : Prop where
  lp : ps.length ≤ c3
  hp : Kd.C k56 w A3 ps.length ps
  ls : ss.length ≤ c4
  hs : Kd.C (Kd.slice 56 k56) w A4 ss.length ss
theorem InW.below {w w' : World} {A3 : Option Addr} {c3 : Nat} {ps : List S56} {A4 : Option Addr} {c4 : Nat} {ss : List (List S56)} (h : InW w A3 c3 ps A4 c4 ss) (hb : Below w.heap.size w w') : InW w' A3 c3 ps A4 c4 ss :=
  ⟨h.lp, Kd.C_below h.hp hb, h.ls, Kd.C_below h.hs hb⟩
end Go.Proofs.Ytmiljlbbacbbpaa
