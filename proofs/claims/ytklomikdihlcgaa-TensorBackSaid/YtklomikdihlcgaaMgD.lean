/- What a matrix and its error, a move and its error, are when answered. -/
import Derived.Test.YtklomikdihlcgaaTurn
import Derived.Test.YtklomikdihlcgaaCheckP
namespace Go.Proofs.Ytklomikdihlcgaa
open Go.RowKit PBase
open Go.Proofs.YtklomikdihlcgaaW.PrintWords Go.Proofs.YtklomikdihlcgaaW.PrintLast Go.Proofs.YtklomikdihlcgaaW.PrintMore
set_option linter.unusedVariables false

/-- a matrix and an error are answered -/
def AnsP (W : World) (er r0 r1 r2 : Int) (L : List Int) (e : Ending) (w' : World) : Prop := ∃ v, e = .returned (.tuple #[.agg #[.int .i64 r0, .int .i64 r1, .int .i64 r2, v], .int .i64 er]) ∧ Ints W w' v L ∧ Below W.heap.size W w'
/-- a move and an error are answered -/
def MoveP (W : World) (er r0 r1 r2 : Int) (pl : List (Int × Int)) (e : Ending) (w' : World) : Prop := ∃ v, e = .returned (.tuple #[.agg #[.int .i64 r0, .int .i64 r1, .int .i64 r2, v], .int .i64 er]) ∧ Places W w' v pl ∧ Below W.heap.size W w'
theorem moveP_none {W : World} {er : Int} {e : Ending} {w' : World} (h : e = .returned (.tuple #[.agg (row4 0 0 0 (.slice none 0 0)), .int .i64 er]) ∧ Below W.heap.size W w') : MoveP W er 0 0 0 [] e w' := ⟨_, h.1, Kd.R_nil _ _ _ _ _, h.2⟩

end Go.Proofs.Ytklomikdihlcgaa
