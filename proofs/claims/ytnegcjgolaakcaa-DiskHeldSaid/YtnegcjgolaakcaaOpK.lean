/- What a list of numbers is that came in. -/
import Derived.Test.YtnegcjgolaakcaaDR
namespace Go.Proofs.Ytnegcjgolaakcaa
open Go.RowKit
open Go.Proofs.YtnegcjgolaakcaaW.PrintWords
open Go.ChangeShapes Go.WideShapes
set_option linter.unusedVariables false
theorem keepOpen (W : World) : Opens Try.prog W 37 (Kd.slice 3 (Kd.int .i64)) (fun l => ∀ x ∈ l, x ≤ 9223372036854775807) :=
  (Opens.slice Try.underlying37 (by kernel_rfl) (Opens.int Try.underlying3)).imp fun l h x hx => i64_le (h.2.2 x hx)
end Go.Proofs.Ytnegcjgolaakcaa
