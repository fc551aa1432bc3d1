/- StateLimits: the law's contract. -/
import Derived.Test.YtmiljlbbacbbpaaLimW
namespace Go.Proofs.Ytmiljlbbacbbpaa
open Go.RowKit PBase
open Go.Proofs.YtmiljlbbacbbpaaW.PrintWords Go.Proofs.YtmiljlbbacbbpaaW.PrintLast Go.Proofs.YtmiljlbbacbbpaaW.PrintMore
set_option linter.unusedVariables false
theorem lim_calls (x : Int) (w : World) : Calls Try.prog 10 #[.int .i64 x] w fun e w' => e = .returned (.bool true) ∧ Below w.heap.size w w' := by
  obtain ⟨k, hk⟩ := lim_write.one
  obtain ⟨k2, hk2⟩ := lim_same.one
  exact lim_walk x w gPs gSs rfl rfl limB lim_length k k2 hk lim_read hk2
end Go.Proofs.Ytmiljlbbacbbpaa
