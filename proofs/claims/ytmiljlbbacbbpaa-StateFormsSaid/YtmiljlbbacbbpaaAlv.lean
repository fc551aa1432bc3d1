/- pupillaw23.alive comes to true. -/
import Derived.Test.YtmiljlbbacbbpaaSbP
import Derived.Test.YtmiljlbbacbbpaaAlvW
namespace Go.Proofs.Ytmiljlbbacbbpaa
open Go.RowKit PBase
open Go.Proofs.YtmiljlbbacbbpaaW.PrintWords Go.Proofs.YtmiljlbbacbbpaaW.PrintLast Go.Proofs.YtmiljlbbacbbpaaW.PrintMore
set_option linter.unusedVariables false
set_option linter.unusedSimpArgs false
theorem alive_calls (w : World) : Calls Try.prog 11 #[] w fun e w' => e = .returned (.bool true) ∧ Below w.heap.size w w' := by
  have hw := write_ev 7 2 1 [one, two] [[one], []] 5 (-9)
  rw [if_pos sample_check] at hw
  obtain ⟨K, hK⟩ := hw.one
  have hsh : ∀ s ∈ [[one], []], Short s := by
    intro s hs
    have : s = [one] ∨ s = [] := by simpa using hs
    rcases this with rfl | rfl <;> exact ⟨by decide, by decide⟩
  obtain ⟨L, hL⟩ := (same_all 7 2 1 [one, two] [[one], []] 5 (-9) ⟨by decide, by decide⟩ (by decide) hsh).one
  have hwh := whole_of sample_check
  have hr := read_ok (write_bytes 7 2 1 [one, two] [[one], []] 5 (-9)) (write_read hwh sample_words)
  have hln : (writeP 7 2 1 [one, two] [[one], []] 5 (-9)).length = 105 := by
    unfold writeP
    rw [List.length_append, leB_length, body_length]
    rfl
  exact alive_walk [one, two] [[one], []] _ K L rfl rfl hln hK hr hL sample_check w
end Go.Proofs.Ytmiljlbbacbbpaa
namespace Go.Proofs.Ytmiljlbbacbbpaa.PBase
open Go.RowKit
def pupillaw23_alive.f : Option Bool := some true
theorem pupillaw23_alive.calls (r : Bool) (w : World) (h : pupillaw23_alive.f = some r) : Calls Try.prog 11 #[] w fun e w' => e = .returned (.bool r) ∧ Below w.heap.size w w' := by
  injection h with h
  subst h
  exact alive_calls w
end Go.Proofs.Ytmiljlbbacbbpaa.PBase
