/- TopNames: the law comes to true. -/
import Derived.Test.YtmeepolmnfoikaaRows3
import Derived.Outline
namespace Go.Proofs.Ytmeepolmnfoikaa
open Go.RowKit
set_option linter.unusedVariables false
set_option linter.unusedSimpArgs false

set_option maxHeartbeats 400000 in
theorem names_calls (w : World) : Calls Try.prog 3 #[] w fun e w' => e = .returned (.bool true) ∧ Below w.heap.size w w' := by
  go_enter Try.func3, Try.ntmps3
  go_wp2_with fail
  refine (errors_calls w).mono ?_
  rintro e w1 ⟨rfl, hb1⟩
  have HB1 : Hid _ := hb1
  clear hb1
  go_wp2_with fail
  refine (limits_calls w1).mono ?_
  rintro e w2 ⟨rfl, hb2⟩
  have HB2 : Hid _ := HB1.out.trans (hb2.mono HB1.out.size)
  clear hb2
  go_wp2_with fail
  refine (kinds_calls w2).mono ?_
  rintro e w3 ⟨rfl, hb3⟩
  have HB3 : Hid _ := HB2.out.trans (hb3.mono HB2.out.size)
  clear hb3
  go_wp2
  go_ret
  exact ⟨rfl, HB3.out⟩

end Go.Proofs.Ytmeepolmnfoikaa
