/- TopNames: the numbers of package api are what the document says: the law comes to true. -/
import Derived.Test.YtmeepolmnfoikaaProg
import Derived.WalkKit
import Derived.Below
import Derived.Outline
import Derived.KernelRfl
import Derived.Deep.LoopGhost
import Derived.Deep.QuietTactic
import Derived.BigQuiet
namespace Go.Proofs.Ytmeepolmnfoikaa
open Go.RowKit
set_option linter.unusedVariables false
set_option linter.unusedSimpArgs false

/-- a row of pairs, each of two alike -/
def Pairs (w : World) (b : Nat) (l : List Int) : Prop := ∀ i, (h : i < l.length) → w.cell? ⟨b, i * 2, none⟩ = some (.int .i64 l[i]) ∧ w.cell? ⟨b, i * 2 + 1, none⟩ = some (.int .i64 l[i])

set_option maxHeartbeats 400000 in
theorem are_calls (b : Nat) (l : List Int) (w : World) (hl : l.length ≤ 1000) (h : Pairs w b l) :
    Calls Try.prog 7 #[.slice (some ⟨b, 0, none⟩) l.length l.length] w fun e w' => e = .returned (.bool true) ∧ ∃ n, w' = w.drewN n := by
  go_enter Try.func7, Try.ntmps7
  go_wp2
  have HP : Hid (Pairs w b l) := h
  clear h
  go_loopg [3] l.length (fun kq v3 w' => ∃ i : Nat, v3 = .int .i64 i ∧ Hid (i + kq = l.length) ∧ Hid (∃ n, w' = w.drewN n))
  case atStart => exact ⟨0, rfl, show _ = _ by omega, ⟨0, rfl⟩⟩
  case round =>
    obtain ⟨i, rfl, HI, HW⟩ := hrel
    obtain ⟨nq, rfl⟩ := HW.out
    by_cases hlt : i < l.length
    · have d1 : decide ((i : Int) < (l.length : Int)) = true := decide_eq_true (by omega)
      obtain ⟨h1, h2⟩ := HP.out i hlt
      generalize l[i] = x at h1 h2
      go_wp2
      go_quiet (fail)
      go_wp2
      go_roundg (gk - 1)
      case measure => have := HI.out; omega
      case rel => exact ⟨i + 1, by go_num, show _ = _ by have := HI.out; omega, ⟨_, rfl⟩⟩
    · have d1 : decide ((i : Int) < (l.length : Int)) = false := decide_eq_false (by omega)
      go_wp2
      go_ret
      exact ⟨rfl, _, rfl⟩

end Go.Proofs.Ytmeepolmnfoikaa
