/- TensorGlues: what the row needs. -/
import Derived.Test.YtklomikdihlcgaaGlLW
import Derived.Test.YtklomikdihlcgaaOpT
namespace Go.Proofs.Ytklomikdihlcgaa
open Go.RowKit PBase
open Go.Proofs.YtklomikdihlcgaaW.PrintWords Go.Proofs.YtklomikdihlcgaaW.PrintLast Go.Proofs.YtklomikdihlcgaaW.PrintMore
set_option linter.unusedVariables false
theorem in_i64 {x : Int} (h : (Lit.int .i64 x).wf = true) : -9223372036854775808 ≤ x ∧ x ≤ 9223372036854775807 := by
  simp only [Lit.wf, Bool.and_eq_true, decide_eq_true_eq] at h
  exact h
theorem matsOpen (W : World) : Opens Try.prog W 70 (Kd.slice 25 matK) (fun ms => (∀ m ∈ ms, InR m.2.2.2) ∧ ∀ m ∈ ms, m.2.2.2.length ≤ 1000000000000000) :=
  (Opens.slice Try.underlying70 (by kernel_rfl) (Opens.struct4 Try.underlying25 (by kernel_rfl) rfl rfl rfl rfl (by kernel_rfl) (by kernel_rfl) (by kernel_rfl) (by kernel_rfl) (Opens.int Try.underlying3) (Opens.int Try.underlying3) (Opens.int Try.underlying3) (Opens.slice Try.underlying23 (by kernel_rfl) (Opens.int Try.underlying3)))).imp fun ms h => by
    refine ⟨fun m hm x hx => in_i64 ((h.2.2 m hm).2.2.2.2.2 x hx), fun m hm => ?_⟩
    have h1 := (h.2.2 m hm).2.2.2.2.1
    have h2 : Try.prog.bytesOf 3 = 8 := by kernel_rfl
    rw [h2] at h1
    simp only [reachBytes] at h1
    omega
end Go.Proofs.Ytklomikdihlcgaa
