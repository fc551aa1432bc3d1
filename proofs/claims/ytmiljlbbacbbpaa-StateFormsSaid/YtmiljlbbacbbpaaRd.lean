/- state.Read, told as the printed texts ask for it. -/
import Derived.Test.YtmiljlbbacbbpaaRdW
namespace Go.Proofs.Ytmiljlbbacbbpaa
open Go.RowKit PBase
open Go.Proofs.YtmiljlbbacbbpaaW.PrintWords Go.Proofs.YtmiljlbbacbbpaaW.PrintLast Go.Proofs.YtmiljlbbacbbpaaW.PrintMore
set_option linter.unusedVariables false

def readV : PR Row → Int × Int × Int × List S56 × List (List S56) × Int × Int × Int × Int
  | .ok x _ => (x.step, x.epoch, x.batch, x.params, x.slots, x.loss, x.rate, 0, 0)
  | .stop q p => (0, 0, 0, [], [], 0, 0, p, q)
end Go.Proofs.Ytmiljlbbacbbpaa
namespace Go.Proofs.Ytmiljlbbacbbpaa.PBase
open Go.RowKit Go.Proofs.YtmiljlbbacbbpaaW.PrintWords Go.Proofs.YtmiljlbbacbbpaaW.PrintLast Go.Proofs.YtmiljlbbacbbpaaW.PrintMore
set_option linter.unusedVariables false

instance (b : List Int) : Decidable (Bytes b) := inferInstanceAs (Decidable (∀ x ∈ b, 0 ≤ x ∧ x < 256))
def state_Read.f (l0 : List Int) : Option (Int × Int × Int × List S56 × List (List S56) × Int × Int × Int × Int) :=
  if Bytes l0 then some (readV (readP l0)) else none
theorem state_Read.calls (A0 : Option Addr) (c0 : Nat) (l0 : List Int) (r1 r2 r3 : Int) (r4 : List S56) (r5 : List (List S56)) (r6 r7 r8 r9 : Int) (w : World) (hr0 : Kd.C (Kd.int .u8) w A0 l0.length l0) (hc0 : l0.length ≤ c0) (h : state_Read.f l0 = some (r1, r2, r3, r4, r5, r6, r7, r8, r9)) :
    Calls Try.prog 18 #[.slice A0 l0.length c0] w fun e w' => ∃ v3_ v4_ : Value, e = .returned (.tuple #[.agg #[.int .i64 r1, .int .i64 r2, .int .i64 r3, v3_, v4_, .int .i64 r6, .int .i64 r7], .int .i64 r8, .int .i64 r9]) ∧ Kd.S k56 56 w' w.heap.size (fun _ => True) v3_ r4 ∧ Kd.R (Kd.slice 56 k56) 22 w' w.heap.size (fun k_ => some k_ ≠ v3_.ownBlock) v4_ r5 ∧ Below w.heap.size w w' := by
  unfold state_Read.f at h
  split at h
  · rename_i hB
    injection h with h
    refine (read_any A0 c0 l0 w hr0 hc0 hB).mono ?_
    intro e w' hp
    cases hR : readP l0 with
    | ok x a =>
      rw [hR] at hp h
      obtain ⟨v3, v4, rfl, hS, hQ, hb⟩ := hp
      simp only [readV, Prod.mk.injEq] at h
      obtain ⟨rfl, rfl, rfl, rfl, rfl, rfl, rfl, rfl, rfl⟩ := h
      exact ⟨v3, v4, rfl, hS, hQ, hb⟩
    | stop q p =>
      rw [hR] at hp h
      obtain ⟨rfl, hb⟩ := hp
      simp only [readV, Prod.mk.injEq] at h
      obtain ⟨rfl, rfl, rfl, rfl, rfl, rfl, rfl, rfl, rfl⟩ := h
      exact ⟨_, _, rfl, Kd.S_nil _ _ _ _ _, Kd.R_nil _ _ _ _ _, hb⟩
  · cases h
end Go.Proofs.Ytmiljlbbacbbpaa.PBase
