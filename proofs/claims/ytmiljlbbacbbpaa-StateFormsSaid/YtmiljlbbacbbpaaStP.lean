/- Where reading stops; what reading tells. -/
import Derived.Test.YtmiljlbbacbbpaaSbP
import Derived.Test.YtmiljlbbacbbpaaRd
namespace Go.Proofs.Ytmiljlbbacbbpaa
open Go.RowKit PBase
open Go.Proofs.YtmiljlbbacbbpaaW.PrintWords Go.Proofs.YtmiljlbbacbbpaaW.PrintLast Go.Proofs.YtmiljlbbacbbpaaW.PrintMore
set_option linter.unusedVariables false
set_option linter.unusedSimpArgs false
/-- where it stops, with one of the three errors -/
def Stops {α : Type} (p : PR α) : Prop := ∀ q pl, p = .stop q pl → 50 ≤ q ∧ q ≤ 52
theorem Stops.ok {α : Type} (x : α) (a : Nat) : Stops (PR.ok x a) := fun q pl h => by cases h
theorem Stops.stop {α : Type} {q p : Int} (h : 50 ≤ q ∧ q ≤ 52) : Stops (PR.stop q p : PR α) := fun q2 pl e => by injection e with e1 e2; omega
theorem Stops.bind {α β : Type} {p : PR α} {f : α → Nat → PR β} (h : Stops p) (hf : ∀ x a, Stops (f x a)) : Stops (p.bind f) := by
  cases p with
  | ok x a => exact hf x a
  | stop q pl => exact Stops.stop (h q pl rfl)
theorem number_stops (b : List Int) (n a : Nat) : Stops (numberP b n a) := by
  unfold numberP
  split
  · exact Stops.stop (by decide)
  · exact Stops.ok _ _
theorem within_stops (b : List Int) (n : Nat) (lo hi : Int) (a : Nat) : Stops (withinP b n lo hi a) := by
  unfold withinP
  have h := number_stops b n a
  split
  · rename_i e p he
    exact Stops.stop (h e p he)
  · split
    · exact Stops.stop (by decide)
    · exact Stops.ok _ _
theorem bits_stops (b : List Int) (w : Int) : ∀ (k a : Nat) (acc : List Int), Stops (bitsP b w k a acc)
  | 0, a, acc => Stops.ok _ _
  | k + 1, a, acc => by
    unfold bitsP
    have h := number_stops b (w / 8).toNat a
    split
    · rename_i e p he
      exact Stops.stop (h e p he)
    · split
      · exact bits_stops b w k _ _
      · exact Stops.stop (by decide)
theorem matrix_stops (b : List Int) (a : Nat) : Stops (matrixP b a) := by
  unfold matrixP
  have h := number_stops b 1 a
  split
  · rename_i e p he
    exact Stops.stop (h e p he)
  · unfold matrix1
    split
    · exact Stops.stop (by decide)
    · rename_i a1 _ _
      have h := within_stops b 2 1 65535 a1
      split
      · rename_i e p he
        exact Stops.stop (h e p he)
      · rename_i r a2 _
        unfold matrix2
        have h := within_stops b 2 1 (4096 / r) a2
        split
        · rename_i e p he
          exact Stops.stop (h e p he)
        · rename_i w _ _ c a3 _
          unfold matrix3
          split
          · rename_i e p he
            exact Stops.stop (bits_stops _ _ _ _ _ e p he)
          · exact Stops.ok _ _
theorem mats_stops (b : List Int) : ∀ (k a : Nat) (acc : List S56), Stops (matsP b k a acc)
  | 0, a, acc => Stops.ok _ _
  | k + 1, a, acc => by
    unfold matsP
    exact (matrix_stops b a).bind (fun x a => mats_stops b k a _)
theorem slots_stops (b : List Int) : ∀ (k a : Nat) (acc : List (List S56)), Stops (slotsP b k a acc)
  | 0, a, acc => Stops.ok _ _
  | k + 1, a, acc => by
    unfold slotsP
    exact (within_stops b 1 0 4 a).bind (fun x a => (mats_stops b _ a _).bind (fun s a => slots_stops b k a _))
theorem head_stops (b : List Int) : ∀ (l : List Int) (a : Nat), Stops (headP b l a)
  | [], a => Stops.ok _ _
  | x :: l, a => by
    unfold headP
    exact (within_stops b 1 x x a).bind (fun _ a => head_stops b l a)
theorem read_stops (b : List Int) (hl : b.length ≤ 16777216) : Stops (readP b) := by
  unfold readP
  rw [if_neg (by omega)]
  refine (head_stops b _ _).bind fun _ a => ?_
  unfold read1
  refine (within_stops _ _ _ _ _).bind fun _ a => (within_stops _ _ _ _ _).bind fun _ a => (within_stops _ _ _ _ _).bind fun _ a => ?_
  unfold read2
  refine (number_stops _ _ _).bind fun _ a => (number_stops _ _ _).bind fun _ a => (within_stops _ _ _ _ _).bind fun _ a => (mats_stops _ _ _ _).bind fun _ a => ?_
  unfold read3
  refine (within_stops _ _ _ _ _).bind fun _ a => (slots_stops _ _ _ _).bind fun _ a => ?_
  unfold read4
  refine (number_stops _ _ _).bind fun _ a => ?_
  split
  · exact Stops.stop (by decide)
  · split
    · exact Stops.stop (by decide)
    · exact Stops.ok _ _
theorem read_stop_ne {b : List Int} {q p : Int} (h : readP b = .stop q p) : q ≠ 0 := by
  by_cases hl : b.length ≤ 16777216
  · have := read_stops b hl q p h
    omega
  · unfold readP at h
    rw [if_pos (by omega)] at h
    injection h with h1 h2
    omega
/-- all lists are of a memory's length -/
structure Small (ps : List S56) (ss : List (List S56)) : Prop where
  hp : Short ps
  hl : ss.length ≤ 9000000000000000000
  hs : ∀ s ∈ ss, Short s
theorem Whole.small {s0 s1 s2 : Int} {ps : List S56} {ss : List (List S56)} (h : Whole s0 s1 s2 ps ss) : Small ps ss := by
  have key : ∀ m : S56, fitsV m = true → m.f3.length ≤ 9000000000000000000 := fun m hm => by
    have := (fits_size hm).2
    omega
  exact ⟨⟨by have := h.lp; omega, fun m hm => key m (h.fp m hm)⟩, by have := h.ls; omega, fun s hs => ⟨by have := (h.fs s hs).1; omega, fun m hm => key m ((h.fs s hs).2 m hm)⟩⟩
theorem Ev.at_ {α : Type} {f : Nat → Option α} {r : α} (K : Nat) (h : ∀ k, K ≤ k → f (k + 1) = some r) : Ev f r := by
  refine ⟨K + 1, fun k hk => ?_⟩
  obtain ⟨j, rfl⟩ : ∃ j, k = j + 1 := ⟨k - 1, by omega⟩
  exact h j (by omega)
theorem read_stopped {l : List Int} {q p : Int} (hB : Bytes l) (h : readP l = .stop q p) : state_Read.f l = some (0, 0, 0, [], [], 0, 0, p, q) := by
  unfold state_Read.f
  rw [if_pos hB, h]
  rfl
theorem read_ok {l : List Int} {x : Row} {a : Nat} (hB : Bytes l) (h : readP l = .ok x a) : state_Read.f l = some (x.step, x.epoch, x.batch, x.params, x.slots, x.loss, x.rate, 0, 0) := by
  unfold state_Read.f
  rw [if_pos hB, h]
  rfl
end Go.Proofs.Ytmiljlbbacbbpaa
