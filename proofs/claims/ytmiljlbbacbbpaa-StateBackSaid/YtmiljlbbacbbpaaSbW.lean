/- StateBack, plainly: it comes to true. -/
import Derived.Test.YtmiljlbbacbbpaaAlv
import Derived.Test.YtmiljlbbacbbpaaPBasepupillaw23StateBack
namespace Go.Proofs.Ytmiljlbbacbbpaa
open Go.RowKit PBase
open Go.Proofs.YtmiljlbbacbbpaaW.PrintWords Go.Proofs.YtmiljlbbacbbpaaW.PrintLast Go.Proofs.YtmiljlbbacbbpaaW.PrintMore
set_option linter.unusedVariables false
set_option linter.unusedSimpArgs false
/-- where it stops, with one of the three errors -/
def Stops {α : Type} (p : PR α) : Prop := ∀ q pl, p = .stop q pl → 50 ≤ q ∧ q ≤ 52
theorem Stops.ok {α : Type} (x : α) (a : Nat) : Stops (PR.ok x a) := fun q pl h => by cases h
theorem Stops.stop {α : Type} {q p : Int} (h : 50 ≤ q ∧ q ≤ 52) : Stops (PR.stop q p : PR α) := fun q2 pl e => by injection e with e1 e2; omega
theorem Stops.bind {α β : Type} {p : PR α} {f : α → Nat → PR β} (h : Stops p) (hf : ∀ x a, Stops (f x a)) : Stops (p.bind f) := by
  cases p with
  | ok x a => exact hf x a
  | stop q pl => exact Stops.stop (h q pl rfl)
theorem number_stops (b : List Int) (n a : Nat) : Stops (numberP b n a) := by
  unfold numberP
  split
  · exact Stops.stop (by decide)
  · exact Stops.ok _ _
theorem within_stops (b : List Int) (n : Nat) (lo hi : Int) (a : Nat) : Stops (withinP b n lo hi a) := by
  unfold withinP
  have h := number_stops b n a
  split
  · rename_i e p he
    exact Stops.stop (h e p he)
  · split
    · exact Stops.stop (by decide)
    · exact Stops.ok _ _
theorem bits_stops (b : List Int) (w : Int) : ∀ (k a : Nat) (acc : List Int), Stops (bitsP b w k a acc)
  | 0, a, acc => Stops.ok _ _
  | k + 1, a, acc => by
    unfold bitsP
    have h := number_stops b (w / 8).toNat a
    split
    · rename_i e p he
      exact Stops.stop (h e p he)
    · split
      · exact bits_stops b w k _ _
      · exact Stops.stop (by decide)
theorem matrix_stops (b : List Int) (a : Nat) : Stops (matrixP b a) := by
  unfold matrixP
  have h := number_stops b 1 a
  split
  · rename_i e p he
    exact Stops.stop (h e p he)
  · unfold matrix1
    split
    · exact Stops.stop (by decide)
    · rename_i a1 _ _
      have h := within_stops b 2 1 65535 a1
      split
      · rename_i e p he
        exact Stops.stop (h e p he)
      · rename_i r a2 _
        unfold matrix2
        have h := within_stops b 2 1 (4096 / r) a2
        split
        · rename_i e p he
          exact Stops.stop (h e p he)
        · rename_i w _ _ c a3 _
          unfold matrix3
          split
          · rename_i e p he
            exact Stops.stop (bits_stops _ _ _ _ _ e p he)
          · exact Stops.ok _ _
theorem mats_stops (b : List Int) : ∀ (k a : Nat) (acc : List S56), Stops (matsP b k a acc)
  | 0, a, acc => Stops.ok _ _
  | k + 1, a, acc => by
    unfold matsP
    exact (matrix_stops b a).bind (fun x a => mats_stops b k a _)
theorem slots_stops (b : List Int) : ∀ (k a : Nat) (acc : List (List S56)), Stops (slotsP b k a acc)
  | 0, a, acc => Stops.ok _ _
  | k + 1, a, acc => by
    unfold slotsP
    exact (within_stops b 1 0 4 a).bind (fun x a => (mats_stops b _ a _).bind (fun s a => slots_stops b k a _))
theorem head_stops (b : List Int) : ∀ (l : List Int) (a : Nat), Stops (headP b l a)
  | [], a => Stops.ok _ _
  | x :: l, a => by
    unfold headP
    exact (within_stops b 1 x x a).bind (fun _ a => head_stops b l a)
theorem read_stops (b : List Int) (hl : b.length ≤ 16777216) : Stops (readP b) := by
  unfold readP
  rw [if_neg (by omega)]
  refine (head_stops b _ _).bind fun _ a => ?_
  unfold read1
  refine (within_stops _ _ _ _ _).bind fun _ a => (within_stops _ _ _ _ _).bind fun _ a => (within_stops _ _ _ _ _).bind fun _ a => ?_
  unfold read2
  refine (number_stops _ _ _).bind fun _ a => (number_stops _ _ _).bind fun _ a => (within_stops _ _ _ _ _).bind fun _ a => (mats_stops _ _ _ _).bind fun _ a => ?_
  unfold read3
  refine (within_stops _ _ _ _ _).bind fun _ a => (slots_stops _ _ _ _).bind fun _ a => ?_
  unfold read4
  refine (number_stops _ _ _).bind fun _ a => ?_
  split
  · exact Stops.stop (by decide)
  · split
    · exact Stops.stop (by decide)
    · exact Stops.ok _ _
theorem read_stop_ne {b : List Int} {q p : Int} (h : readP b = .stop q p) : q ≠ 0 := by
  by_cases hl : b.length ≤ 16777216
  · have := read_stops b hl q p h
    omega
  · unfold readP at h
    rw [if_pos (by omega)] at h
    injection h with h1 h2
    omega
/-- all lists are of a memory's length -/
structure Small (ps : List S56) (ss : List (List S56)) : Prop where
  hp : Short ps
  hl : ss.length ≤ 9000000000000000000
  hs : ∀ s ∈ ss, Short s
theorem Whole.small {s0 s1 s2 : Int} {ps : List S56} {ss : List (List S56)} (h : Whole s0 s1 s2 ps ss) : Small ps ss := by
  have key : ∀ m : S56, fitsV m = true → m.f3.length ≤ 9000000000000000000 := fun m hm => by
    have := (fits_size hm).2
    omega
  exact ⟨⟨by have := h.lp; omega, fun m hm => key m (h.fp m hm)⟩, by have := h.ls; omega, fun s hs => ⟨by have := (h.fs s hs).1; omega, fun m hm => key m ((h.fs s hs).2 m hm)⟩⟩
theorem Ev.at_ {α : Type} {f : Nat → Option α} {r : α} (K : Nat) (h : ∀ k, K ≤ k → f (k + 1) = some r) : Ev f r := by
  refine ⟨K + 1, fun k hk => ?_⟩
  obtain ⟨j, rfl⟩ : ∃ j, k = j + 1 := ⟨k - 1, by omega⟩
  exact h j (by omega)
theorem read_stopped {l : List Int} {q p : Int} (hB : Bytes l) (h : readP l = .stop q p) : state_Read.f l = some (0, 0, 0, [], [], 0, 0, p, q) := by
  unfold state_Read.f
  rw [if_pos hB, h]
  rfl
theorem back2 (l1 : List Int) (hB : Bytes l1) : Ev (fun k => pupillaw23_StateBack.j2 k l1) true := by
  cases hr : readP l1 with
  | ok x a =>
    obtain ⟨hc, hw, hW⟩ := read_write hB hr
    obtain ⟨K, hK⟩ := write_ev x.step x.epoch x.batch x.params x.slots x.loss x.rate
    rw [if_pos hc, hw] at hK
    refine Ev.at_ K fun k hk => ?_
    have h1 := hK k hk
    simp only at h1
    show pupillaw23_StateBack.j2 (k + 1) l1 = _
    rw [pupillaw23_StateBack.j2, read_ok hB hr, Option.bind_some]
    simp only
    rw [if_pos trivial, h1, Option.bind_some]
    unfold pupillaw23_alive.f
    rw [Option.bind_some, if_pos rfl, if_pos rfl]
    simp
  | stop q p =>
    have hq := read_stop_ne hr
    obtain ⟨K, hK⟩ := same_all 0 0 0 [] [] 0 0 ⟨by decide, by decide⟩ (by decide) (by simp)
    refine Ev.at_ K fun k hk => ?_
    have h1 := hK k hk
    simp only at h1
    show pupillaw23_StateBack.j2 (k + 1) l1 = _
    rw [pupillaw23_StateBack.j2, read_stopped hB hr, Option.bind_some]
    simp only
    rw [if_neg hq]
    unfold pupillaw23_alive.f
    rw [Option.bind_some, if_pos rfl, h1, Option.bind_some]
theorem back1 (l1 : List Int) (hB : Bytes l1) (s0 s1 s2 : Int) (ps : List S56) (ss : List (List S56)) (lo ra : Int) (hW : Words s0 s1 s2 ps ss lo ra) :
    Ev (fun k => pupillaw23_StateBack.j0 k l1 false s0 s1 s2 ps ss lo ra) true := by
  obtain ⟨K2, hK2⟩ := back2 l1 hB
  obtain ⟨K, hK⟩ := write_ev s0 s1 s2 ps ss lo ra
  by_cases hc : checkV s0 s1 s2 ps ss = 0
  · rw [if_pos hc] at hK
    have hwh := whole_of hc
    have hr := read_ok (write_bytes s0 s1 s2 ps ss lo ra) (write_read hwh hW)
    obtain ⟨L, hL⟩ := same_all s0 s1 s2 ps ss lo ra hwh.small.hp hwh.small.hl hwh.small.hs
    refine Ev.at_ (K + K2 + L + 1) fun k hk => ?_
    obtain ⟨j, rfl⟩ : ∃ j, k = j + 1 := ⟨k - 1, by omega⟩
    have h1 := hK (j + 1) (by omega)
    have h2 := hK2 j (by omega)
    have h3 := hL j (by omega)
    simp only at h1 h2 h3
    show pupillaw23_StateBack.j0 (j + 1 + 1) l1 false s0 s1 s2 ps ss lo ra = _
    rw [pupillaw23_StateBack.j0, if_neg (by simp), h1, Option.bind_some]
    unfold state_Check.f
    rw [Option.bind_some, hc]
    simp only
    rw [if_pos trivial, if_pos trivial, pupillaw23_StateBack.j1, if_neg (by simp), if_pos rfl, hr, Option.bind_some]
    simp only
    rw [if_pos trivial, if_pos trivial, h3, Option.bind_some, if_pos rfl, h2]
  · rw [if_neg hc] at hK
    refine Ev.at_ (K + K2 + 1) fun k hk => ?_
    obtain ⟨j, rfl⟩ : ∃ j, k = j + 1 := ⟨k - 1, by omega⟩
    have h1 := hK (j + 1) (by omega)
    have h2 := hK2 j (by omega)
    simp only at h1 h2
    show pupillaw23_StateBack.j0 (j + 1 + 1) l1 false s0 s1 s2 ps ss lo ra = _
    rw [pupillaw23_StateBack.j0, if_neg (by simp), h1, Option.bind_some]
    unfold state_Check.f
    rw [Option.bind_some]
    simp only
    rw [if_pos trivial, if_neg hc, pupillaw23_StateBack.j1, if_neg (by simp), if_neg hc, h2]
theorem back_all (s0 s1 s2 : Int) (ps : List S56) (ss : List (List S56)) (lo ra : Int) (l1 : List Int) (hp : ps.length ≤ 9000000000000000000) (hl : ss.length ≤ 9000000000000000000) (hs : ∀ s ∈ ss, s.length ≤ 9000000000000000000) (hW : Words s0 s1 s2 ps ss lo ra) (hB : Bytes l1) :
    ∃ k, pupillaw23_StateBack.f k s0 s1 s2 ps ss lo ra l1 = some true := by
  obtain ⟨n, Kb, hKb⟩ := bulk_some s0 s1 s2 ps ss lo ra hp hl hs
  obtain ⟨K1, hK1⟩ := back1 l1 hB s0 s1 s2 ps ss lo ra hW
  have h0 : ∀ k, pupillaw23_StateBack.j0 (k + 1) l1 true s0 s1 s2 ps ss lo ra = some true := fun k => by
    rw [pupillaw23_StateBack.j0, if_pos rfl]
    unfold pupillaw23_alive.f
    rw [Option.bind_some]
  refine ⟨Kb + K1 + 1, ?_⟩
  have h1 := hKb (Kb + K1 + 1) (by omega)
  have h2 := hK1 (Kb + K1 + 1) (by omega)
  simp only at h1 h2
  unfold pupillaw23_StateBack.f
  rw [h1, Option.bind_some]
  split
  · exact h0 _
  · cases hd : decide ((l1.length : Int) > 400000) with
    | false => exact h2
    | true => exact h0 _
end Go.Proofs.Ytmiljlbbacbbpaa
