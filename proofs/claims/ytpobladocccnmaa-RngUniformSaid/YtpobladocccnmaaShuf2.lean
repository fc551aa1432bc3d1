/- The walks of rng.Shuffle and of the document's Below and Shuffle, and of alive: what they come to in the plain numbers of Draw. -/
import Derived.Test.YtpobladocccnmaaShuf
import Derived.Outline
namespace Go.Proofs.Ytpobladocccnmaa
open Go.RowKit Mix PBase
open Go.Proofs.YtpobladocccnmaaW.PrintWords Go.Proofs.YtpobladocccnmaaW.PrintLast Go.Proofs.YtpobladocccnmaaW.PrintMore
attribute [local go_sem] max2_int min2_int max_two min_two max_three min_three max_four min_four
set_option linter.unusedVariables false
set_option linter.unusedSimpArgs false

set_option maxHeartbeats 1000000 in
set_option maxRecDepth 100000 in
theorem Shuffle_calls (s t a : Int) (n : Nat) (w : World) (hn : n ≤ 65536) :
    Calls Try.prog 25 #[.agg #[.int .i64 s, .int .i64 t, .int .i64 a], .int .i64 n] w fun e w' => ∃ b, e = .returned (.tuple #[.slice (some ⟨b, 0, none⟩) n n, .agg #[.int .i64 s, .int .i64 t, .int .i64 (shuf s t a n).2], .int .i64 0]) ∧ IsInts w' b (shuf s t a n).1 ∧ w.heap.size ≤ b ∧ Below w.heap.size w w' := by
  have d1 : decide ((n : Int) < 0) = false := decide_eq_false (by omega)
  have d2 : decide ((n : Int) > 65536) = false := decide_eq_false (by omega)
  go_enter Try.func25, Try.ntmps25
  go_wp2_with fail
  refine (shuffled_calls w.heap.size s t a n w _ ((IsS23.new w w s t a (Below.refl _ _)).alloc _) (((Below.refl _ _).alloc (Nat.le_refl _) _).alloc (by simp) _) hn).mono ?_
  rintro e w2 ⟨b, rfl, hL, hb, hI, hB, hK⟩
  have hBK : w2.heap[w.heap.size + 1]? = some (.cells #[.int .i64 0, .int .i64 0, .int .i64 0] 23 (0, 0)) := (hK.2 (w.heap.size + 1) (by simp) (by omega) (by simp)).trans (by simpa using blk_new (w.alloc (.cells #[.int .i64 s, .int .i64 t, .int .i64 a] 23)) (.cells #[.int .i64 0, .int .i64 0, .int .i64 0] 23 (0, 0)))
  have hb2 : w.heap.size + 2 ≤ b := by simpa using hb
  obtain ⟨a2, ha2⟩ : ∃ x, x = (shuf s t a n).2 := ⟨_, rfl⟩
  obtain ⟨l2, hl2⟩ : ∃ x, x = (shuf s t a n).1 := ⟨_, rfl⟩
  rw [← ha2] at hI
  rw [← hl2] at hL
  have HA2 := Aside0.mk ha2
  have HL2 := Aside0.mk hl2
  clear ha2 hl2
  have HL := Aside0.mk hL
  have HI := Aside0.mk hI
  have HB := Aside0.mk hB
  have HG := Aside0.mk hb2
  have BK := Aside0.mk hBK
  obtain ⟨hI0, _⟩ := hI
  have c0 := cellS23_0 hI0
  have c1 := cellS23_1 hI0
  have c2 := cellS23_2 hI0
  clear hL hB hb hb2 hK hI0 hBK
  have e0 : w2.cell? ⟨w.heap.size + 1, 0, none⟩ = some (.int .i64 0) := (blk_cell BK.out 0).trans rfl
  have e1 : w2.cell? ⟨w.heap.size + 1, 1, none⟩ = some (.int .i64 0) := (blk_cell BK.out 1).trans rfl
  have e2 : w2.cell? ⟨w.heap.size + 1, 2, none⟩ = some (.int .i64 0) := (blk_cell BK.out 2).trans rfl
  have f0 := blk_frozen BK.out 0
  have f1 := blk_frozen BK.out 1
  have f2 := blk_frozen BK.out 2
  go_wp2
  refine start_ (n := 5) (S := fun w' => w'.cell? ⟨w.heap.size, 0, none⟩ = some (.int .i64 s) ∧ w'.cell? ⟨w.heap.size, 1, none⟩ = some (.int .i64 t) ∧ w'.cell? ⟨w.heap.size, 2, none⟩ = some (.int .i64 a2)) (ds := [3]) #[false, false, false, false, false] (by kernel_rfl) rfl rfl ⟨c0, c1, c2⟩ (fun hHeld => ?_)
  refine pure_ (i := 0) (N := some 18) (v := ?_) (a' := ?_) #[true, false, false, false, false] rfl rfl (by kernel_rfl) (fun _ _ _ h => h) (Or.inl ⟨by rfl, ?_⟩) ?_ ?_
  rotate_left
  · intro w'
    go_simp
    with_reducible rfl
  rotate_left
  · simp only [Act.put, List.setIfInBounds_toArray, List.set_cons_zero, List.set_cons_succ, i64_w, i32_w]
    rfl
  refine pure_ (i := 2) (N := some 4) (v := ?_) (a' := ?_) #[true, false, true, false, false] rfl rfl (by kernel_rfl) (fun _ _ _ h => h) (Or.inl ⟨by rfl, ?_⟩) ?_ ?_
  rotate_left
  · intro w'
    go_simp
    with_reducible rfl
  rotate_left
  · simp only [Act.put, List.setIfInBounds_toArray, List.set_cons_zero, List.set_cons_succ, i64_w, i32_w]
    rfl
  refine take_ (i := 1) (N := some 19) (v := ?_) (a' := ?_) #[true, true, true, false, false] rfl rfl (by kernel_rfl) (fun _ _ _ h => h) (Or.inl ⟨by rfl, ?_⟩) hHeld ?_ ?_
  rotate_left
  · rintro w' ⟨s0, s1, s2⟩
    go_simp
    with_reducible rfl
  rotate_left
  · simp only [Act.put, List.setIfInBounds_toArray, List.set_cons_zero, List.set_cons_succ, i64_w, i32_w]
    rfl
  refine last_ (i := 3) (N := none) #[true, true, true, true, false] rfl rfl (by kernel_rfl) (by decide) (fun K hK => ?_)
  refine skip_ (w1 := ?_) (by rfl) rfl ?_ ?_
  rotate_left
  · go_simp
    rfl
  refine hK.out _ _ ?_
  clear hK K
  refine pure_ (i := 4) (N := some 6) (v := ?_) (a' := ?_) #[true, true, true, true, true] rfl rfl (by kernel_rfl) (fun _ _ _ h => h) (Or.inl ⟨by rfl, ?_⟩) ?_ ?_
  rotate_left
  · intro w'
    go_simp
    with_reducible rfl
  rotate_left
  · simp only [Act.put, List.setIfInBounds_toArray, List.set_cons_zero, List.set_cons_succ, i64_w, i32_w]
    rfl
  refine done_ (by kernel_rfl) ?_
  go_wp2
  refine bodyPost_ret (v := .tuple #[.slice (some ⟨b, 0, none⟩) n n, .agg #[.int .i64 s, .int .i64 t, .int .i64 a2], .int .i64 0]) (by simp [results, Try.results25, go_sem, e0, e1, e2]) rfl ?_
  rw [← HA2.out, ← HL2.out]
  have h0 : b ≠ w.heap.size + 1 := by have := HG.out; omega
  exact ⟨b, rfl, (((HL.out.far h0 _).far h0 _).far h0 _).drew, by have := HG.out; omega, Below.drew (below_set (below_set (below_set HB.out (by omega)) (by omega)) (by omega))⟩

end Go.Proofs.Ytpobladocccnmaa
