/- The walk of rng.Uniform: a word's upper bits as a float. -/
import Derived.Test.YtpobladocccnmaaFloatW
import Derived.Outline
namespace Go.Proofs.Ytpobladocccnmaa
open Go.RowKit Mix PBase UnifN
open Go.Proofs.YtpobladocccnmaaW.PrintWords Go.Proofs.YtpobladocccnmaaW.PrintLast Go.Proofs.YtpobladocccnmaaW.PrintMore
set_option linter.unusedVariables false
set_option linter.unusedSimpArgs false

def F19RT5 : Bool × List (List Nat × List Nat) := (true, [([], []), ([0], [0]), ([1], [1]), ([2], [2]), ([3], [3]), ([], []), ([4, 4, 0, 1, 2, 3, 4], [4]), ([5, 6, 0, 1, 2, 3, 4, 5, 6], [5]), ([7, 0, 1, 2, 3, 4, 5, 6, 7], [])])
def F19RB5 : List Nat := [0, 1, 3, 7, 15, 0, 31, 127, 255]
theorem F19Rtab5 : rtab .any (opsOf Try.f19 5) = F19RT5 := by kernel_rfl
theorem F19Rbits5 : waitsOk F19RT5.2 F19RB5 = true := by kernel_rfl
set_option maxHeartbeats 1000000 in
set_option maxRecDepth 100000 in
theorem Uniform64_calls (s t a : Int) (w : World) :
    Calls Try.prog 19 #[.agg #[.int .i64 s, .int .i64 t, .int .i64 a], .int .i64 64] w fun e w' => e = .returned (.tuple #[.int .i64 ((uni64 (wordP s t (uw a + 1) / 2048) : Nat) : Int), .agg #[.int .i64 s, .int .i64 t, .int .i64 (wrap64 (a + 1))], .int .i64 0]) ∧ Below w.heap.size w w' := by
  obtain ⟨W, hW⟩ : ∃ W, W = wordP s t (uw a + 1) := ⟨_, rfl⟩
  have hWl : W < 18446744073709551616 := by rw [hW]; exact wordP_lt _ _ _
  rw [← hW]
  have HW : Aside0 (rng_word.f s t a 0 = some (W : Int)) := ⟨by rw [rng_word_eq, hW, uw_zero]⟩
  clear hW
  obtain ⟨M, hM⟩ : ∃ M, M = W / 2048 := ⟨_, rfl⟩
  rw [← hM]
  have hMl : M < 9007199254740992 := by omega
  have hsh : (W : Int) / 2048 = (M : Int) := by omega
  have hmul : floatBits .mul .f64 (floatOfInt .f64 (M : Int)) 4368491638549381120 = some (uni64 M) := by
    have h1 : ¬ ((M : Int) < 0) := by omega
    have h2 : floatOfInt .f64 (M : Int) = Ieee.double.nearest false M 0 := by
      unfold floatOfInt FloatKind.nearest FloatKind.encode
      rw [show decide ((M : Int) < 0) = false from decide_eq_false h1]; rfl
    show Ieee.double.mul _ _ = _
    rw [h2]; exact mul53 hMl
  have hrun : ∀ w : World, (binOp .mul 63 (.float .f64 (floatOfInt .f64 (M : Int))) (.float .f64 4368491638549381120)).run Try.prog w = .ok (.float .f64 (uni64 M)) w := fun w => run_float_arith w .mul 63 .f64 _ _ _ hmul
  obtain ⟨U, hU⟩ : ∃ U, U = uni64 M := ⟨_, rfl⟩
  have hUl := uni64_lt hMl
  rw [← hU] at hrun hUl ⊢
  clear hU hmul hM hMl hWl
  go_enter Try.func19, Try.ntmps19
  go_wp2_with fail
  refine (rng_word.calls s t a 0 (W : Int) _ HW.out).mono ?_
  rintro e w2 ⟨rfl, hb⟩
  have G1 := Aside0.mk (((IsS23.new w w s t a (Below.refl _ _)).alloc (.cells #[.int .i64 0, .int .i64 0, .int .i64 0] 23)).below hb)
  have G2 : Aside0 (IsS23 w w2 (w.heap.size + 1) 0 0 0) := ⟨by have h := IsS23.new w (w.alloc (Obj.cells #[Value.int IntKind.i64 s, Value.int IntKind.i64 t, Value.int IntKind.i64 a] 23)) 0 0 0 ((Below.refl _ _).alloc (Nat.le_refl _) _); simp only [World.size_alloc] at h; exact h.below hb⟩
  have HB := Aside0.mk (below_step (((Below.refl _ _).alloc (Nat.le_refl _) _).alloc (by simp) _) hb)
  clear hb
  obtain ⟨hI0, _⟩ := G1.out
  have c0 := cellS23_0 hI0
  have c1 := cellS23_1 hI0
  have c2 := cellS23_2 hI0
  have f2 := blk_frozen hI0 2
  obtain ⟨hI1, _⟩ := G2.out
  have e0 := cellS23_0 hI1
  have e1 := cellS23_1 hI1
  have e2 := cellS23_2 hI1
  clear hI0 hI1
  go_wp2
  have G3 := Aside0.mk (G1.out.set_2 (wrap64 (a + 1)))
  have G4 := Aside0.mk (G2.out.far (p := ⟨w.heap.size, 2, none⟩) (Nat.succ_ne_self _) (.int .i64 (wrap64 (a + 1))))
  have HB3 : Aside0 (Below w.heap.size w (w2.setCell ⟨w.heap.size, 2, none⟩ (.int .i64 (wrap64 (a + 1))))) := ⟨below_set HB.out (Nat.le_refl _)⟩
  generalize w2.setCell ⟨w.heap.size, 2, none⟩ (.int .i64 (wrap64 (a + 1))) = w3 at G3 G4 HB3 ⊢
  clear c0 c1 c2 f2 e0 e1 e2 G1 G2 HB
  obtain ⟨hI0, _⟩ := G3.out
  have c0 := cellS23_0 hI0
  have c1 := cellS23_1 hI0
  have c2 := cellS23_2 hI0
  obtain ⟨hI1, _⟩ := G4.out
  have e0 := cellS23_0 hI1
  have e1 := cellS23_1 hI1
  have e2 := cellS23_2 hI1
  have f0 := blk_frozen hI1 0
  have f1 := blk_frozen hI1 1
  have f2 := blk_frozen hI1 2
  clear hI0 hI1
  refine start_ (n := 9) (S := fun w' => w'.cell? ⟨w.heap.size, 0, none⟩ = some (.int .i64 s) ∧ w'.cell? ⟨w.heap.size, 1, none⟩ = some (.int .i64 t) ∧ w'.cell? ⟨w.heap.size, 2, none⟩ = some (.int .i64 (wrap64 (a + 1))) ∧ w'.cell? ⟨w.heap.size + 1, 0, none⟩ = some (.int .i64 0) ∧ w'.cell? ⟨w.heap.size + 1, 1, none⟩ = some (.int .i64 0) ∧ w'.cell? ⟨w.heap.size + 1, 2, none⟩ = some (.int .i64 0) ∧ w'.frozen? ⟨w.heap.size + 1, 0, none⟩ = false ∧ w'.frozen? ⟨w.heap.size + 1, 1, none⟩ = false ∧ w'.frozen? ⟨w.heap.size + 1, 2, none⟩ = false) (ds := [7]) #[false, false, false, false, false, false, false, false, false] (by kernel_rfl) rfl rfl ⟨c0, c1, c2, e0, e1, e2, f0, f1, f2⟩ (fun hHeld => ?_)
  refine with_tabW F19Rtab5 F19Rbits5 (fun HT_ HW_ => ?_)
  refine pure_ (i := 0) (N := some 17) (v := ?_) (a' := ?_) #[true, false, false, false, false, false, false, false, false] rfl rfl (any_of HT_.out (by kernel_rfl)) (fun _ _ _ h => h) (Or.inl ⟨by rfl, ?_⟩) ?_ ?_
  rotate_left
  · intro w'
    go_simp
    with_reducible rfl
  rotate_left
  · simp only [Act.put, List.setIfInBounds_toArray, List.set_cons_zero, List.set_cons_succ, i64_w, i32_w]
    rfl
  refine pure_ (i := 1) (N := some 18) (v := ?_) (a' := ?_) #[true, true, false, false, false, false, false, false, false] rfl rfl (any_of HT_.out (by kernel_rfl)) (fun _ _ _ h => h) (Or.inl ⟨by rfl, ?_⟩) ?_ ?_
  rotate_left
  · intro w'
    go_simp
    with_reducible rfl
  rotate_left
  · simp only [Act.put, List.setIfInBounds_toArray, List.set_cons_zero, List.set_cons_succ, i64_w, i32_w]
    rfl
  refine pure_ (i := 2) (N := some 19) (v := ?_) (a' := ?_) #[true, true, true, false, false, false, false, false, false] rfl rfl (any_of HT_.out (by kernel_rfl)) (fun _ _ _ h => h) (Or.inl ⟨by rfl, ?_⟩) ?_ ?_
  rotate_left
  · intro w'
    go_simp
    with_reducible rfl
  rotate_left
  · simp only [Act.put, List.setIfInBounds_toArray, List.set_cons_zero, List.set_cons_succ, i64_w, i32_w]
    rfl
  refine pure_ (i := 3) (N := some 20) (v := ?_) (a' := ?_) #[true, true, true, true, false, false, false, false, false] rfl rfl (any_of HT_.out (by kernel_rfl)) (fun _ _ _ h => h) (Or.inl ⟨by rfl, ?_⟩) ?_ ?_
  rotate_left
  · intro w'
    go_simp
    with_reducible rfl
  rotate_left
  · simp only [Act.put, List.setIfInBounds_toArray, List.set_cons_zero, List.set_cons_succ, i64_w, i32_w]
    rfl
  refine take_ (i := 5) (N := some 22) (v := ?_) (a' := ?_) #[true, true, true, true, false, true, false, false, false] rfl rfl (take_ofW HT_.out HW_.out (by kernel_rfl)) (fun _ _ _ h => h) (Or.inl ⟨by rfl, ?_⟩) hHeld ?_ ?_
  rotate_left
  · rintro w' ⟨s0, s1, s2, s3, s4, s5, s6, s7, s8⟩
    go_simp
    with_reducible rfl
  rotate_left
  · simp only [Act.put, List.setIfInBounds_toArray, List.set_cons_zero, List.set_cons_succ, i64_w, i32_w]
    rfl
  refine one_ (i := 4) (N := some 21) #[true, true, true, true, true, true, false, false, false] rfl rfl (one_of HT_.out (by kernel_rfl)) (by decide) (fun K hK => ?_)
  refine goes_ Try.func38 (by kernel_rfl) rfl #[.float .f64 U] (by rfl) rfl rfl (by simp only [List.map_toArray, List.map_cons, List.map_nil]; rfl) ?_
  with_reducible refine (Of_calls U (by omega) _).mono ?_
  rintro e w5 ⟨rfl, hb⟩
  refine ⟨_, rfl, ?_⟩
  have G5 := Aside0.mk ((G3.out.drew).below hb)
  have G6 := Aside0.mk ((G4.out.drew).below hb)
  have HB5 := Aside0.mk (below_step (Below.drew HB3.out) hb)
  obtain ⟨hI5, _⟩ := G5.out
  obtain ⟨hI6, _⟩ := G6.out
  refine hK.out _ _ ⟨cellS23_0 hI5, cellS23_1 hI5, cellS23_2 hI5, cellS23_0 hI6, cellS23_1 hI6, cellS23_2 hI6, blk_frozen hI6 0, blk_frozen hI6 1, blk_frozen hI6 2⟩ (fun hHeld => ?_)
  clear hK K
  refine norm_ (a' := ?_) ?_ ?_
  rotate_left
  · show Act.put _ (some 21) _ = _
    simp only [Act.put, List.setIfInBounds_toArray, List.set_cons_zero, List.set_cons_succ, i64_w, i32_w]
    rfl
  refine pure_ (i := 6) (N := some 4) (v := ?_) (a' := ?_) #[true, true, true, true, true, true, true, false, false] rfl rfl (any_of HT_.out (by kernel_rfl)) (fun _ _ _ h => h) (Or.inl ⟨by rfl, ?_⟩) ?_ ?_
  rotate_left
  · intro w'
    go_simp
    with_reducible rfl
  rotate_left
  · simp only [Act.put, List.setIfInBounds_toArray, List.set_cons_zero, List.set_cons_succ, i64_w, i32_w]
    rfl
  refine last_ (i := 7) (N := none) #[true, true, true, true, true, true, true, true, false] rfl rfl (one_of HT_.out (by kernel_rfl)) (by decide) (fun K hK => ?_)
  refine skip_ (w1 := ?_) (by rfl) rfl ?_ ?_
  rotate_left
  · go_simp
    rfl
  refine hK.out _ _ ?_
  clear hK K
  refine pure_ (i := 8) (N := some 6) (v := ?_) (a' := ?_) #[true, true, true, true, true, true, true, true, true] rfl rfl (any_of HT_.out (by kernel_rfl)) (fun _ _ _ h => h) (Or.inl ⟨by rfl, ?_⟩) ?_ ?_
  rotate_left
  · intro w'
    go_simp
    with_reducible rfl
  rotate_left
  · simp only [Act.put, List.setIfInBounds_toArray, List.set_cons_zero, List.set_cons_succ, i64_w, i32_w]
    rfl
  refine done_ (done_of HT_.out (by kernel_rfl)) ?_
  have k0 := cellS23_0 hI6
  have k1 := cellS23_1 hI6
  have k2 := cellS23_2 hI6
  go_wp2
  refine bodyPost_ret (v := .tuple #[.int .i64 (U : Int), .agg #[.int .i64 s, .int .i64 t, .int .i64 (wrap64 (a + 1))], .int .i64 0]) (by simp [results, Try.results19, go_sem, k0, k1, k2]) rfl ?_
  exact ⟨rfl, below_set (below_set (below_set HB5.out (by omega)) (by omega)) (by omega)⟩

def F19RT7 : Bool × List (List Nat × List Nat) := (true, [([], []), ([0], [0]), ([1], [1]), ([2], [2]), ([3], [3]), ([], []), ([4, 4, 0, 1, 2, 3, 4], [4]), ([5, 6, 0, 1, 2, 3, 4, 5, 6], [5]), ([7, 0, 1, 2, 3, 4, 5, 6, 7], [])])
def F19RB7 : List Nat := [0, 1, 3, 7, 15, 0, 31, 127, 255]
theorem F19Rtab7 : rtab .any (opsOf Try.f19 7) = F19RT7 := by kernel_rfl
theorem F19Rbits7 : waitsOk F19RT7.2 F19RB7 = true := by kernel_rfl
set_option maxHeartbeats 1000000 in
set_option maxRecDepth 100000 in
theorem Uniform32_calls (s t a : Int) (w : World) :
    Calls Try.prog 19 #[.agg #[.int .i64 s, .int .i64 t, .int .i64 a], .int .i64 32] w fun e w' => e = .returned (.tuple #[.int .i64 ((uni32 (wordP s t (uw a + 1) / 1099511627776) : Nat) : Int), .agg #[.int .i64 s, .int .i64 t, .int .i64 (wrap64 (a + 1))], .int .i64 0]) ∧ Below w.heap.size w w' := by
  obtain ⟨W, hW⟩ : ∃ W, W = wordP s t (uw a + 1) := ⟨_, rfl⟩
  have hWl : W < 18446744073709551616 := by rw [hW]; exact wordP_lt _ _ _
  rw [← hW]
  have HW : Aside0 (rng_word.f s t a 0 = some (W : Int)) := ⟨by rw [rng_word_eq, hW, uw_zero]⟩
  clear hW
  obtain ⟨M, hM⟩ : ∃ M, M = W / 1099511627776 := ⟨_, rfl⟩
  rw [← hM]
  have hMl : M < 16777216 := by omega
  have hsh : (W : Int) / 1099511627776 = (M : Int) := by omega
  have hmul : floatBits .mul .f32 (floatOfInt .f32 (M : Int)) 864026624 = some (uni32 M) := by
    have h1 : ¬ ((M : Int) < 0) := by omega
    have h2 : floatOfInt .f32 (M : Int) = Ieee.single.nearest false M 0 := by
      unfold floatOfInt FloatKind.nearest FloatKind.encode
      rw [show decide ((M : Int) < 0) = false from decide_eq_false h1]; rfl
    show Ieee.single.mul _ _ = _
    rw [h2]; exact mul24 hMl
  have hrun : ∀ w : World, (binOp .mul 65 (.float .f32 (floatOfInt .f32 (M : Int))) (.float .f32 864026624)).run Try.prog w = .ok (.float .f32 (uni32 M)) w := fun w => run_float_arith w .mul 65 .f32 _ _ _ hmul
  obtain ⟨U, hU⟩ : ∃ U, U = uni32 M := ⟨_, rfl⟩
  have hUl := uni32_lt hMl
  rw [← hU] at hrun hUl ⊢
  clear hU hmul hM hMl hWl
  go_enter Try.func19, Try.ntmps19
  go_wp2_with fail
  refine (rng_word.calls s t a 0 (W : Int) _ HW.out).mono ?_
  rintro e w2 ⟨rfl, hb⟩
  have G1 := Aside0.mk (((IsS23.new w w s t a (Below.refl _ _)).alloc (.cells #[.int .i64 0, .int .i64 0, .int .i64 0] 23)).below hb)
  have G2 : Aside0 (IsS23 w w2 (w.heap.size + 1) 0 0 0) := ⟨by have h := IsS23.new w (w.alloc (Obj.cells #[Value.int IntKind.i64 s, Value.int IntKind.i64 t, Value.int IntKind.i64 a] 23)) 0 0 0 ((Below.refl _ _).alloc (Nat.le_refl _) _); simp only [World.size_alloc] at h; exact h.below hb⟩
  have HB := Aside0.mk (below_step (((Below.refl _ _).alloc (Nat.le_refl _) _).alloc (by simp) _) hb)
  clear hb
  obtain ⟨hI0, _⟩ := G1.out
  have c0 := cellS23_0 hI0
  have c1 := cellS23_1 hI0
  have c2 := cellS23_2 hI0
  have f2 := blk_frozen hI0 2
  obtain ⟨hI1, _⟩ := G2.out
  have e0 := cellS23_0 hI1
  have e1 := cellS23_1 hI1
  have e2 := cellS23_2 hI1
  clear hI0 hI1
  go_wp2
  have G3 := Aside0.mk (G1.out.set_2 (wrap64 (a + 1)))
  have G4 := Aside0.mk (G2.out.far (p := ⟨w.heap.size, 2, none⟩) (Nat.succ_ne_self _) (.int .i64 (wrap64 (a + 1))))
  have HB3 : Aside0 (Below w.heap.size w (w2.setCell ⟨w.heap.size, 2, none⟩ (.int .i64 (wrap64 (a + 1))))) := ⟨below_set HB.out (Nat.le_refl _)⟩
  generalize w2.setCell ⟨w.heap.size, 2, none⟩ (.int .i64 (wrap64 (a + 1))) = w3 at G3 G4 HB3 ⊢
  clear c0 c1 c2 f2 e0 e1 e2 G1 G2 HB
  obtain ⟨hI0, _⟩ := G3.out
  have c0 := cellS23_0 hI0
  have c1 := cellS23_1 hI0
  have c2 := cellS23_2 hI0
  obtain ⟨hI1, _⟩ := G4.out
  have e0 := cellS23_0 hI1
  have e1 := cellS23_1 hI1
  have e2 := cellS23_2 hI1
  have f0 := blk_frozen hI1 0
  have f1 := blk_frozen hI1 1
  have f2 := blk_frozen hI1 2
  clear hI0 hI1
  refine start_ (n := 9) (S := fun w' => w'.cell? ⟨w.heap.size, 0, none⟩ = some (.int .i64 s) ∧ w'.cell? ⟨w.heap.size, 1, none⟩ = some (.int .i64 t) ∧ w'.cell? ⟨w.heap.size, 2, none⟩ = some (.int .i64 (wrap64 (a + 1))) ∧ w'.cell? ⟨w.heap.size + 1, 0, none⟩ = some (.int .i64 0) ∧ w'.cell? ⟨w.heap.size + 1, 1, none⟩ = some (.int .i64 0) ∧ w'.cell? ⟨w.heap.size + 1, 2, none⟩ = some (.int .i64 0) ∧ w'.frozen? ⟨w.heap.size + 1, 0, none⟩ = false ∧ w'.frozen? ⟨w.heap.size + 1, 1, none⟩ = false ∧ w'.frozen? ⟨w.heap.size + 1, 2, none⟩ = false) (ds := [7]) #[false, false, false, false, false, false, false, false, false] (by kernel_rfl) rfl rfl ⟨c0, c1, c2, e0, e1, e2, f0, f1, f2⟩ (fun hHeld => ?_)
  refine with_tabW F19Rtab7 F19Rbits7 (fun HT_ HW_ => ?_)
  refine pure_ (i := 0) (N := some 25) (v := ?_) (a' := ?_) #[true, false, false, false, false, false, false, false, false] rfl rfl (any_of HT_.out (by kernel_rfl)) (fun _ _ _ h => h) (Or.inl ⟨by rfl, ?_⟩) ?_ ?_
  rotate_left
  · intro w'
    go_simp
    with_reducible rfl
  rotate_left
  · simp only [Act.put, List.setIfInBounds_toArray, List.set_cons_zero, List.set_cons_succ, i64_w, i32_w]
    rfl
  refine pure_ (i := 1) (N := some 26) (v := ?_) (a' := ?_) #[true, true, false, false, false, false, false, false, false] rfl rfl (any_of HT_.out (by kernel_rfl)) (fun _ _ _ h => h) (Or.inl ⟨by rfl, ?_⟩) ?_ ?_
  rotate_left
  · intro w'
    go_simp
    with_reducible rfl
  rotate_left
  · simp only [Act.put, List.setIfInBounds_toArray, List.set_cons_zero, List.set_cons_succ, i64_w, i32_w]
    rfl
  refine pure_ (i := 2) (N := some 27) (v := ?_) (a' := ?_) #[true, true, true, false, false, false, false, false, false] rfl rfl (any_of HT_.out (by kernel_rfl)) (fun _ _ _ h => h) (Or.inl ⟨by rfl, ?_⟩) ?_ ?_
  rotate_left
  · intro w'
    go_simp
    with_reducible rfl
  rotate_left
  · simp only [Act.put, List.setIfInBounds_toArray, List.set_cons_zero, List.set_cons_succ, i64_w, i32_w]
    rfl
  refine pure_ (i := 3) (N := some 28) (v := ?_) (a' := ?_) #[true, true, true, true, false, false, false, false, false] rfl rfl (any_of HT_.out (by kernel_rfl)) (fun _ _ _ h => h) (Or.inl ⟨by rfl, ?_⟩) ?_ ?_
  rotate_left
  · intro w'
    go_simp
    with_reducible rfl
  rotate_left
  · simp only [Act.put, List.setIfInBounds_toArray, List.set_cons_zero, List.set_cons_succ, i64_w, i32_w]
    rfl
  refine take_ (i := 5) (N := some 30) (v := ?_) (a' := ?_) #[true, true, true, true, false, true, false, false, false] rfl rfl (take_ofW HT_.out HW_.out (by kernel_rfl)) (fun _ _ _ h => h) (Or.inl ⟨by rfl, ?_⟩) hHeld ?_ ?_
  rotate_left
  · rintro w' ⟨s0, s1, s2, s3, s4, s5, s6, s7, s8⟩
    go_simp
    with_reducible rfl
  rotate_left
  · simp only [Act.put, List.setIfInBounds_toArray, List.set_cons_zero, List.set_cons_succ, i64_w, i32_w]
    rfl
  refine one_ (i := 4) (N := some 29) #[true, true, true, true, true, true, false, false, false] rfl rfl (one_of HT_.out (by kernel_rfl)) (by decide) (fun K hK => ?_)
  refine goes_ Try.func39 (by kernel_rfl) rfl #[.float .f32 U] (by rfl) rfl rfl (by simp only [List.map_toArray, List.map_cons, List.map_nil]; rfl) ?_
  with_reducible refine (Of32_calls U (by omega) _).mono ?_
  rintro e w5 ⟨rfl, hb⟩
  refine ⟨_, rfl, ?_⟩
  have G5 := Aside0.mk ((G3.out.drew).below hb)
  have G6 := Aside0.mk ((G4.out.drew).below hb)
  have HB5 := Aside0.mk (below_step (Below.drew HB3.out) hb)
  obtain ⟨hI5, _⟩ := G5.out
  obtain ⟨hI6, _⟩ := G6.out
  refine hK.out _ _ ⟨cellS23_0 hI5, cellS23_1 hI5, cellS23_2 hI5, cellS23_0 hI6, cellS23_1 hI6, cellS23_2 hI6, blk_frozen hI6 0, blk_frozen hI6 1, blk_frozen hI6 2⟩ (fun hHeld => ?_)
  clear hK K
  refine norm_ (a' := ?_) ?_ ?_
  rotate_left
  · show Act.put _ (some 29) _ = _
    simp only [Act.put, List.setIfInBounds_toArray, List.set_cons_zero, List.set_cons_succ, i64_w, i32_w]
    rfl
  refine pure_ (i := 6) (N := some 4) (v := ?_) (a' := ?_) #[true, true, true, true, true, true, true, false, false] rfl rfl (any_of HT_.out (by kernel_rfl)) (fun _ _ _ h => h) (Or.inl ⟨by rfl, ?_⟩) ?_ ?_
  rotate_left
  · intro w'
    go_simp
    with_reducible rfl
  rotate_left
  · simp only [Act.put, List.setIfInBounds_toArray, List.set_cons_zero, List.set_cons_succ, i64_w, i32_w]
    rfl
  refine last_ (i := 7) (N := none) #[true, true, true, true, true, true, true, true, false] rfl rfl (one_of HT_.out (by kernel_rfl)) (by decide) (fun K hK => ?_)
  refine skip_ (w1 := ?_) (by rfl) rfl ?_ ?_
  rotate_left
  · go_simp
    rfl
  refine hK.out _ _ ?_
  clear hK K
  refine pure_ (i := 8) (N := some 6) (v := ?_) (a' := ?_) #[true, true, true, true, true, true, true, true, true] rfl rfl (any_of HT_.out (by kernel_rfl)) (fun _ _ _ h => h) (Or.inl ⟨by rfl, ?_⟩) ?_ ?_
  rotate_left
  · intro w'
    go_simp
    with_reducible rfl
  rotate_left
  · simp only [Act.put, List.setIfInBounds_toArray, List.set_cons_zero, List.set_cons_succ, i64_w, i32_w]
    rfl
  refine done_ (done_of HT_.out (by kernel_rfl)) ?_
  have k0 := cellS23_0 hI6
  have k1 := cellS23_1 hI6
  have k2 := cellS23_2 hI6
  go_wp2
  refine bodyPost_ret (v := .tuple #[.int .i64 (U : Int), .agg #[.int .i64 s, .int .i64 t, .int .i64 (wrap64 (a + 1))], .int .i64 0]) (by simp [results, Try.results19, go_sem, k0, k1, k2]) rfl ?_
  exact ⟨rfl, below_set (below_set (below_set HB5.out (by omega)) (by omega)) (by omega)⟩

set_option maxHeartbeats 1000000 in
set_option maxRecDepth 100000 in
theorem Uniform_no (s t a x : Int) (w : World) (h1 : x ≠ 64) (h2 : x ≠ 32) :
    Calls Try.prog 19 #[.agg #[.int .i64 s, .int .i64 t, .int .i64 a], .int .i64 x] w fun e w' => e = .returned (.tuple #[.int .i64 0, .agg #[.int .i64 0, .int .i64 0, .int .i64 0], .int .i64 3]) ∧ Below w.heap.size w w' := by
  have d1 : (x == 64) = false := by simp [h1]
  have d2 : (x == 32) = false := by simp [h2]
  clear h1 h2
  obtain ⟨W, hW⟩ : ∃ W, W = wordP s t (uw a + 1) := ⟨_, rfl⟩
  have HW : Aside0 (rng_word.f s t a 0 = some (W : Int)) := ⟨by rw [rng_word_eq, hW, uw_zero]⟩
  clear hW
  go_enter Try.func19, Try.ntmps19
  go_wp2_with fail
  refine (rng_word.calls s t a 0 (W : Int) _ HW.out).mono ?_
  rintro e w2 ⟨rfl, hb⟩
  have G1 := Aside0.mk (((IsS23.new w w s t a (Below.refl _ _)).alloc (.cells #[.int .i64 0, .int .i64 0, .int .i64 0] 23)).below hb)
  have G2 : Aside0 (IsS23 w w2 (w.heap.size + 1) 0 0 0) := ⟨by have h := IsS23.new w (w.alloc (Obj.cells #[Value.int IntKind.i64 s, Value.int IntKind.i64 t, Value.int IntKind.i64 a] 23)) 0 0 0 ((Below.refl _ _).alloc (Nat.le_refl _) _); simp only [World.size_alloc] at h; exact h.below hb⟩
  have HB := Aside0.mk (below_step (((Below.refl _ _).alloc (Nat.le_refl _) _).alloc (by simp) _) hb)
  clear hb
  obtain ⟨hI0, _⟩ := G1.out
  have c0 := cellS23_0 hI0
  have c1 := cellS23_1 hI0
  have c2 := cellS23_2 hI0
  have f2 := blk_frozen hI0 2
  obtain ⟨hI1, _⟩ := G2.out
  have e0 := cellS23_0 hI1
  have e1 := cellS23_1 hI1
  have e2 := cellS23_2 hI1
  have g0 := blk_frozen hI1 0
  have g1 := blk_frozen hI1 1
  have g2 := blk_frozen hI1 2
  clear hI0 hI1
  go_wp2
  refine bodyPost_ret (v := .tuple #[.int .i64 0, .agg #[.int .i64 0, .int .i64 0, .int .i64 0], .int .i64 3]) (by simp [results, Try.results19, go_sem, e0, e1, e2]) rfl ?_
  exact ⟨rfl, below_set (below_set (below_set (below_set HB.out (by omega)) (by omega)) (by omega)) (by omega)⟩

end Go.Proofs.Ytpobladocccnmaa
