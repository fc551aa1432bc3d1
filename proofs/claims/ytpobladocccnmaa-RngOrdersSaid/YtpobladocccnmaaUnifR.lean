/- The walk of pupilref6.Uniform. -/
import Derived.Test.YtpobladocccnmaaJoinN
import Derived.Test.YtpobladocccnmaaAlive
import Derived.Outline
namespace Go.Proofs.Ytpobladocccnmaa
open Go.RowKit Mix PBase UnifN PJoin
open Go.Proofs.YtpobladocccnmaaW.PrintWords Go.Proofs.YtpobladocccnmaaW.PrintLast Go.Proofs.YtpobladocccnmaaW.PrintMore
set_option linter.unusedVariables false
set_option linter.unusedSimpArgs false

set_option maxHeartbeats 1000000 in
set_option maxRecDepth 100000 in
theorem refUniform64_calls (s t a : Int) (w : World) :
    Calls Try.prog 37 #[.agg #[.int .i64 s, .int .i64 t, .int .i64 a], .int .i64 64] w fun e w' => e = .returned (.tuple #[.int .i64 ((uni64 (wordP s t (uw a + 1) / 2048) : Nat) : Int), .agg #[.int .i64 s, .int .i64 t, .int .i64 (wrap64 (a + 1))]]) ∧ Below w.heap.size w w' := by
  obtain ⟨W, hW⟩ : ∃ W, W = wordP s t (uw a + 1) := ⟨_, rfl⟩
  have hWl : W < 18446744073709551616 := by rw [hW]; exact wordP_lt _ _ _
  have HW : Aside0 (pupilref6_Next.f s t a = some (wrap64 (W : Int), s, t, wrap64 (a + 1))) := ⟨by rw [refNext_eq, hW]⟩
  rw [← hW]
  clear hW
  have hwv := wrap_back W hWl
  have hs1 : wrap64 ((W : Int) / 2048) = ((W / 2048 : Nat) : Int) := by unfold wrap64; omega
  have hs2 : wrap64 ((W : Int) / 1099511627776) = ((W / 1099511627776 : Nat) : Int) := by unfold wrap64; omega
  obtain ⟨M, hM⟩ : ∃ M, M = W / 2048 := ⟨_, rfl⟩
  obtain ⟨M2, hM2⟩ : ∃ M2, M2 = W / 1099511627776 := ⟨_, rfl⟩
  have hMl : M < 9007199254740992 := by omega
  rw [← hM] at hs1 ⊢
  rw [← hM2] at hs2
  have HJ := Aside0.mk (Join64 hMl)
  generalize uni64 M = U at HJ ⊢
  clear hM hM2 hMl hWl
  go_enter Try.func37, Try.ntmps37
  go_wp2_with fail
  refine (pupilref6_Next.calls s t a _ _ _ _ _ HW.out).mono ?_
  rintro e w2 ⟨rfl, hb⟩
  have G1 := Aside0.mk (((IsS23.new w w s t a (Below.refl _ _)).alloc (.cells #[.int .i64 0, .int .i64 0, .int .i64 0] 23)).below hb)
  have G2 : Aside0 (IsS23 w w2 (w.heap.size + 1) 0 0 0) := ⟨by have h := IsS23.new w (w.alloc (Obj.cells #[Value.int IntKind.i64 s, Value.int IntKind.i64 t, Value.int IntKind.i64 a] 23)) 0 0 0 ((Below.refl _ _).alloc (Nat.le_refl _) _); simp only [World.size_alloc] at h; exact h.below hb⟩
  have HB := Aside0.mk (below_step (((Below.refl _ _).alloc (Nat.le_refl _) _).alloc (by simp) _) hb)
  clear hb
  obtain ⟨hI0, _⟩ := G1.out
  have c0 := cellS23_0 hI0
  have c1 := cellS23_1 hI0
  have c2 := cellS23_2 hI0
  have f0 := blk_frozen hI0 0
  have f1 := blk_frozen hI0 1
  have f2 := blk_frozen hI0 2
  clear hI0
  go_wp2_with fail
  refine (pupilref1_Join.calls 300 false (M : Int) (-53) 64 _ _ _ HJ.out).mono ?_
  rintro e w4 ⟨rfl, hb⟩
  have G3 := Aside0.mk ((((G1.out.set_0 s).set_1 t).set_2 (wrap64 (a + 1))).below hb)
  have G4 := Aside0.mk ((((G2.out.far (p := ⟨w.heap.size, 0, none⟩) (Nat.succ_ne_self _) (.int .i64 s)).far (p := ⟨w.heap.size, 1, none⟩) (Nat.succ_ne_self _) (.int .i64 t)).far (p := ⟨w.heap.size, 2, none⟩) (Nat.succ_ne_self _) (.int .i64 (wrap64 (a + 1)))).below hb)
  have HB4 := Aside0.mk (below_step (below_set (below_set (below_set HB.out (Nat.le_refl _)) (Nat.le_refl _)) (Nat.le_refl _)) hb)
  clear hb c0 c1 c2 f0 f1 f2 G1 G2 HB
  obtain ⟨hI0, _⟩ := G3.out
  have c0 := cellS23_0 hI0
  have c1 := cellS23_1 hI0
  have c2 := cellS23_2 hI0
  obtain ⟨hI1, _⟩ := G4.out
  have e0 := cellS23_0 hI1
  have e1 := cellS23_1 hI1
  have e2 := cellS23_2 hI1
  have f0 := blk_frozen hI1 0
  have f1 := blk_frozen hI1 1
  have f2 := blk_frozen hI1 2
  clear hI0 hI1
  go_wp2
  refine start_ (n := 4) (S := fun w' => w'.cell? ⟨w.heap.size, 0, none⟩ = some (.int .i64 s) ∧ w'.cell? ⟨w.heap.size, 1, none⟩ = some (.int .i64 t) ∧ w'.cell? ⟨w.heap.size, 2, none⟩ = some (.int .i64 (wrap64 (a + 1)))) (ds := [3]) #[false, false, false, false] (by kernel_rfl) rfl rfl ⟨c0, c1, c2⟩ (fun hHeld => ?_)
  refine pure_ (i := 0) (N := some 33) (v := ?_) (a' := ?_) #[true, false, false, false] rfl rfl (by kernel_rfl) (fun _ _ _ h => h) (Or.inl ⟨by rfl, ?_⟩) ?_ ?_
  rotate_left
  · intro w'
    go_simp
    with_reducible rfl
  rotate_left
  · simp only [Act.put, List.setIfInBounds_toArray, List.set_cons_zero, List.set_cons_succ, i64_w, i32_w]
    rfl
  refine pure_ (i := 2) (N := some 4) (v := ?_) (a' := ?_) #[true, false, true, false] rfl rfl (by kernel_rfl) (fun _ _ _ h => h) (Or.inl ⟨by rfl, ?_⟩) ?_ ?_
  rotate_left
  · intro w'
    go_simp
    with_reducible rfl
  rotate_left
  · simp only [Act.put, List.setIfInBounds_toArray, List.set_cons_zero, List.set_cons_succ, i64_w, i32_w]
    rfl
  refine take_ (i := 1) (N := some 34) (v := ?_) (a' := ?_) #[true, true, true, false] rfl rfl (by kernel_rfl) (fun _ _ _ h => h) (Or.inl ⟨by rfl, ?_⟩) hHeld ?_ ?_
  rotate_left
  · rintro w' ⟨s0, s1, s2⟩
    go_simp
    with_reducible rfl
  rotate_left
  · simp only [Act.put, List.setIfInBounds_toArray, List.set_cons_zero, List.set_cons_succ, i64_w, i32_w]
    rfl
  refine last_ (i := 3) (N := none) #[true, true, true, true] rfl rfl (by kernel_rfl) (by decide) (fun K hK => ?_)
  refine skip_ (w1 := ?_) (by rfl) rfl ?_ ?_
  rotate_left
  · go_simp
    rfl
  refine hK.out _ _ ?_
  clear hK K
  refine done_ (by kernel_rfl) ?_
  go_wp2
  refine bodyPost_ret (v := .tuple #[.int .i64 (U : Int), .agg #[.int .i64 s, .int .i64 t, .int .i64 (wrap64 (a + 1))]]) (by simp [results, Try.results37, go_sem, e0, e1, e2]) rfl ?_
  exact ⟨rfl, Below.drew (below_set (below_set (below_set HB4.out (by omega)) (by omega)) (by omega))⟩

set_option maxHeartbeats 1000000 in
set_option maxRecDepth 100000 in
theorem refUniform32_calls (s t a : Int) (w : World) :
    Calls Try.prog 37 #[.agg #[.int .i64 s, .int .i64 t, .int .i64 a], .int .i64 32] w fun e w' => e = .returned (.tuple #[.int .i64 ((uni32 (wordP s t (uw a + 1) / 1099511627776) : Nat) : Int), .agg #[.int .i64 s, .int .i64 t, .int .i64 (wrap64 (a + 1))]]) ∧ Below w.heap.size w w' := by
  obtain ⟨W, hW⟩ : ∃ W, W = wordP s t (uw a + 1) := ⟨_, rfl⟩
  have hWl : W < 18446744073709551616 := by rw [hW]; exact wordP_lt _ _ _
  have HW : Aside0 (pupilref6_Next.f s t a = some (wrap64 (W : Int), s, t, wrap64 (a + 1))) := ⟨by rw [refNext_eq, hW]⟩
  rw [← hW]
  clear hW
  have hwv := wrap_back W hWl
  have hs1 : wrap64 ((W : Int) / 2048) = ((W / 2048 : Nat) : Int) := by unfold wrap64; omega
  have hs2 : wrap64 ((W : Int) / 1099511627776) = ((W / 1099511627776 : Nat) : Int) := by unfold wrap64; omega
  obtain ⟨M, hM⟩ : ∃ M, M = W / 2048 := ⟨_, rfl⟩
  obtain ⟨M2, hM2⟩ : ∃ M2, M2 = W / 1099511627776 := ⟨_, rfl⟩
  have hMl : M2 < 16777216 := by omega
  rw [← hM] at hs1
  rw [← hM2] at hs2 ⊢
  have HJ := Aside0.mk (Join32 hMl)
  generalize uni32 M2 = U at HJ ⊢
  clear hM hM2 hMl hWl
  go_enter Try.func37, Try.ntmps37
  go_wp2_with fail
  refine (pupilref6_Next.calls s t a _ _ _ _ _ HW.out).mono ?_
  rintro e w2 ⟨rfl, hb⟩
  have G1 := Aside0.mk (((IsS23.new w w s t a (Below.refl _ _)).alloc (.cells #[.int .i64 0, .int .i64 0, .int .i64 0] 23)).below hb)
  have G2 : Aside0 (IsS23 w w2 (w.heap.size + 1) 0 0 0) := ⟨by have h := IsS23.new w (w.alloc (Obj.cells #[Value.int IntKind.i64 s, Value.int IntKind.i64 t, Value.int IntKind.i64 a] 23)) 0 0 0 ((Below.refl _ _).alloc (Nat.le_refl _) _); simp only [World.size_alloc] at h; exact h.below hb⟩
  have HB := Aside0.mk (below_step (((Below.refl _ _).alloc (Nat.le_refl _) _).alloc (by simp) _) hb)
  clear hb
  obtain ⟨hI0, _⟩ := G1.out
  have c0 := cellS23_0 hI0
  have c1 := cellS23_1 hI0
  have c2 := cellS23_2 hI0
  have f0 := blk_frozen hI0 0
  have f1 := blk_frozen hI0 1
  have f2 := blk_frozen hI0 2
  clear hI0
  go_wp2_with fail
  refine (pupilref1_Join.calls 300 false (M2 : Int) (-24) 32 _ _ _ HJ.out).mono ?_
  rintro e w4 ⟨rfl, hb⟩
  have G3 := Aside0.mk ((((G1.out.set_0 s).set_1 t).set_2 (wrap64 (a + 1))).below hb)
  have G4 := Aside0.mk ((((G2.out.far (p := ⟨w.heap.size, 0, none⟩) (Nat.succ_ne_self _) (.int .i64 s)).far (p := ⟨w.heap.size, 1, none⟩) (Nat.succ_ne_self _) (.int .i64 t)).far (p := ⟨w.heap.size, 2, none⟩) (Nat.succ_ne_self _) (.int .i64 (wrap64 (a + 1)))).below hb)
  have HB4 := Aside0.mk (below_step (below_set (below_set (below_set HB.out (Nat.le_refl _)) (Nat.le_refl _)) (Nat.le_refl _)) hb)
  clear hb c0 c1 c2 f0 f1 f2 G1 G2 HB
  obtain ⟨hI0, _⟩ := G3.out
  have c0 := cellS23_0 hI0
  have c1 := cellS23_1 hI0
  have c2 := cellS23_2 hI0
  obtain ⟨hI1, _⟩ := G4.out
  have e0 := cellS23_0 hI1
  have e1 := cellS23_1 hI1
  have e2 := cellS23_2 hI1
  have f0 := blk_frozen hI1 0
  have f1 := blk_frozen hI1 1
  have f2 := blk_frozen hI1 2
  clear hI0 hI1
  go_wp2
  refine start_ (n := 4) (S := fun w' => w'.cell? ⟨w.heap.size, 0, none⟩ = some (.int .i64 s) ∧ w'.cell? ⟨w.heap.size, 1, none⟩ = some (.int .i64 t) ∧ w'.cell? ⟨w.heap.size, 2, none⟩ = some (.int .i64 (wrap64 (a + 1)))) (ds := [3]) #[false, false, false, false] (by kernel_rfl) rfl rfl ⟨c0, c1, c2⟩ (fun hHeld => ?_)
  refine pure_ (i := 0) (N := some 33) (v := ?_) (a' := ?_) #[true, false, false, false] rfl rfl (by kernel_rfl) (fun _ _ _ h => h) (Or.inl ⟨by rfl, ?_⟩) ?_ ?_
  rotate_left
  · intro w'
    go_simp
    with_reducible rfl
  rotate_left
  · simp only [Act.put, List.setIfInBounds_toArray, List.set_cons_zero, List.set_cons_succ, i64_w, i32_w]
    rfl
  refine pure_ (i := 2) (N := some 4) (v := ?_) (a' := ?_) #[true, false, true, false] rfl rfl (by kernel_rfl) (fun _ _ _ h => h) (Or.inl ⟨by rfl, ?_⟩) ?_ ?_
  rotate_left
  · intro w'
    go_simp
    with_reducible rfl
  rotate_left
  · simp only [Act.put, List.setIfInBounds_toArray, List.set_cons_zero, List.set_cons_succ, i64_w, i32_w]
    rfl
  refine take_ (i := 1) (N := some 34) (v := ?_) (a' := ?_) #[true, true, true, false] rfl rfl (by kernel_rfl) (fun _ _ _ h => h) (Or.inl ⟨by rfl, ?_⟩) hHeld ?_ ?_
  rotate_left
  · rintro w' ⟨s0, s1, s2⟩
    go_simp
    with_reducible rfl
  rotate_left
  · simp only [Act.put, List.setIfInBounds_toArray, List.set_cons_zero, List.set_cons_succ, i64_w, i32_w]
    rfl
  refine last_ (i := 3) (N := none) #[true, true, true, true] rfl rfl (by kernel_rfl) (by decide) (fun K hK => ?_)
  refine skip_ (w1 := ?_) (by rfl) rfl ?_ ?_
  rotate_left
  · go_simp
    rfl
  refine hK.out _ _ ?_
  clear hK K
  refine done_ (by kernel_rfl) ?_
  go_wp2
  refine bodyPost_ret (v := .tuple #[.int .i64 (U : Int), .agg #[.int .i64 s, .int .i64 t, .int .i64 (wrap64 (a + 1))]]) (by simp [results, Try.results37, go_sem, e0, e1, e2]) rfl ?_
  exact ⟨rfl, Below.drew (below_set (below_set (below_set HB4.out (by omega)) (by omega)) (by omega))⟩

end Go.Proofs.Ytpobladocccnmaa
