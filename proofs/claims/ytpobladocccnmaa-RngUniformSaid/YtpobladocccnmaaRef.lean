/- The walks of the document's Next, Below and Shuffle: what they come to in the plain numbers of Draw. -/
import Derived.Test.YtpobladocccnmaaShuf2
import Derived.Outline
namespace Go.Proofs.Ytpobladocccnmaa
open Go.RowKit Mix PBase
open Go.Proofs.YtpobladocccnmaaW.PrintWords Go.Proofs.YtpobladocccnmaaW.PrintLast Go.Proofs.YtpobladocccnmaaW.PrintMore
set_option linter.unusedVariables false
set_option linter.unusedSimpArgs false

theorem wrap_next (a : Int) : wrap64 (IntKind.u64.wrap (((uw a : Nat) : Int) + 1)) = wrap64 (a + 1) := by
  rw [IntKind.wrap_u64]; unfold wrap64 uw; omega

theorem refNext_eq (s t a : Int) : pupilref6_Next.f s t a = some (wrap64 ((wordP s t (uw a + 1) : Nat) : Int), s, t, wrap64 (a + 1)) := by
  unfold pupilref6_Next.f
  rw [ref_Word_eq, Option.bind_some, wrap_uw a, wrap_next, uw_zero]

theorem refNext_calls (s t a : Int) (w : World) :
    Calls Try.prog 34 #[.agg #[.int .i64 s, .int .i64 t, .int .i64 a]] w fun e w' => e = .returned (.tuple #[.int .i64 (wrap64 ((wordP s t (uw a + 1) : Nat) : Int)), .agg #[.int .i64 s, .int .i64 t, .int .i64 (wrap64 (a + 1))]]) ∧ Below w.heap.size w w' :=
  pupilref6_Next.calls s t a _ _ _ _ w (refNext_eq s t a)

theorem rest_eq {n : Nat} (hn : 0 < n) (hn2 : n ≤ 9223372036854775807) : (IntKind.u64.wrap ((9223372036854775808 : Int) % (n : Int) + (9223372036854775808 : Int) % (n : Int))).tmod (n : Int) = ((over n : Nat) : Int) := by
  have h1 : (9223372036854775808 : Int) % (n : Int) = ((9223372036854775808 % n : Nat) : Int) := by rw [Int.natCast_emod]; rfl
  have h2 : 9223372036854775808 % n < n := Nat.mod_lt _ hn
  have h3 : IntKind.u64.wrap (((9223372036854775808 % n : Nat) : Int) + ((9223372036854775808 % n : Nat) : Int)) = ((9223372036854775808 % n + 9223372036854775808 % n : Nat) : Int) := by rw [IntKind.wrap_u64]; omega
  rw [h1, h3, Int.tmod_eq_emod_of_nonneg (by omega), ← Int.natCast_emod]
  congr 1
  unfold over
  rw [← Nat.add_mod]
  have h4 : 18446744073709551616 - n + n = 9223372036854775808 + 9223372036854775808 := by omega
  rw [← h4, Nat.add_mod_right]

theorem wrap_back (W : Nat) (h : W < 18446744073709551616) : IntKind.u64.wrap (wrap64 (W : Int)) = (W : Int) := by
  rw [IntKind.wrap_u64]; unfold wrap64; omega

theorem fin_v (W : Nat) {n : Nat} (hn : 0 < n) (hn2 : n ≤ 9223372036854775807) : wrap64 ((W : Int).tmod (n : Int)) = ((W % n : Nat) : Int) := by
  have h : W % n < n := Nat.mod_lt _ hn
  rw [Int.tmod_eq_emod_of_nonneg (by omega), ← Int.natCast_emod, wrap64_id (by omega)]

theorem neg_u64 {ov : Nat} (h : ov ≠ 0) (h2 : ov ≤ 9223372036854775807) : IntKind.u64.wrap (-(ov : Int)) = ((18446744073709551616 - ov : Nat) : Int) := by
  rw [IntKind.wrap_u64]; omega

theorem wrap_two (a x : Int) : wrap64 (wrap64 (a + 1) + x) = wrap64 (a + (1 + x)) := by unfold wrap64; omega

theorem uw_next {a' a : Int} {j : Nat} (h : uw a' = (uw a + j) % 18446744073709551616) : uw (wrap64 (a' + 1)) = (uw a + (j + 1)) % 18446744073709551616 := by
  have h1 : uw (wrap64 (a' + 1)) = (uw a' + 1) % 18446744073709551616 := by rw [uw_wrap]; unfold uw; omega
  rw [h1, h, Nat.mod_add_mod]; rfl

/-- the word that is taken is the one that stands there -/
theorem fin_all {s t a a' : Int} {n j W : Nat} (hn : 0 < n) (hn2 : n ≤ 9223372036854775807) (hok : okAt s t a n j) (hj : j ≤ passed s t a n) (hW : W = wordP s t (uw a + j + 1))
    (hE : ∀ x : Int, wrap64 (a' + x) = wrap64 (a + j + x)) :
    wrap64 ((W : Int).tmod (n : Int)) = ((belowV s t a n : Nat) : Int) ∧ wrap64 (a' + 1) = belowA s t a n := by
  obtain ⟨_, _, h3⟩ := passed_spec s t a hn hn2
  have e : j = passed s t a n := by
    rcases Nat.lt_or_ge j (passed s t a n) with h | h
    · exact absurd hok (h3 j h)
    · omega
  refine ⟨?_, ?_⟩
  · rw [fin_v W hn hn2, hW, e]; rfl
  · rw [hE, e]; rfl

def F36RT6 : Bool × List (List Nat × List Nat) := (true, [([], []), ([0], [0]), ([], []), ([1, 2], [1, 2]), ([3], [3]), ([], []), ([4, 0, 1, 2, 3, 4], [4]), ([5, 6, 0, 1, 2, 3, 4, 5, 6], [5])])
def F36RB6 : List Nat := [0, 1, 0, 7, 15, 0, 31, 127]
theorem F36Rtab6 : rtab .any (opsOf Try.f36 6) = F36RT6 := by kernel_rfl
theorem F36Rbits6 : waitsOk F36RT6.2 F36RB6 = true := by kernel_rfl
set_option maxHeartbeats 1000000 in
set_option maxRecDepth 100000 in
theorem refBelow_calls (s t a : Int) (n : Nat) (w : World) (hn : 0 < n) (hn2 : n ≤ 9223372036854775807) :
    Calls Try.prog 36 #[.agg #[.int .i64 s, .int .i64 t, .int .i64 a], .int .i64 n] w fun e w' => e = .returned (.tuple #[.int .i64 (belowV s t a n), .agg #[.int .i64 s, .int .i64 t, .int .i64 (belowA s t a n)]]) ∧ Below w.heap.size w w' := by
  have hu : IntKind.u64.wrap (n : Int) = (n : Int) := by rw [IntKind.wrap_u64]; omega
  have hz : ((n : Int) == 0) = false := by simp; omega
  have hR := rest_eq hn hn2
  have HR := Aside0.mk hR
  have HN := Aside0.mk hn2
  clear hR hn2
  go_enter Try.func36, Try.ntmps36
  go_wp2
  go_quiet (fail)
  go_wp2
  rw [HR.out]
  obtain ⟨ov, hov⟩ : ∃ x, x = over n := ⟨_, rfl⟩
  rw [← hov]
  have HOV := Aside0.mk hov
  have hovn : ov < n := by rw [hov]; exact over_lt hn
  have HOL := Aside0.mk hovn
  clear hov hovn
  have G1 : Aside0 (IsS23 w (((w.alloc (Obj.cells #[Value.int IntKind.i64 s, Value.int IntKind.i64 t, Value.int IntKind.i64 a] 23)).alloc (Obj.cells #[Value.int IntKind.i64 0, Value.int IntKind.i64 0, Value.int IntKind.i64 0] 23)).drewN nq) w.heap.size s t a) := ⟨((IsS23.new w w s t a (Below.refl _ _)).alloc _).drewN _⟩
  have G2 : Aside0 (IsS23 w (((w.alloc (Obj.cells #[Value.int IntKind.i64 s, Value.int IntKind.i64 t, Value.int IntKind.i64 a] 23)).alloc (Obj.cells #[Value.int IntKind.i64 0, Value.int IntKind.i64 0, Value.int IntKind.i64 0] 23)).drewN nq) (w.heap.size + 1) 0 0 0) := ⟨by have h := IsS23.new w (w.alloc (Obj.cells #[Value.int IntKind.i64 s, Value.int IntKind.i64 t, Value.int IntKind.i64 a] 23)) 0 0 0 ((Below.refl _ _).alloc (Nat.le_refl _) _); simp only [World.size_alloc] at h; exact h.drewN _⟩
  have HB : Aside0 (Below w.heap.size w (((w.alloc (Obj.cells #[Value.int IntKind.i64 s, Value.int IntKind.i64 t, Value.int IntKind.i64 a] 23)).alloc (Obj.cells #[Value.int IntKind.i64 0, Value.int IntKind.i64 0, Value.int IntKind.i64 0] 23)).drewN nq)) := ⟨pw_below_drewN (((Below.refl _ _).alloc (Nat.le_refl _) _).alloc (by simp) _) _⟩
  generalize (((w.alloc (Obj.cells #[Value.int IntKind.i64 s, Value.int IntKind.i64 t, Value.int IntKind.i64 a] 23)).alloc (Obj.cells #[Value.int IntKind.i64 0, Value.int IntKind.i64 0, Value.int IntKind.i64 0] 23)).drewN nq) = w1 at G1 G2 HB ⊢
  go_loopg [] (passed s t a n) (fun kq w' => ∃ (j : Nat) (a' : Int), Aside0 (j + kq = passed s t a n) ∧ Aside0 (uw a' = (uw a + j) % 18446744073709551616) ∧ Aside0 (∀ x : Int, wrap64 (a' + x) = wrap64 (a + j + x)) ∧ Aside0 (IsS23 w w' w.heap.size s t a') ∧ Aside0 (IsS23 w w' (w.heap.size + 1) 0 0 0) ∧ Aside0 (Below w.heap.size w w'))
  case atStart => exact ⟨0, a, ⟨by omega⟩, ⟨by have := uw_lt a; omega⟩, ⟨fun x => by congr 1; omega⟩, G1, G2, HB⟩
  case round =>
    clear G1 G2 HB
    obtain ⟨j, a', HJ, HU, HE, G1, G2, HB⟩ := hrel
    have hs := passed_spec s t a hn HN.out
    obtain ⟨hI0, _⟩ := G1.out
    have c0 := cellS23_0 hI0
    have c1 := cellS23_1 hI0
    have c2 := cellS23_2 hI0
    clear hI0
    go_wp2_with fail
    refine (refNext_calls s t a' _).mono ?_
    rintro e w2 ⟨rfl, hb⟩
    have hW : wordP s t (uw a' + 1) = wordP s t (uw a + j + 1) := by
      rw [HU.out, ← wordP_mod s t ((uw a + j) % 18446744073709551616 + 1), ← wordP_mod s t (uw a + j + 1), Nat.mod_add_mod]
    have hWl := wordP_lt s t (uw a + j + 1)
    rw [hW]
    have hok : okAt s t a n j ↔ wordP s t (uw a + j + 1) ≤ 18446744073709551615 - over n := Iff.rfl
    have hbv : wordP s t (uw a + passed s t a n + 1) % n = belowV s t a n := rfl
    have HJ2 := HJ.out
    have HG1 := Aside0.mk (G1.out.below hb)
    have HG2 := Aside0.mk (G2.out.below hb)
    have HB2 := Aside0.mk (below_step HB.out hb)
    clear G1 G2 HB c0 c1 c2
    have hwv : IntKind.u64.wrap (wrap64 ((wordP s t (uw a + j + 1) : Nat) : Int)) = ((wordP s t (uw a + j + 1) : Nat) : Int) := wrap_back _ hWl
    obtain ⟨W, hWe⟩ : ∃ W, W = wordP s t (uw a + j + 1) := ⟨_, rfl⟩
    rw [← hWe] at hWl hok hwv ⊢
    have HWe := Aside0.mk hWe
    clear hWe hW
    have hlt : w.heap.size < w2.heap.size := HG1.out.lt
    obtain ⟨hI0, _⟩ := HG1.out
    have c0 := cellS23_0 hI0
    have c1 := cellS23_1 hI0
    have c2 := cellS23_2 hI0
    have f0 := blk_frozen hI0 0
    have f1 := blk_frozen hI0 1
    have f2 := blk_frozen hI0 2
    clear hI0
    have HH := Aside0.mk hs
    have HOk := Aside0.mk hok
    have HWl := Aside0.mk hWl
    have HHJ := Aside0.mk HJ2
    have HHV := Aside0.mk hbv
    clear hs hok hWl HJ2 hbv
    by_cases h0 : ov = 0
    · subst h0
      have HOKJ : Aside0 (okAt s t a n j) := ⟨HOk.out.2 (by rw [← HOV.out]; have := HWl.out; omega)⟩
      go_wp2
      have G3 := Aside0.mk ((((HG1.out.set_0 s).set_1 t).set_2 (wrap64 (a' + 1))).alloc (Obj.cells #[Value.int IntKind.i64 s, Value.int IntKind.i64 t, Value.int IntKind.i64 (wrap64 (a' + 1))] 23))
      have G4 := Aside0.mk ((((HG2.out.far (p := ⟨w.heap.size, 0, none⟩) (Nat.succ_ne_self _) (.int .i64 s)).far (p := ⟨w.heap.size, 1, none⟩) (Nat.succ_ne_self _) (.int .i64 t)).far (p := ⟨w.heap.size, 2, none⟩) (Nat.succ_ne_self _) (.int .i64 (wrap64 (a' + 1)))).alloc (Obj.cells #[Value.int IntKind.i64 s, Value.int IntKind.i64 t, Value.int IntKind.i64 (wrap64 (a' + 1))] 23))
      have HB3 := Aside0.mk (below_alloc (below_set (below_set (below_set HB2.out (Nat.le_refl _) (j := 0) (v := .int .i64 s)) (Nat.le_refl _) (j := 1) (v := .int .i64 t)) (Nat.le_refl _) (j := 2) (v := .int .i64 (wrap64 (a' + 1)))) (Obj.cells #[Value.int IntKind.i64 s, Value.int IntKind.i64 t, Value.int IntKind.i64 (wrap64 (a' + 1))] 23))
      generalize (((w2.setCell { block := w.heap.size, off := 0 } (Value.int IntKind.i64 s)).setCell { block := w.heap.size, off := 1 } (Value.int IntKind.i64 t)).setCell { block := w.heap.size, off := 2 } (Value.int IntKind.i64 (wrap64 (a' + 1)))).alloc (Obj.cells #[Value.int IntKind.i64 s, Value.int IntKind.i64 t, Value.int IntKind.i64 (wrap64 (a' + 1))] 23) = w5 at G3 G4 HB3 ⊢
      clear c0 c1 c2 f0 f1 f2 hlt HG1 HG2 HB2
      obtain ⟨hI0, _⟩ := G3.out
      have c0 := cellS23_0 hI0
      have c1 := cellS23_1 hI0
      have c2 := cellS23_2 hI0
      clear hI0
      obtain ⟨hI1, _⟩ := G4.out
      have e0 := cellS23_0 hI1
      have e1 := cellS23_1 hI1
      have e2 := cellS23_2 hI1
      have f0 := blk_frozen hI1 0
      have f1 := blk_frozen hI1 1
      have f2 := blk_frozen hI1 2
      clear hI1
      have hn0 : ¬ n = 0 := by omega
      refine start_ (n := 8) (S := fun w' => w'.cell? ⟨w.heap.size, 0, none⟩ = some (.int .i64 s) ∧ w'.cell? ⟨w.heap.size, 1, none⟩ = some (.int .i64 t) ∧ w'.cell? ⟨w.heap.size, 2, none⟩ = some (.int .i64 (wrap64 (a' + 1)))) (ds := [7]) #[false, false, false, false, false, false, false, false] (by kernel_rfl) rfl rfl ⟨c0, c1, c2⟩ (fun hHeld => ?_)
      refine with_tabW F36Rtab6 F36Rbits6 (fun HT_ HW_ => ?_)
      refine pure_ (i := 0) (N := some 34) (v := ?_) (a' := ?_) #[true, false, false, false, false, false, false, false] rfl rfl (any_of HT_.out (by kernel_rfl)) (fun _ _ _ h => h) (Or.inl ⟨by rfl, ?_⟩) ?_ ?_
      rotate_left
      · intro w'
        go_simp
        with_reducible rfl
      rotate_left
      · simp only [Act.put, List.setIfInBounds_toArray, List.set_cons_zero, List.set_cons_succ, i64_w, i32_w]
        rfl
      refine pure_ (i := 1) (N := some 35) (v := ?_) (a' := ?_) #[true, true, false, false, false, false, false, false] rfl rfl (any_of HT_.out (by kernel_rfl)) (fun _ _ _ h => h) (Or.inl ⟨by rfl, ?_⟩) ?_ ?_
      rotate_left
      · intro w'
        go_simp
        with_reducible rfl
      rotate_left
      · simp only [Act.put, List.setIfInBounds_toArray, List.set_cons_zero, List.set_cons_succ, i64_w, i32_w]
        rfl
      refine pure_ (i := 2) (N := some 36) (v := ?_) (a' := ?_) #[true, true, true, false, false, false, false, false] rfl rfl (any_of HT_.out (by kernel_rfl)) (fun _ _ _ h => h) (Or.inl ⟨by rfl, ?_⟩) ?_ ?_
      rotate_left
      · intro w'
        go_simp
        with_reducible rfl
      rotate_left
      · simp only [Act.put, List.setIfInBounds_toArray, List.set_cons_zero, List.set_cons_succ, i64_w, i32_w]
        rfl
      refine pure_ (i := 3) (N := some 37) (v := ?_) (a' := ?_) #[true, true, true, true, false, false, false, false] rfl rfl (any_of HT_.out (by kernel_rfl)) (fun _ _ _ h => h) (Or.inl ⟨by rfl, ?_⟩) ?_ ?_
      rotate_left
      · intro w'
        go_simp
        with_reducible rfl
      rotate_left
      · simp only [Act.put, List.setIfInBounds_toArray, List.set_cons_zero, List.set_cons_succ, i64_w, i32_w]
        rfl
      refine pure_ (i := 4) (N := some 38) (v := ?_) (a' := ?_) #[true, true, true, true, true, false, false, false] rfl rfl (any_of HT_.out (by kernel_rfl)) (fun _ _ _ h => h) (Or.inl ⟨by rfl, ?_⟩) ?_ ?_
      rotate_left
      · intro w'
        go_simp
        with_reducible rfl
      rotate_left
      · simp only [Act.put, List.setIfInBounds_toArray, List.set_cons_zero, List.set_cons_succ, i64_w, i32_w]
        rfl
      refine pure_ (i := 6) (N := some 4) (v := ?_) (a' := ?_) #[true, true, true, true, true, false, true, false] rfl rfl (any_of HT_.out (by kernel_rfl)) (fun _ _ _ h => h) (Or.inl ⟨by rfl, ?_⟩) ?_ ?_
      rotate_left
      · intro w'
        go_simp
        with_reducible rfl
      rotate_left
      · simp only [Act.put, List.setIfInBounds_toArray, List.set_cons_zero, List.set_cons_succ, i64_w, i32_w]
        rfl
      refine take_ (i := 5) (N := some 39) (v := ?_) (a' := ?_) #[true, true, true, true, true, true, true, false] rfl rfl (take_ofW HT_.out HW_.out (by kernel_rfl)) (fun _ _ _ h => h) (Or.inl ⟨by rfl, ?_⟩) hHeld ?_ ?_
      rotate_left
      · rintro w' ⟨s0, s1, s2⟩
        go_simp
        with_reducible rfl
      rotate_left
      · simp only [Act.put, List.setIfInBounds_toArray, List.set_cons_zero, List.set_cons_succ, i64_w, i32_w]
        rfl
      refine last_ (i := 7) (N := none) #[true, true, true, true, true, true, true, true] rfl rfl (one_of HT_.out (by kernel_rfl)) (by decide) (fun K hK => ?_)
      refine skip_ (w1 := ?_) (by rfl) rfl ?_ ?_
      rotate_left
      · go_simp
        rfl
      refine hK.out _ _ ?_
      clear hK K
      refine done_ (done_of HT_.out (by kernel_rfl)) ?_
      go_wp2
      refine bodyPost_ret (v := .tuple #[.int .i64 (wrap64 ((W : Int).tmod (n : Int))), .agg #[.int .i64 s, .int .i64 t, .int .i64 (wrap64 (a' + 1))]]) (by simp [results, Try.results36, go_sem, e0, e1, e2]) rfl ?_
      have hfin := fin_all hn HN.out HOKJ.out (by have := HHJ.out; omega) HWe.out HE.out
      rw [hfin.1, hfin.2]
      exact ⟨rfl, Below.drew (below_set (below_set (below_set HB3.out (by omega)) (by omega)) (by omega))⟩
    · have hne : ((ov : Int) == 0) = false := by simp; omega
      have hng := neg_u64 h0 (by have := HN.out; have := HOL.out; omega)
      obtain ⟨Z, hZ⟩ : ∃ Z, Z = 18446744073709551616 - ov := ⟨_, rfl⟩
      rw [← hZ] at hng
      have HZ := Aside0.mk hZ
      clear hZ
      by_cases hc : W < Z
      · have HOKJ : Aside0 (okAt s t a n j) := ⟨HOk.out.2 (by rw [← HOV.out]; have := HZ.out; omega)⟩
        have d1 : decide (W < Z) = true := decide_eq_true hc
        go_wp2
        have G3 := Aside0.mk ((((HG1.out.set_0 s).set_1 t).set_2 (wrap64 (a' + 1))).alloc (Obj.cells #[Value.int IntKind.i64 s, Value.int IntKind.i64 t, Value.int IntKind.i64 (wrap64 (a' + 1))] 23))
        have G4 := Aside0.mk ((((HG2.out.far (p := ⟨w.heap.size, 0, none⟩) (Nat.succ_ne_self _) (.int .i64 s)).far (p := ⟨w.heap.size, 1, none⟩) (Nat.succ_ne_self _) (.int .i64 t)).far (p := ⟨w.heap.size, 2, none⟩) (Nat.succ_ne_self _) (.int .i64 (wrap64 (a' + 1)))).alloc (Obj.cells #[Value.int IntKind.i64 s, Value.int IntKind.i64 t, Value.int IntKind.i64 (wrap64 (a' + 1))] 23))
        have HB3 := Aside0.mk (below_alloc (below_set (below_set (below_set HB2.out (Nat.le_refl _) (j := 0) (v := .int .i64 s)) (Nat.le_refl _) (j := 1) (v := .int .i64 t)) (Nat.le_refl _) (j := 2) (v := .int .i64 (wrap64 (a' + 1)))) (Obj.cells #[Value.int IntKind.i64 s, Value.int IntKind.i64 t, Value.int IntKind.i64 (wrap64 (a' + 1))] 23))
        generalize (((w2.setCell { block := w.heap.size, off := 0 } (Value.int IntKind.i64 s)).setCell { block := w.heap.size, off := 1 } (Value.int IntKind.i64 t)).setCell { block := w.heap.size, off := 2 } (Value.int IntKind.i64 (wrap64 (a' + 1)))).alloc (Obj.cells #[Value.int IntKind.i64 s, Value.int IntKind.i64 t, Value.int IntKind.i64 (wrap64 (a' + 1))] 23) = w5 at G3 G4 HB3 ⊢
        clear c0 c1 c2 f0 f1 f2 hlt HG1 HG2 HB2
        obtain ⟨hI0, _⟩ := G3.out
        have c0 := cellS23_0 hI0
        have c1 := cellS23_1 hI0
        have c2 := cellS23_2 hI0
        clear hI0
        obtain ⟨hI1, _⟩ := G4.out
        have e0 := cellS23_0 hI1
        have e1 := cellS23_1 hI1
        have e2 := cellS23_2 hI1
        have f0 := blk_frozen hI1 0
        have f1 := blk_frozen hI1 1
        have f2 := blk_frozen hI1 2
        clear hI1
        have hn0 : ¬ n = 0 := by omega
        refine start_ (n := 8) (S := fun w' => w'.cell? ⟨w.heap.size, 0, none⟩ = some (.int .i64 s) ∧ w'.cell? ⟨w.heap.size, 1, none⟩ = some (.int .i64 t) ∧ w'.cell? ⟨w.heap.size, 2, none⟩ = some (.int .i64 (wrap64 (a' + 1)))) (ds := [7]) #[false, false, false, false, false, false, false, false] (by kernel_rfl) rfl rfl ⟨c0, c1, c2⟩ (fun hHeld => ?_)
        refine with_tabW F36Rtab6 F36Rbits6 (fun HT_ HW_ => ?_)
        refine pure_ (i := 0) (N := some 34) (v := ?_) (a' := ?_) #[true, false, false, false, false, false, false, false] rfl rfl (any_of HT_.out (by kernel_rfl)) (fun _ _ _ h => h) (Or.inl ⟨by rfl, ?_⟩) ?_ ?_
        rotate_left
        · intro w'
          go_simp
          with_reducible rfl
        rotate_left
        · simp only [Act.put, List.setIfInBounds_toArray, List.set_cons_zero, List.set_cons_succ, i64_w, i32_w]
          rfl
        refine pure_ (i := 1) (N := some 35) (v := ?_) (a' := ?_) #[true, true, false, false, false, false, false, false] rfl rfl (any_of HT_.out (by kernel_rfl)) (fun _ _ _ h => h) (Or.inl ⟨by rfl, ?_⟩) ?_ ?_
        rotate_left
        · intro w'
          go_simp
          with_reducible rfl
        rotate_left
        · simp only [Act.put, List.setIfInBounds_toArray, List.set_cons_zero, List.set_cons_succ, i64_w, i32_w]
          rfl
        refine pure_ (i := 2) (N := some 36) (v := ?_) (a' := ?_) #[true, true, true, false, false, false, false, false] rfl rfl (any_of HT_.out (by kernel_rfl)) (fun _ _ _ h => h) (Or.inl ⟨by rfl, ?_⟩) ?_ ?_
        rotate_left
        · intro w'
          go_simp
          with_reducible rfl
        rotate_left
        · simp only [Act.put, List.setIfInBounds_toArray, List.set_cons_zero, List.set_cons_succ, i64_w, i32_w]
          rfl
        refine pure_ (i := 3) (N := some 37) (v := ?_) (a' := ?_) #[true, true, true, true, false, false, false, false] rfl rfl (any_of HT_.out (by kernel_rfl)) (fun _ _ _ h => h) (Or.inl ⟨by rfl, ?_⟩) ?_ ?_
        rotate_left
        · intro w'
          go_simp
          with_reducible rfl
        rotate_left
        · simp only [Act.put, List.setIfInBounds_toArray, List.set_cons_zero, List.set_cons_succ, i64_w, i32_w]
          rfl
        refine pure_ (i := 4) (N := some 38) (v := ?_) (a' := ?_) #[true, true, true, true, true, false, false, false] rfl rfl (any_of HT_.out (by kernel_rfl)) (fun _ _ _ h => h) (Or.inl ⟨by rfl, ?_⟩) ?_ ?_
        rotate_left
        · intro w'
          go_simp
          with_reducible rfl
        rotate_left
        · simp only [Act.put, List.setIfInBounds_toArray, List.set_cons_zero, List.set_cons_succ, i64_w, i32_w]
          rfl
        refine pure_ (i := 6) (N := some 4) (v := ?_) (a' := ?_) #[true, true, true, true, true, false, true, false] rfl rfl (any_of HT_.out (by kernel_rfl)) (fun _ _ _ h => h) (Or.inl ⟨by rfl, ?_⟩) ?_ ?_
        rotate_left
        · intro w'
          go_simp
          with_reducible rfl
        rotate_left
        · simp only [Act.put, List.setIfInBounds_toArray, List.set_cons_zero, List.set_cons_succ, i64_w, i32_w]
          rfl
        refine take_ (i := 5) (N := some 39) (v := ?_) (a' := ?_) #[true, true, true, true, true, true, true, false] rfl rfl (take_ofW HT_.out HW_.out (by kernel_rfl)) (fun _ _ _ h => h) (Or.inl ⟨by rfl, ?_⟩) hHeld ?_ ?_
        rotate_left
        · rintro w' ⟨s0, s1, s2⟩
          go_simp
          with_reducible rfl
        rotate_left
        · simp only [Act.put, List.setIfInBounds_toArray, List.set_cons_zero, List.set_cons_succ, i64_w, i32_w]
          rfl
        refine last_ (i := 7) (N := none) #[true, true, true, true, true, true, true, true] rfl rfl (one_of HT_.out (by kernel_rfl)) (by decide) (fun K hK => ?_)
        refine skip_ (w1 := ?_) (by rfl) rfl ?_ ?_
        rotate_left
        · go_simp
          rfl
        refine hK.out _ _ ?_
        clear hK K
        refine done_ (done_of HT_.out (by kernel_rfl)) ?_
        go_wp2
        refine bodyPost_ret (v := .tuple #[.int .i64 (wrap64 ((W : Int).tmod (n : Int))), .agg #[.int .i64 s, .int .i64 t, .int .i64 (wrap64 (a' + 1))]]) (by simp [results, Try.results36, go_sem, e0, e1, e2]) rfl ?_
        have hfin := fin_all hn HN.out HOKJ.out (by have := HHJ.out; omega) HWe.out HE.out
        rw [hfin.1, hfin.2]
        exact ⟨rfl, Below.drew (below_set (below_set (below_set HB3.out (by omega)) (by omega)) (by omega))⟩

      · have HNO : Aside0 (¬ okAt s t a n j) := ⟨fun h => by have h1 := HOk.out.1 h; rw [← HOV.out] at h1; have := HZ.out; have := HOL.out; have := HN.out; omega⟩
        have d1 : decide (W < Z) = false := decide_eq_false hc
        go_wp2
        have G3 := Aside0.mk ((((HG1.out.set_0 s).set_1 t).set_2 (wrap64 (a' + 1))).alloc (Obj.cells #[Value.int IntKind.i64 s, Value.int IntKind.i64 t, Value.int IntKind.i64 (wrap64 (a' + 1))] 23))
        have G4 := Aside0.mk ((((HG2.out.far (p := ⟨w.heap.size, 0, none⟩) (Nat.succ_ne_self _) (.int .i64 s)).far (p := ⟨w.heap.size, 1, none⟩) (Nat.succ_ne_self _) (.int .i64 t)).far (p := ⟨w.heap.size, 2, none⟩) (Nat.succ_ne_self _) (.int .i64 (wrap64 (a' + 1)))).alloc (Obj.cells #[Value.int IntKind.i64 s, Value.int IntKind.i64 t, Value.int IntKind.i64 (wrap64 (a' + 1))] 23))
        have HB3 := Aside0.mk (below_alloc (below_set (below_set (below_set HB2.out (Nat.le_refl _) (j := 0) (v := .int .i64 s)) (Nat.le_refl _) (j := 1) (v := .int .i64 t)) (Nat.le_refl _) (j := 2) (v := .int .i64 (wrap64 (a' + 1)))) (Obj.cells #[Value.int IntKind.i64 s, Value.int IntKind.i64 t, Value.int IntKind.i64 (wrap64 (a' + 1))] 23))
        generalize (((w2.setCell { block := w.heap.size, off := 0 } (Value.int IntKind.i64 s)).setCell { block := w.heap.size, off := 1 } (Value.int IntKind.i64 t)).setCell { block := w.heap.size, off := 2 } (Value.int IntKind.i64 (wrap64 (a' + 1)))).alloc (Obj.cells #[Value.int IntKind.i64 s, Value.int IntKind.i64 t, Value.int IntKind.i64 (wrap64 (a' + 1))] 23) = w5 at G3 G4 HB3 ⊢

        have hjp : j < passed s t a n := by
          have h1 := HHJ.out
          rcases Nat.lt_or_ge j (passed s t a n) with h | h
          · exact h
          · exact absurd (by rw [show j = passed s t a n by omega]; exact HH.out.2.1) HNO.out
        have hE1 : ∀ x : Int, wrap64 (wrap64 (a' + 1) + x) = wrap64 (a + (j + 1 : Nat) + x) := fun x => by
          have h1 := HE.out (1 + x)
          have h2 : wrap64 (wrap64 (a' + 1) + x) = wrap64 (a' + (1 + x)) := wrap_two a' x
          rw [h2, h1]; congr 1; omega
        have hU1 : uw (wrap64 (a' + 1)) = (uw a + (j + 1)) % 18446744073709551616 := uw_next HU.out
        go_roundg (gk - 1)
        case measure => have := HHJ.out; omega
        case rel => exact ⟨j + 1, wrap64 (a' + 1), ⟨by have := HHJ.out; omega⟩, ⟨hU1⟩, ⟨hE1⟩, G3, G4, HB3⟩

end Go.Proofs.Ytpobladocccnmaa
