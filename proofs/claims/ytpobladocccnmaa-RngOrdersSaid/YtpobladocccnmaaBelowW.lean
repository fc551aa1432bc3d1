/- The law RngBelow, walked: it comes to true, whatever the seed, the stream, the place and n. -/
import Derived.Test.YtpobladocccnmaaAlive
import Derived.Outline
namespace Go.Proofs.Ytpobladocccnmaa
open Go.RowKit Mix PBase
open Go.Proofs.YtpobladocccnmaaW.PrintWords Go.Proofs.YtpobladocccnmaaW.PrintLast Go.Proofs.YtpobladocccnmaaW.PrintMore
set_option linter.unusedVariables false
set_option linter.unusedSimpArgs false

set_option maxHeartbeats 1000000 in
set_option maxRecDepth 100000 in
theorem Below_no (s t a n : Int) (w : World) (hn : n < 1) :
    Calls Try.prog 15 #[.agg #[.int .i64 s, .int .i64 t, .int .i64 a], .int .i64 n] w fun e w' => e = .returned (.tuple #[.int .i64 0, .agg #[.int .i64 0, .int .i64 0, .int .i64 0], .int .i64 1]) ∧ Below w.heap.size w w' := by
  have d1 : decide (n < 1) = true := decide_eq_true hn
  go_enter Try.func15, Try.ntmps15
  go_wp2
  refine bodyPost_ret (v := .tuple #[.int .i64 0, .agg #[.int .i64 0, .int .i64 0, .int .i64 0], .int .i64 1]) (by simp [results, Try.results15, go_sem]) rfl ?_
  exact ⟨rfl, ((Below.refl _ _).alloc (Nat.le_refl _) _).alloc (by simp) _⟩

set_option maxHeartbeats 1000000 in
set_option maxRecDepth 100000 in
theorem Below_yes (s t a : Int) (n : Nat) (w : World) (hn : 0 < n) (hn2 : n ≤ 9223372036854775807) :
    Calls Try.prog 15 #[.agg #[.int .i64 s, .int .i64 t, .int .i64 a], .int .i64 n] w fun e w' => e = .returned (.tuple #[.int .i64 (belowV s t a n), .agg #[.int .i64 s, .int .i64 t, .int .i64 (belowA s t a n)], .int .i64 0]) ∧ Below w.heap.size w w' := by
  have d1 : decide ((n : Int) < 1) = false := decide_eq_false (by omega)
  have HN := Aside0.mk hn2
  clear hn2
  go_enter Try.func15, Try.ntmps15
  go_wp2_with fail
  refine (below_calls w.heap.size s t a n w _ ((IsS23.new w w s t a (Below.refl _ _)).alloc _) (((Below.refl _ _).alloc (Nat.le_refl _) _).alloc (by simp) _) hn HN.out).mono ?_
  rintro e w2 ⟨rfl, hI, hB, hK⟩
  have hBK : w2.heap[w.heap.size + 1]? = some (.cells #[.int .i64 0, .int .i64 0, .int .i64 0] 23 (0, 0)) := (hK.2 (w.heap.size + 1) (by simp) (by omega) (by simp)).trans (by simpa using blk_new (w.alloc (.cells #[.int .i64 s, .int .i64 t, .int .i64 a] 23)) (.cells #[.int .i64 0, .int .i64 0, .int .i64 0] 23 (0, 0)))
  have HB := Aside0.mk hB
  have BK := Aside0.mk hBK
  obtain ⟨hI0, _⟩ := hI
  have c0 := cellS23_0 hI0
  have c1 := cellS23_1 hI0
  have c2 := cellS23_2 hI0
  have e0 := cellS23_0 hBK
  have e1 := cellS23_1 hBK
  have e2 := cellS23_2 hBK
  have f0 := blk_frozen hBK 0
  have f1 := blk_frozen hBK 1
  have f2 := blk_frozen hBK 2
  clear hB hK hI0 hBK
  go_wp2
  refine start_ (n := 5) (S := fun w' => w'.cell? ⟨w.heap.size, 0, none⟩ = some (.int .i64 s) ∧ w'.cell? ⟨w.heap.size, 1, none⟩ = some (.int .i64 t) ∧ w'.cell? ⟨w.heap.size, 2, none⟩ = some (.int .i64 (belowA s t a n))) (ds := [3]) #[false, false, false, false, false] (by kernel_rfl) rfl rfl ⟨c0, c1, c2⟩ (fun hHeld => ?_)
  refine pure_ (i := 0) (N := some 13) (v := ?_) (a' := ?_) #[true, false, false, false, false] rfl rfl (by kernel_rfl) (fun _ _ _ h => h) (Or.inl ⟨by rfl, ?_⟩) ?_ ?_
  rotate_left
  · intro w'
    go_simp
    with_reducible rfl
  rotate_left
  · simp only [Act.put, List.setIfInBounds_toArray, List.set_cons_zero, List.set_cons_succ, i64_w, i32_w]
    rfl
  refine pure_ (i := 2) (N := some 4) (v := ?_) (a' := ?_) #[true, false, true, false, false] rfl rfl (by kernel_rfl) (fun _ _ _ h => h) (Or.inl ⟨by rfl, ?_⟩) ?_ ?_
  rotate_left
  · intro w'
    go_simp
    with_reducible rfl
  rotate_left
  · simp only [Act.put, List.setIfInBounds_toArray, List.set_cons_zero, List.set_cons_succ, i64_w, i32_w]
    rfl
  refine take_ (i := 1) (N := some 14) (v := ?_) (a' := ?_) #[true, true, true, false, false] rfl rfl (by kernel_rfl) (fun _ _ _ h => h) (Or.inl ⟨by rfl, ?_⟩) hHeld ?_ ?_
  rotate_left
  · rintro w' ⟨s0, s1, s2⟩
    go_simp
    with_reducible rfl
  rotate_left
  · simp only [Act.put, List.setIfInBounds_toArray, List.set_cons_zero, List.set_cons_succ, i64_w, i32_w]
    rfl
  refine last_ (i := 3) (N := none) #[true, true, true, true, false] rfl rfl (by kernel_rfl) (by decide) (fun K hK => ?_)
  refine skip_ (w1 := ?_) (by rfl) rfl ?_ ?_
  rotate_left
  · go_simp
    rfl
  refine hK.out _ _ ?_
  clear hK K
  refine pure_ (i := 4) (N := some 6) (v := ?_) (a' := ?_) #[true, true, true, true, true] rfl rfl (by kernel_rfl) (fun _ _ _ h => h) (Or.inl ⟨by rfl, ?_⟩) ?_ ?_
  rotate_left
  · intro w'
    go_simp
    with_reducible rfl
  rotate_left
  · simp only [Act.put, List.setIfInBounds_toArray, List.set_cons_zero, List.set_cons_succ, i64_w, i32_w]
    rfl
  refine done_ (by kernel_rfl) ?_
  go_wp2
  refine bodyPost_ret (v := .tuple #[.int .i64 (belowV s t a n), .agg #[.int .i64 s, .int .i64 t, .int .i64 (belowA s t a n)], .int .i64 0]) (by simp [results, Try.results15, go_sem, e0, e1, e2]) rfl ?_
  exact ⟨rfl, Below.drew (below_set (below_set (below_set HB.out (by omega)) (by omega)) (by omega))⟩

set_option maxHeartbeats 1000000 in
set_option maxRecDepth 100000 in
theorem RngBelow_no (s t a n : Int) (w : World) (hn : n < 1) :
    Calls Try.prog 4 #[.agg #[.int .i64 s, .int .i64 t, .int .i64 a], .int .i64 n] w fun e w' => e = .returned (.bool true) ∧ Below w.heap.size w w' := by
  have d1 : decide (n < 1) = true := decide_eq_true hn
  go_enter Try.func4, Try.ntmps4
  go_wp2_with fail
  refine (Below_no s t a n _ hn).mono ?_
  rintro e w1 ⟨rfl, hb⟩
  have HB1 := Aside0.mk (below_step ((Below.refl _ _).alloc (Nat.le_refl _) _) hb)
  clear hb
  go_wp2_with fail
  refine (alive_calls _).mono ?_
  rintro e w2 ⟨rfl, hb⟩
  have HB2 := Aside0.mk (below_step (below_alloc HB1.out _) hb)
  clear hb HB1
  go_wp2_with fail
  refine (alive_calls _).mono ?_
  rintro e w3 ⟨rfl, hb⟩
  have HB3 := Aside0.mk (below_step HB2.out hb)
  clear hb HB2
  go_wp2
  go_ret
  exact ⟨rfl, HB3.out⟩

theorem most_eq {n : Nat} (hn : 0 < n) (hn2 : n ≤ 9223372036854775807) :
    IntKind.u64.wrap (18446744073709551615 - (IntKind.u64.wrap ((18446744073709551615 : Int) % (n : Int) + 1)).tmod (n : Int)) = ((18446744073709551615 - over n : Nat) : Int) := by
  have h1 : (18446744073709551615 : Int) % (n : Int) = ((18446744073709551615 % n : Nat) : Int) := by rw [Int.natCast_emod]; rfl
  have h2 : 18446744073709551615 % n < n := Nat.mod_lt _ hn
  have h3 : IntKind.u64.wrap (((18446744073709551615 % n : Nat) : Int) + 1) = ((18446744073709551615 % n + 1 : Nat) : Int) := by rw [IntKind.wrap_u64]; omega
  have h4 : (18446744073709551615 % n + 1) % n = over n := by
    unfold over
    have e1 : 18446744073709551616 - n + n = 18446744073709551615 + 1 := by omega
    rw [Nat.mod_add_mod, ← e1, Nat.add_mod_right]
  have h5 := over_lt hn
  rw [h1, h3, Int.tmod_eq_emod_of_nonneg (by omega), ← Int.natCast_emod, h4, IntKind.wrap_u64]
  omega

theorem taken_eq {a : Int} {J : Nat} (ha : -9223372036854775808 ≤ a ∧ a ≤ 9223372036854775807) (hJ : J + 1 ≤ 9223372036854775807) : wrap64 (wrap64 (a + J + 1) - a) = ((J + 1 : Nat) : Int) := by
  unfold wrap64; omega

set_option maxHeartbeats 1000000 in
set_option maxRecDepth 100000 in
theorem RngBelow_yes (s t a : Int) (n : Nat) (w : World) (hn : 0 < n) (hn2 : n ≤ 9223372036854775807) (ha : -9223372036854775808 ≤ a ∧ a ≤ 9223372036854775807) :
    Calls Try.prog 4 #[.agg #[.int .i64 s, .int .i64 t, .int .i64 a], .int .i64 n] w fun e w' => e = .returned (.bool true) ∧ Below w.heap.size w w' := by
  have d1 : decide ((n : Int) < 1) = false := decide_eq_false (by omega)
  have hvl := belowV_lt s t a hn
  have HN := Aside0.mk hn2
  have HA := Aside0.mk ha
  have hu : IntKind.u64.wrap (n : Int) = (n : Int) := by rw [IntKind.wrap_u64]; omega
  have hz : ((n : Int) == 0) = false := by simp; omega
  clear hn2 ha
  go_enter Try.func4, Try.ntmps4
  go_wp2_with fail
  refine (Below_yes s t a n _ hn HN.out).mono ?_
  rintro e w1 ⟨rfl, hb⟩
  obtain ⟨V, hV⟩ : ∃ V, V = belowV s t a n := ⟨_, rfl⟩
  obtain ⟨a2, ha2⟩ : ∃ x, x = belowA s t a n := ⟨_, rfl⟩
  rw [← hV] at hvl ⊢
  rw [← ha2]
  have HV := Aside0.mk hV
  have HA2 := Aside0.mk ha2
  clear hV ha2
  have d5 : decide ((V : Int) < 0) = false := decide_eq_false (by omega)
  have d6 : decide (n ≤ V) = false := decide_eq_false (by omega)
  have HB1 := Aside0.mk (below_step ((Below.refl _ _).alloc (Nat.le_refl _) _) hb)
  have G1 := Aside0.mk ((IsS23.new w w s t a (Below.refl _ _)).below hb)
  clear hb
  go_wp2_with fail
  refine (alive_calls _).mono ?_
  rintro e w2 ⟨rfl, hb⟩
  have HB2 := Aside0.mk (below_step (below_alloc HB1.out _) hb)
  have G2 := Aside0.mk ((G1.out.alloc (.cells #[.int .i64 s, .int .i64 t, .int .i64 a2] 23)).below hb)
  have GE := Aside0.mk ((IsS23.new w w1 s t a2 HB1.out).below hb)
  clear hb HB1 G1
  obtain ⟨hI0, _⟩ := G2.out
  have c0 := cellS23_0 hI0
  have c1 := cellS23_1 hI0
  have c2 := cellS23_2 hI0
  obtain ⟨hI1, _⟩ := GE.out
  have e0 := cellS23_0 hI1
  have e1 := cellS23_1 hI1
  have e2 := cellS23_2 hI1
  clear hI0 hI1
  have hsp := passed_spec s t a hn HN.out
  have hov := over_lt hn
  obtain ⟨T, hT⟩ : ∃ T, T = passed s t a n + 1 := ⟨_, rfl⟩
  have htk : wrap64 (a2 - a) = (T : Int) := by rw [HA2.out, hT]; exact taken_eq HA.out (by have := HN.out; omega)
  have hT1 : decide ((T : Int) < 1) = false := decide_eq_false (by omega)
  have HT := Aside0.mk hT
  have HSP := Aside0.mk hsp
  have HOV := Aside0.mk hov
  clear hT hsp hov
  go_wp2
  rw [htk, most_eq hn HN.out]
  obtain ⟨Z, hZ⟩ : ∃ Z, Z = 18446744073709551615 - over n := ⟨_, rfl⟩
  rw [← hZ]
  have HZ := Aside0.mk hZ
  clear hZ htk c0 c1 c2 e0 e1 e2 GE hT1
  go_loopg [11] T (fun kq v11 w' => ∃ i : Nat, v11 = .int .i64 i ∧ Aside0 (i + kq = T) ∧ Aside0 (IsS23 w w' w.heap.size s t a) ∧ Aside0 (Below w.heap.size w w'))
  case atStart => exact ⟨0, rfl, ⟨by omega⟩, G2, HB2⟩
  case round =>
    clear G2 HB2
    obtain ⟨i, rfl, HI, G2, HB2⟩ := hrel
    have hT2 : T ≤ 9223372036854775807 := by have h1 := HT.out; have h2 := HSP.out.1; have h3 := HOV.out; have h4 := HN.out; omega
    obtain ⟨hI0, _⟩ := G2.out
    have c0 := cellS23_0 hI0
    have c1 := cellS23_1 hI0
    have c2 := cellS23_2 hI0
    clear hI0
    by_cases hlt : i < T
    · as_aux_lemma =>
        have d1 : decide ((i : Int) < (T : Int)) = true := decide_eq_true (by omega)
        obtain ⟨W, hW⟩ : ∃ W, W = wordP s t (uw a + i + 1) := ⟨_, rfl⟩
        have hWl : W < 18446744073709551616 := by rw [hW]; exact wordP_lt _ _ _
        have hwv := wrap_back W hWl
        have HW : Aside0 (rng_Word.f s t a (i : Int) = some (wrap64 (W : Int))) := ⟨by
          have h1 : uw (i : Int) = i := by unfold uw; omega
          rw [rng_Word_eq, h1, hW]⟩
        have HWe := Aside0.mk hW
        have HWl := Aside0.mk hWl
        clear hW hWl
        go_wp2_with fail
        refine (rng_Word.calls s t a (i : Int) _ _ HW.out).mono ?_
        rintro e w3 ⟨rfl, hb⟩
        have G3 := Aside0.mk (G2.out.below hb)
        have HB3 := Aside0.mk (below_step HB2.out hb)
        clear hb c0 c1 c2 G2 HB2
        by_cases hl2 : i + 1 < T
        · have hno : Z < W := by
            have h1 := HSP.out.2.2 i (by have := HT.out; omega)
            have h2 : ¬ W ≤ 18446744073709551615 - over n := by rw [HWe.out]; exact h1
            have h3 := HZ.out
            omega
          have d2 : decide (W ≤ Z) = false := decide_eq_false (by omega)
          have d3 : ((i : Int) + 1 == (T : Int)) = false := by simp; omega
          have d4 : (i : Int) + 1 < (T : Int) := by omega
          go_wp2
          go_roundg (gk - 1)
          case measure => have := HI.out; omega
          case rel => exact ⟨i + 1, by go_num, ⟨by have := HI.out; omega⟩, G3, HB3⟩
        · have hok : W ≤ Z := by
            have h1 := HSP.out.2.1
            have h4 : i = passed s t a n := by have := HT.out; omega
            rw [← h4] at h1
            have h2 : W ≤ 18446744073709551615 - over n := by rw [HWe.out]; exact h1
            have h3 := HZ.out
            omega
          have hV2 : wrap64 ((W : Int) % (n : Int)) = (V : Int) := by
            have h4 : i = passed s t a n := by have := HT.out; omega
            rw [← Int.tmod_eq_emod_of_nonneg (Int.natCast_nonneg W), fin_v W hn HN.out, HV.out, HWe.out, h4]; rfl
          have d2 : decide (Z < W) = false := decide_eq_false (by omega)
          have d3 : ((i : Int) + 1 == (T : Int)) = true := by simp; omega
          have d4 : ¬ (i : Int) + 1 < (T : Int) := by omega
          go_wp2
          go_roundg (gk - 1)
          case measure => have := HI.out; omega
          case rel => exact ⟨i + 1, by go_num, ⟨by have := HI.out; omega⟩, G3, HB3⟩
    · have d1 : decide ((i : Int) < (T : Int)) = false := decide_eq_false (by omega)
      go_wp2
      go_ret
      exact ⟨rfl, HB2.out⟩

theorem RngBelow_calls (s t a n : Int) (w : World) (ha : -9223372036854775808 ≤ a ∧ a ≤ 9223372036854775807) (hn : -9223372036854775808 ≤ n ∧ n ≤ 9223372036854775807) :
    Calls Try.prog 4 #[.agg #[.int .i64 s, .int .i64 t, .int .i64 a], .int .i64 n] w fun e w' => e = .returned (.bool true) ∧ Below w.heap.size w w' := by
  by_cases h : n < 1
  · exact RngBelow_no s t a n w h
  · obtain ⟨m, rfl⟩ := Int.eq_ofNat_of_zero_le (show 0 ≤ n by omega)
    exact RngBelow_yes s t a m w (by omega) (by omega) ha

end Go.Proofs.Ytpobladocccnmaa
