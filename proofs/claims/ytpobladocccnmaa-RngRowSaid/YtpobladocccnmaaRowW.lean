/- The law RngRow, walked: it comes to true, whatever the seed, the stream, the place and n. -/
import Derived.Test.YtpobladocccnmaaWordsW
import Derived.Outline
namespace Go.Proofs.Ytpobladocccnmaa
open Go.RowKit Mix PBase
open Go.Proofs.YtpobladocccnmaaW.PrintWords Go.Proofs.YtpobladocccnmaaW.PrintLast Go.Proofs.YtpobladocccnmaaW.PrintMore
set_option linter.unusedVariables false
set_option linter.unusedSimpArgs false

theorem and63 (n : Int) : bits .and .i64 n 63 = n % 64 := by
  have h : bits .and .i64 n 63 = IntKind.i64.wrap ((BitVec.ofInt 64 n &&& BitVec.ofInt 64 63).toNat : Int) := rfl
  have h63 : (BitVec.ofInt 64 63).toNat = 2 ^ 6 - 1 := by decide
  rw [h, BitVec.toNat_and, h63, Nat.and_two_pow_sub_one_eq_mod, BitVec.toNat_ofInt, IntKind.wrap_i64]
  omega

theorem word_at {s t : Int} {p q : Nat} (h : p % 18446744073709551616 = q % 18446744073709551616) : wordP s t p = wordP s t q := by
  rw [← wordP_mod s t p, ← wordP_mod s t q, h]

theorem uw_nat {i : Nat} (h : i ≤ 9223372036854775807) : uw (i : Int) = i := by unfold uw; omega

theorem row_a (a : Int) (i : Nat) (hi : i ≤ 100) : (uw (wrap64 (a + i)) + 1) % 18446744073709551616 = (uw a + uw (i : Int) + 1) % 18446744073709551616 := by
  rw [uw_wrap, uw_nat (by omega)]; unfold uw; omega
theorem row_b (a : Int) (n : Nat) (hi : n ≤ 100) : (uw (wrap64 (a + n)) + uw 0 + 1) % 18446744073709551616 = (uw a + uw (n : Int) + 1) % 18446744073709551616 := by
  rw [uw_wrap, uw_nat (by omega)]; unfold uw; omega
theorem row_c (a : Int) (n : Nat) (hi : n ≤ 100) : (uw (wrap64 (a + n)) + uw (-(n : Int)) + 1) % 18446744073709551616 = (uw a + uw 0 + 1) % 18446744073709551616 := by
  rw [uw_wrap]; unfold uw; omega
theorem wrap_step (a : Int) (i : Nat) : wrap64 (wrap64 (a + i) + 1) = wrap64 (a + (i + 1 : Nat)) := by unfold wrap64; omega

theorem Next_calls (s t a : Int) (w : World) :
    Calls Try.prog 17 #[.agg #[.int .i64 s, .int .i64 t, .int .i64 a]] w fun e w' => e = .returned (.tuple #[.int .i64 (wrap64 ((wordP s t (uw a + 1) : Nat) : Int)), .agg #[.int .i64 s, .int .i64 t, .int .i64 (wrap64 (a + 1))]]) ∧ Below w.heap.size w w' :=
  rng_Next.calls s t a _ _ _ _ w (rngNext_eq s t a)

def F6RT12 : Bool × List (List Nat × List Nat) := (true, [([], []), ([0, 0], [0]), ([1], [1]), ([2, 1, 1], [1, 2]), ([1], [1]), ([1], [1]), ([4, 5, 3, 1], [1, 4, 5]), ([3, 6, 1], [1, 3, 6]), ([1, 7], [1, 7]), ([8, 6], [8]), ([9], [9]), ([9], [9]), ([11, 9], [9, 11]), ([10, 12, 9, 9], [9, 10, 12]), ([9], [9]), ([14, 13, 9], [9, 14]), ([13, 15, 9], [9, 13, 15]), ([9, 16], [9, 16]), ([17, 15, 0, 1, 2, 3, 4, 5, 6, 7, 8, 9, 10, 11, 12, 13, 14, 15, 16, 17], [17])])
def F6RB12 : List Nat := [0, 1, 3, 7, 3, 3, 63, 127, 255, 511, 1023, 1023, 3071, 8191, 1023, 32767, 65535, 131071, 262143]
theorem F6Rtab12 : rtab .any (opsOf Try.f6 12) = F6RT12 := by kernel_rfl
theorem F6Rbits12 : waitsOk F6RT12.2 F6RB12 = true := by kernel_rfl
set_option maxHeartbeats 1000000 in
set_option maxRecDepth 100000 in
theorem RngRow_calls (s t a n0 : Int) (w : World) (ha : -9223372036854775808 ≤ a ∧ a ≤ 9223372036854775807) :
    Calls Try.prog 6 #[.agg #[.int .i64 s, .int .i64 t, .int .i64 a], .int .i64 n0] w fun e w' => e = .returned (.bool true) ∧ Below w.heap.size w w' := by
  obtain ⟨n, hn⟩ : ∃ n : Nat, (n : Int) = n0 % 64 := ⟨(n0 % 64).toNat, by omega⟩
  have hn64 : n ≤ 63 := by omega
  have hand : bits .and .i64 n0 63 = (n : Int) := by rw [and63, hn]
  have hwa : wrap64 a = a := wrap64_id ha
  have HWA := Aside0.mk hwa
  clear hn ha hwa
  go_enter Try.func6, Try.ntmps6
  go_wp2_with fail
  refine (rng_Split.calls s t a (n : Int) s (splitN s t n) 0 _ (rng_Split_eq s t a n)).mono ?_
  rintro e w1 ⟨rfl, hb⟩
  have GD := Aside0.mk (((IsS23.new w w s t a (Below.refl _ _)).alloc (.cells #[.int .i64 s, .int .i64 t, .int .i64 a] 23)).below hb)
  have GE0 : IsS23 w ((w.alloc (.cells #[.int .i64 s, .int .i64 t, .int .i64 a] 23)).alloc (.cells #[.int .i64 s, .int .i64 t, .int .i64 a] 23)) (w.heap.size + 1) s t a := by
    have h := IsS23.new w (w.alloc (.cells #[.int .i64 s, .int .i64 t, .int .i64 a] 23)) s t a ((Below.refl _ _).alloc (Nat.le_refl _) _)
    simp only [World.size_alloc] at h
    exact h
  have GE := Aside0.mk (GE0.below hb)
  have HB1 := Aside0.mk (below_step (((Below.refl _ _).alloc (Nat.le_refl _) _).alloc (by simp) _) hb)
  clear GE0 hb
  obtain ⟨A, hA⟩ : ∃ A, A = splitN s t n := ⟨_, rfl⟩
  rw [← hA]
  clear hA
  go_wp2
  have GD2 := Aside0.mk (GD.out.alloc (.cells #[.int .i64 s, .int .i64 A, .int .i64 0] 23))
  have GE2 := Aside0.mk (GE.out.alloc (.cells #[.int .i64 s, .int .i64 A, .int .i64 0] 23))
  have GO2 := Aside0.mk (IsS23.new w w1 s A 0 HB1.out)
  have HB2 := Aside0.mk (below_alloc HB1.out (.cells #[.int .i64 s, .int .i64 A, .int .i64 0] 23))
  have hg1 : w.heap.size + 1 < w1.heap.size := GE.out.lt
  obtain ⟨g6, hg6⟩ : ∃ g, g = w1.heap.size := ⟨_, rfl⟩
  rw [← hg6] at GO2 hg1 ⊢
  generalize w1.alloc (.cells #[.int .i64 s, .int .i64 A, .int .i64 0] 23) = w2 at GD2 GE2 GO2 HB2 ⊢
  clear GD GE HB1 hg6
  have n1 : ¬ g6 = w.heap.size := by omega
  have n2 : ¬ g6 = w.heap.size + 1 := by omega
  have n3 : ¬ w.heap.size = g6 := by omega
  have n4 : ¬ w.heap.size + 1 = g6 := by omega
  clear hg1
  go_loopg [7] n (fun kq v7 w' => ∃ (i : Nat) (ai oi : Int), v7 = .int .i64 i ∧ Aside0 (i + kq = n) ∧ Aside0 (ai = wrap64 (a + i)) ∧ Aside0 (IsS23 w w' w.heap.size s t a) ∧ Aside0 (IsS23 w w' (w.heap.size + 1) s t ai) ∧ Aside0 (IsS23 w w' g6 s A oi) ∧ Aside0 (Below w.heap.size w w'))
  case atStart => exact ⟨0, a, 0, rfl, ⟨by omega⟩, ⟨by rw [← HWA.out]; congr 1; rw [HWA.out]; omega⟩, GD2, GE2, GO2, HB2⟩
  case round =>
    clear GD2 GE2 GO2 HB2
    obtain ⟨i, ai, oi, rfl, HI, HAI, GD, GE, GO, HB⟩ := hrel
    obtain ⟨hI0, _⟩ := GD.out
    have c0 := cellS23_0 hI0
    have c1 := cellS23_1 hI0
    have c2 := cellS23_2 hI0
    obtain ⟨hI1, _⟩ := GE.out
    have e0 := cellS23_0 hI1
    have e1 := cellS23_1 hI1
    have e2 := cellS23_2 hI1
    clear hI0 hI1
    by_cases hlt : i < n
    · as_aux_lemma =>
        have d1 : decide ((i : Int) < (n : Int)) = true := decide_eq_true (by omega)
        go_wp2_with fail
        refine (Next_calls s t ai _).mono ?_
        rintro e w3 ⟨rfl, hb⟩
        have hw1 : wordP s t (uw ai + 1) = wordP s t (uw a + uw (i : Int) + 1) := word_at (by rw [HAI.out]; exact row_a a i (by omega))
        have HW2 : Aside0 (rng_Word.f s t a (i : Int) = some (wrap64 ((wordP s t (uw ai + 1) : Nat) : Int))) := ⟨by rw [rng_Word_eq, hw1]⟩
        generalize wrap64 ((wordP s t (uw ai + 1) : Nat) : Int) = X at HW2 ⊢
        obtain ⟨aj, haj⟩ : ∃ x, x = wrap64 (ai + 1) := ⟨_, rfl⟩
        have HAJ := Aside0.mk haj
        rw [← haj]
        clear hw1
        have GD3 := Aside0.mk ((GD.out.below hb).alloc (.cells #[.int .i64 s, .int .i64 t, .int .i64 aj] 23))
        have GE3 := Aside0.mk ((GE.out.below hb).alloc (.cells #[.int .i64 s, .int .i64 t, .int .i64 aj] 23))
        have GO3 := Aside0.mk ((GO.out.below hb).alloc (.cells #[.int .i64 s, .int .i64 t, .int .i64 aj] 23))
        have hBB := below_step HB.out hb
        have GN3 := Aside0.mk (IsS23.new w w3 s t aj hBB)
        have HB3 := Aside0.mk (below_alloc hBB (.cells #[.int .i64 s, .int .i64 t, .int .i64 aj] 23))
        have hgo : g6 < w3.heap.size := (GO.out.below hb).lt
        have hge : w.heap.size + 1 < w3.heap.size := (GE.out.below hb).lt
        clear hBB hb c0 c1 c2 e0 e1 e2 haj GD GE GO HB
        obtain ⟨hI2, _⟩ := GO3.out
        have o0 := cellS23_0 hI2
        have o1 := cellS23_1 hI2
        have o2 := cellS23_2 hI2
        clear hI2
        go_wp2_with fail
        refine (Next_calls s A oi _).mono ?_
        rintro e w4 ⟨rfl, hb⟩
        obtain ⟨oj, hoj⟩ : ∃ x, x = wrap64 (oi + 1) := ⟨_, rfl⟩
        rw [← hoj]
        clear hoj
        have GD4 := Aside0.mk (GD3.out.below hb)
        have GE4 := Aside0.mk (GE3.out.below hb)
        have GO4 := Aside0.mk (GO3.out.below hb)
        have GN4 := Aside0.mk (GN3.out.below hb)
        have HB4 := Aside0.mk (below_step HB3.out hb)
        clear hb o0 o1 o2 GD3 GE3 GO3 GN3 HB3
        obtain ⟨g9, hg9⟩ : ∃ g, g = w3.heap.size := ⟨_, rfl⟩
        rw [← hg9] at GN4 hgo hge ⊢
        clear hg9
        have n5 : ¬ g6 = g9 := by omega
        have n6 : ¬ g9 = g6 := by omega
        have n7 : ¬ g9 = w.heap.size + 1 := by omega
        have n8 : ¬ w.heap.size + 1 = g9 := by omega
        have n9 : ¬ g9 = w.heap.size := by omega
        have n10 : ¬ w.heap.size = g9 := by omega
        clear hgo hge
        obtain ⟨hI2, _⟩ := GO4.out
        have o0 := cellS23_0 hI2
        have o1 := cellS23_1 hI2
        have o2 := cellS23_2 hI2
        have f0 := blk_frozen hI2 0
        have f1 := blk_frozen hI2 1
        have f2 := blk_frozen hI2 2
        obtain ⟨hI3, _⟩ := GD4.out
        have c0 := cellS23_0 hI3
        have c1 := cellS23_1 hI3
        have c2 := cellS23_2 hI3
        clear hI2 hI3
        go_wp2_with fail
        refine (rng_Word.calls s t a (i : Int) X _ HW2.out).mono ?_
        rintro e w5 ⟨rfl, hb⟩
        have GD5 := Aside0.mk ((((GD4.out.far (p := ⟨g6, 0, none⟩) n3 _).far (p := ⟨g6, 1, none⟩) n3 _).far (p := ⟨g6, 2, none⟩) n3 _).below hb)
        have GE5 := Aside0.mk ((((GE4.out.far (p := ⟨g6, 0, none⟩) n4 _).far (p := ⟨g6, 1, none⟩) n4 _).far (p := ⟨g6, 2, none⟩) n4 _).below hb)
        have GN5 := Aside0.mk ((((GN4.out.far (p := ⟨g6, 0, none⟩) n6 _).far (p := ⟨g6, 1, none⟩) n6 _).far (p := ⟨g6, 2, none⟩) n6 _).below hb)
        have GO5 := Aside0.mk ((((GO4.out.set_0 s).set_1 A).set_2 oj).below hb)
        have HB5 := Aside0.mk (below_step (below_set (below_set (below_set HB4.out GO4.out.ge) GO4.out.ge) GO4.out.ge) hb)
        clear hb o0 o1 o2 f0 f1 f2 c0 c1 c2 GD4 GE4 GO4 GN4 HB4
        obtain ⟨hI2, _⟩ := GN5.out
        have o0 := cellS23_0 hI2
        have o1 := cellS23_1 hI2
        have o2 := cellS23_2 hI2
        obtain ⟨hI3, _⟩ := GD5.out
        have c0 := cellS23_0 hI3
        have c1 := cellS23_1 hI3
        have c2 := cellS23_2 hI3
        obtain ⟨hI4, _⟩ := GE5.out
        have e0 := cellS23_0 hI4
        have e1 := cellS23_1 hI4
        have e2 := cellS23_2 hI4
        have f0 := blk_frozen hI4 0
        have f1 := blk_frozen hI4 1
        have f2 := blk_frozen hI4 2
        clear hI2 hI3 hI4
        have hne : (aj != wrap64 (ai + 1)) = false := by rw [HAJ.out]; simp
        go_wp2
        go_roundg (gk - 1)
        case measure => have := HI.out; omega
        case rel => exact ⟨i + 1, aj, oj, by go_num, ⟨by have := HI.out; omega⟩, ⟨by rw [HAJ.out, HAI.out]; exact wrap_step a i⟩, ⟨((GD5.out.far (p := ⟨w.heap.size + 1, 0, none⟩) (Nat.succ_ne_self _).symm _).far (p := ⟨w.heap.size + 1, 1, none⟩) (Nat.succ_ne_self _).symm _).far (p := ⟨w.heap.size + 1, 2, none⟩) (Nat.succ_ne_self _).symm _⟩, ⟨((GE5.out.set_0 s).set_1 t).set_2 aj⟩, ⟨((GO5.out.far (p := ⟨w.heap.size + 1, 0, none⟩) n2 _).far (p := ⟨w.heap.size + 1, 1, none⟩) n2 _).far (p := ⟨w.heap.size + 1, 2, none⟩) n2 _⟩, ⟨below_set (below_set (below_set HB5.out (Nat.le_succ _)) (Nat.le_succ _)) (Nat.le_succ _)⟩⟩
    · as_aux_lemma =>
        have d1 : decide ((i : Int) < (n : Int)) = false := decide_eq_false (by omega)
        have hin : i = n := by have := HI.out; omega
        subst hin
        have hX : wordP s t (uw ai + uw 0 + 1) = wordP s t (uw a + uw (i : Int) + 1) := word_at (by rw [HAI.out]; exact row_b a i (by omega))
        have hY : wordP s t (uw ai + uw (-(i : Int)) + 1) = wordP s t (uw a + uw 0 + 1) := word_at (by rw [HAI.out]; exact row_c a i (by omega))
        obtain ⟨X, hX2⟩ : ∃ X : Int, X = wrap64 ((wordP s t (uw a + uw (i : Int) + 1) : Nat) : Int) := ⟨_, rfl⟩
        obtain ⟨Y, hY2⟩ : ∃ Y : Int, Y = wrap64 ((wordP s t (uw a + uw 0 + 1) : Nat) : Int) := ⟨_, rfl⟩
        have HX1 : Aside0 (rng_Word.f s t ai 0 = some X) := ⟨by rw [rng_Word_eq, hX, hX2]⟩
        have HX2 : Aside0 (rng_Word.f s t a (i : Int) = some X) := ⟨by rw [rng_Word_eq, hX2]⟩
        have HY1 : Aside0 (rng_Word.f s t ai (-(i : Int)) = some Y) := ⟨by rw [rng_Word_eq, hY, hY2]⟩
        have HY2 : Aside0 (rng_Word.f s t a 0 = some Y) := ⟨by rw [rng_Word_eq, hY2]⟩
        clear hX hY hX2 hY2 hlt
        have hneg2 : IntKind.i64.wrap (-(i : Int)) = -(i : Int) := by rw [IntKind.wrap_i64]; omega
        have hneg1 : wrap64 (-(i : Int)) = -(i : Int) := by unfold wrap64; omega
        go_wp2
        refine start_ (n := 19) (S := fun w' => w'.cell? ⟨w.heap.size, 0, none⟩ = some (.int .i64 s) ∧ w'.cell? ⟨w.heap.size, 1, none⟩ = some (.int .i64 t) ∧ w'.cell? ⟨w.heap.size, 2, none⟩ = some (.int .i64 a) ∧ w'.cell? ⟨w.heap.size + 1, 0, none⟩ = some (.int .i64 s) ∧ w'.cell? ⟨w.heap.size + 1, 1, none⟩ = some (.int .i64 t) ∧ w'.cell? ⟨w.heap.size + 1, 2, none⟩ = some (.int .i64 ai)) (ds := []) #[false, false, false, false, false, false, false, false, false, false, false, false, false, false, false, false, false, false, false] (by kernel_rfl) rfl rfl ⟨c0, c1, c2, e0, e1, e2⟩ (fun hHeld => ?_)
        refine with_tabW F6Rtab12 F6Rbits12 (fun HT_ HW_ => ?_)
        refine one_ (i := 0) (N := some 59) #[true, false, false, false, false, false, false, false, false, false, false, false, false, false, false, false, false, false, false] rfl rfl (one_of HT_.out (by kernel_rfl)) (by decide) (fun K hK => ?_)
        refine goes_ Try.func14 (by kernel_rfl) rfl #[] (by rfl) rfl rfl (by simp) ?_
        refine (alive_calls _).mono ?_
        rintro e w3 ⟨rfl, hb⟩
        refine ⟨_, rfl, ?_⟩
        have GD3 := Aside0.mk (GD.out.drew.below hb)
        have GE3 := Aside0.mk (GE.out.drew.below hb)
        have HB3 := Aside0.mk (below_step (Below.drew HB.out) hb)
        obtain ⟨hA3, _⟩ := GD3.out
        obtain ⟨hB3, _⟩ := GE3.out
        refine hK.out _ _ ⟨cellS23_0 hA3, cellS23_1 hA3, cellS23_2 hA3, cellS23_0 hB3, cellS23_1 hB3, cellS23_2 hB3⟩ (fun hHeld => ?_)
        clear hK K
        refine norm_ (a' := ?_) ?_ ?_
        rotate_left
        · show Act.put _ (some 59) _ = _
          simp only [Act.put, List.setIfInBounds_toArray, List.set_cons_zero, List.set_cons_succ, i64_w, i32_w]
          rfl
        refine pure_ (i := 1) (N := some 60) (v := ?_) (a' := ?_) #[true, true, false, false, false, false, false, false, false, false, false, false, false, false, false, false, false, false, false] rfl rfl (any_of HT_.out (by kernel_rfl)) (fun _ _ _ h => h) (Or.inl ⟨by rfl, ?_⟩) ?_ ?_
        rotate_left
        · intro w'
          go_simp
          with_reducible rfl
        rotate_left
        · simp only [Act.put, List.setIfInBounds_toArray, List.set_cons_zero, List.set_cons_succ, i64_w, i32_w]
          rfl
        refine pure_ (i := 5) (N := some 64) (v := ?_) (a' := ?_) #[true, true, false, false, false, true, false, false, false, false, false, false, false, false, false, false, false, false, false] rfl rfl (any_of HT_.out (by kernel_rfl)) (fun _ _ _ h => h) (Or.inl ⟨by rfl, ?_⟩) ?_ ?_
        rotate_left
        · intro w'
          go_simp
          with_reducible rfl
        rotate_left
        · simp only [Act.put, List.setIfInBounds_toArray, List.set_cons_zero, List.set_cons_succ, i64_w, i32_w]
          rfl
        refine take_ (i := 2) (N := some 61) (v := ?_) (a' := ?_) #[true, true, true, false, false, true, false, false, false, false, false, false, false, false, false, false, false, false, false] rfl rfl (take_ofW HT_.out HW_.out (by kernel_rfl)) (fun _ _ _ h => h) (Or.inl ⟨by rfl, ?_⟩) hHeld ?_ ?_
        rotate_left
        · rintro w' ⟨s0, s1, s2, s3, s4, s5⟩
          go_simp
          with_reducible rfl
        rotate_left
        · simp only [Act.put, List.setIfInBounds_toArray, List.set_cons_zero, List.set_cons_succ, i64_w, i32_w]
          rfl
        refine take_ (i := 4) (N := some 63) (v := ?_) (a' := ?_) #[true, true, true, false, true, true, false, false, false, false, false, false, false, false, false, false, false, false, false] rfl rfl (take_ofW HT_.out HW_.out (by kernel_rfl)) (fun _ _ _ h => h) (Or.inl ⟨by rfl, ?_⟩) hHeld ?_ ?_
        rotate_left
        · rintro w' ⟨s0, s1, s2, s3, s4, s5⟩
          go_simp
          with_reducible rfl
        rotate_left
        · simp only [Act.put, List.setIfInBounds_toArray, List.set_cons_zero, List.set_cons_succ, i64_w, i32_w]
          rfl
        refine one_ (i := 3) (N := some 62) #[true, true, true, true, true, true, false, false, false, false, false, false, false, false, false, false, false, false, false] rfl rfl (one_of HT_.out (by kernel_rfl)) (by decide) (fun K hK => ?_)
        refine goes_ Try.func13 (by kernel_rfl) rfl #[.agg #[.int .i64 s, .int .i64 t, .int .i64 ai], .int .i64 0] (by rfl) rfl rfl (by simp only [List.map_toArray, List.map_cons, List.map_nil]; rfl) ?_
        with_reducible refine (rng_Word.calls s t ai 0 X _ HX1.out).mono ?_
        rintro e w4 ⟨rfl, hb⟩
        refine ⟨_, rfl, ?_⟩
        have GD4 := Aside0.mk (GD3.out.below hb)
        have GE4 := Aside0.mk (GE3.out.below hb)
        have HB4 := Aside0.mk (below_step HB3.out hb)
        obtain ⟨hA4, _⟩ := GD4.out
        obtain ⟨hB4, _⟩ := GE4.out
        refine hK.out _ _ ⟨cellS23_0 hA4, cellS23_1 hA4, cellS23_2 hA4, cellS23_0 hB4, cellS23_1 hB4, cellS23_2 hB4⟩ (fun hHeld => ?_)
        clear hK K
        refine norm_ (a' := ?_) ?_ ?_
        rotate_left
        · show Act.put _ (some 62) _ = _
          simp only [Act.put, List.setIfInBounds_toArray, List.set_cons_zero, List.set_cons_succ, i64_w, i32_w]
          rfl
        refine one_ (i := 6) (N := some 65) #[true, true, true, true, true, true, true, false, false, false, false, false, false, false, false, false, false, false, false] rfl rfl (one_of HT_.out (by kernel_rfl)) (by decide) (fun K hK => ?_)
        refine goes_ Try.func13 (by kernel_rfl) rfl #[.agg #[.int .i64 s, .int .i64 t, .int .i64 a], .int .i64 (i : Int)] (by rfl) rfl rfl (by simp only [List.map_toArray, List.map_cons, List.map_nil]; rfl) ?_
        with_reducible refine (rng_Word.calls s t a (i : Int) X _ HX2.out).mono ?_
        rintro e w5 ⟨rfl, hb⟩
        refine ⟨_, rfl, ?_⟩
        have GD5 := Aside0.mk (GD4.out.below hb)
        have GE5 := Aside0.mk (GE4.out.below hb)
        have HB5 := Aside0.mk (below_step HB4.out hb)
        obtain ⟨hA5, _⟩ := GD5.out
        obtain ⟨hB5, _⟩ := GE5.out
        refine hK.out _ _ ⟨cellS23_0 hA5, cellS23_1 hA5, cellS23_2 hA5, cellS23_0 hB5, cellS23_1 hB5, cellS23_2 hB5⟩ (fun hHeld => ?_)
        clear hK K
        refine norm_ (a' := ?_) ?_ ?_
        rotate_left
        · show Act.put _ (some 65) _ = _
          simp only [Act.put, List.setIfInBounds_toArray, List.set_cons_zero, List.set_cons_succ, i64_w, i32_w]
          rfl
        refine pure_ (i := 7) (N := some 66) (v := .bool true) (a' := ?ac1) #[true, true, true, true, true, true, true, true, false, false, false, false, false, false, false, false, false, false, false] rfl rfl (any_of HT_.out (by kernel_rfl)) (fun _ _ _ h => h) (Or.inl ⟨by rfl, ?run1⟩) ?ha1 ?hh1
        case run1 =>
          intro w'
          as_aux_lemma => (go_simp)
        case ha1 =>
          simp only [Act.put, List.setIfInBounds_toArray, List.set_cons_zero, List.set_cons_succ, i64_w, i32_w]
          rfl
        refine pure_ (i := 8) (N := some 67) (v := ?_) (a' := ?_) #[true, true, true, true, true, true, true, true, true, false, false, false, false, false, false, false, false, false, false] rfl rfl (any_of HT_.out (by kernel_rfl)) (fun _ _ _ h => h) (Or.inl ⟨by rfl, ?_⟩) ?_ ?_
        rotate_left
        · intro w'
          go_simp
          with_reducible rfl
        rotate_left
        · simp only [Act.put, List.setIfInBounds_toArray, List.set_cons_zero, List.set_cons_succ, i64_w, i32_w]
          rfl
        refine pure_ (i := 9) (N := some 68) (v := ?_) (a' := ?_) #[true, true, true, true, true, true, true, true, true, true, false, false, false, false, false, false, false, false, false] rfl rfl (any_of HT_.out (by kernel_rfl)) (fun _ _ _ h => h) (Or.inl ⟨by rfl, ?_⟩) ?_ ?_
        rotate_left
        · intro w'
          go_simp
          with_reducible rfl
        rotate_left
        · simp only [Act.put, List.setIfInBounds_toArray, List.set_cons_zero, List.set_cons_succ, i64_w, i32_w]
          rfl
        refine pure_ (i := 11) (N := some 70) (v := ?_) (a' := ?_) #[true, true, true, true, true, true, true, true, true, true, false, true, false, false, false, false, false, false, false] rfl rfl (any_of HT_.out (by kernel_rfl)) (fun _ _ _ h => h) (Or.inl ⟨by rfl, ?_⟩) ?_ ?_
        rotate_left
        · intro w'
          go_simp
          with_reducible rfl
        rotate_left
        · simp only [Act.put, List.setIfInBounds_toArray, List.set_cons_zero, List.set_cons_succ, i64_w, i32_w]
          rfl
        refine pure_ (i := 12) (N := some 71) (v := .int .i64 (-(i : Int))) (a' := ?ac2) #[true, true, true, true, true, true, true, true, true, true, false, true, true, false, false, false, false, false, false] rfl rfl (any_of HT_.out (by kernel_rfl)) (fun _ _ _ h => h) (Or.inl ⟨by rfl, ?run2⟩) ?ha2 ?hh2
        case run2 =>
          intro w'
          as_aux_lemma => (go_simp)
        case ha2 =>
          simp only [Act.put, List.setIfInBounds_toArray, List.set_cons_zero, List.set_cons_succ, i64_w, i32_w]
          rfl
        refine take_ (i := 10) (N := some 69) (v := ?_) (a' := ?_) #[true, true, true, true, true, true, true, true, true, true, true, true, true, false, false, false, false, false, false] rfl rfl (take_ofW HT_.out HW_.out (by kernel_rfl)) (fun _ _ _ h => h) (Or.inl ⟨by rfl, ?_⟩) hHeld ?_ ?_
        rotate_left
        · rintro w' ⟨s0, s1, s2, s3, s4, s5⟩
          go_simp
          with_reducible rfl
        rotate_left
        · simp only [Act.put, List.setIfInBounds_toArray, List.set_cons_zero, List.set_cons_succ, i64_w, i32_w]
          rfl
        refine take_ (i := 14) (N := some 73) (v := ?_) (a' := ?_) #[true, true, true, true, true, true, true, true, true, true, true, true, true, false, true, false, false, false, false] rfl rfl (take_ofW HT_.out HW_.out (by kernel_rfl)) (fun _ _ _ h => h) (Or.inl ⟨by rfl, ?_⟩) hHeld ?_ ?_
        rotate_left
        · rintro w' ⟨s0, s1, s2, s3, s4, s5⟩
          go_simp
          with_reducible rfl
        rotate_left
        · simp only [Act.put, List.setIfInBounds_toArray, List.set_cons_zero, List.set_cons_succ, i64_w, i32_w]
          rfl
        refine one_ (i := 13) (N := some 72) #[true, true, true, true, true, true, true, true, true, true, true, true, true, true, true, false, false, false, false] rfl rfl (one_of HT_.out (by kernel_rfl)) (by decide) (fun K hK => ?_)
        refine goes_ Try.func13 (by kernel_rfl) rfl #[.agg #[.int .i64 s, .int .i64 t, .int .i64 ai], .int .i64 (-(i : Int))] (by rfl) rfl rfl (by simp only [List.map_toArray, List.map_cons, List.map_nil]; rfl) ?_
        with_reducible refine (rng_Word.calls s t ai (-(i : Int)) Y _ HY1.out).mono ?_
        rintro e w6 ⟨rfl, hb⟩
        refine ⟨_, rfl, ?_⟩
        have GD6 := Aside0.mk (GD5.out.below hb)
        have GE6 := Aside0.mk (GE5.out.below hb)
        have HB6 := Aside0.mk (below_step HB5.out hb)
        obtain ⟨hA6, _⟩ := GD6.out
        obtain ⟨hB6, _⟩ := GE6.out
        refine hK.out _ _ ⟨cellS23_0 hA6, cellS23_1 hA6, cellS23_2 hA6, cellS23_0 hB6, cellS23_1 hB6, cellS23_2 hB6⟩ (fun hHeld => ?_)
        clear hK K
        refine norm_ (a' := ?_) ?_ ?_
        rotate_left
        · show Act.put _ (some 72) _ = _
          simp only [Act.put, List.setIfInBounds_toArray, List.set_cons_zero, List.set_cons_succ, i64_w, i32_w]
          rfl
        refine one_ (i := 15) (N := some 74) #[true, true, true, true, true, true, true, true, true, true, true, true, true, true, true, true, false, false, false] rfl rfl (one_of HT_.out (by kernel_rfl)) (by decide) (fun K hK => ?_)
        refine goes_ Try.func13 (by kernel_rfl) rfl #[.agg #[.int .i64 s, .int .i64 t, .int .i64 a], .int .i64 0] (by rfl) rfl rfl (by simp only [List.map_toArray, List.map_cons, List.map_nil]; rfl) ?_
        with_reducible refine (rng_Word.calls s t a 0 Y _ HY2.out).mono ?_
        rintro e w7 ⟨rfl, hb⟩
        refine ⟨_, rfl, ?_⟩
        have GD7 := Aside0.mk (GD6.out.below hb)
        have GE7 := Aside0.mk (GE6.out.below hb)
        have HB7 := Aside0.mk (below_step HB6.out hb)
        obtain ⟨hA7, _⟩ := GD7.out
        obtain ⟨hB7, _⟩ := GE7.out
        refine hK.out _ _ ⟨cellS23_0 hA7, cellS23_1 hA7, cellS23_2 hA7, cellS23_0 hB7, cellS23_1 hB7, cellS23_2 hB7⟩ (fun hHeld => ?_)
        clear hK K
        refine norm_ (a' := ?_) ?_ ?_
        rotate_left
        · show Act.put _ (some 74) _ = _
          simp only [Act.put, List.setIfInBounds_toArray, List.set_cons_zero, List.set_cons_succ, i64_w, i32_w]
          rfl
        refine pure_ (i := 16) (N := some 75) (v := .bool true) (a' := ?ac3) #[true, true, true, true, true, true, true, true, true, true, true, true, true, true, true, true, true, false, false] rfl rfl (any_of HT_.out (by kernel_rfl)) (fun _ _ _ h => h) (Or.inl ⟨by rfl, ?run3⟩) ?ha3 ?hh3
        case run3 =>
          intro w'
          as_aux_lemma => (go_simp)
        case ha3 =>
          simp only [Act.put, List.setIfInBounds_toArray, List.set_cons_zero, List.set_cons_succ, i64_w, i32_w]
          rfl
        refine pure_ (i := 17) (N := some 76) (v := ?_) (a' := ?_) #[true, true, true, true, true, true, true, true, true, true, true, true, true, true, true, true, true, true, false] rfl rfl (any_of HT_.out (by kernel_rfl)) (fun _ _ _ h => h) (Or.inl ⟨by rfl, ?_⟩) ?_ ?_
        rotate_left
        · intro w'
          go_simp
          with_reducible rfl
        rotate_left
        · simp only [Act.put, List.setIfInBounds_toArray, List.set_cons_zero, List.set_cons_succ, i64_w, i32_w]
          rfl
        refine pure_ (i := 18) (N := some 4) (v := ?_) (a' := ?_) #[true, true, true, true, true, true, true, true, true, true, true, true, true, true, true, true, true, true, true] rfl rfl (any_of HT_.out (by kernel_rfl)) (fun _ _ _ h => h) (Or.inl ⟨by rfl, ?_⟩) ?_ ?_
        rotate_left
        · intro w'
          go_simp
          with_reducible rfl
        rotate_left
        · simp only [Act.put, List.setIfInBounds_toArray, List.set_cons_zero, List.set_cons_succ, i64_w, i32_w]
          rfl
        refine done_ (done_of HT_.out (by kernel_rfl)) ?_
        go_wp2
        go_ret
        exact ⟨rfl, HB7.out⟩

end Go.Proofs.Ytpobladocccnmaa
