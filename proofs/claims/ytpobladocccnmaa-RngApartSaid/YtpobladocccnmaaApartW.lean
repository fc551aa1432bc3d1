/- The law RngApart, walked: it comes to true, whatever the seed, the stream, the place and the two parts. -/
import Derived.Test.YtpobladocccnmaaAlive
import Derived.Outline
namespace Go.Proofs.Ytpobladocccnmaa
open Go.RowKit Mix PBase
open Go.Proofs.YtpobladocccnmaaW.PrintWords Go.Proofs.YtpobladocccnmaaW.PrintLast Go.Proofs.YtpobladocccnmaaW.PrintMore
set_option linter.unusedVariables false
set_option linter.unusedSimpArgs false

theorem wrap_nat_inj {x y : Nat} (hx : x < 18446744073709551616) (hy : y < 18446744073709551616) (h : wrap64 (x : Int) = wrap64 (y : Int)) : x = y := by
  unfold wrap64 at h; omega

theorem xor_cancel {a x y : Nat} (h : a ^^^ x = a ^^^ y) : x = y := by
  have h1 : a ^^^ (a ^^^ x) = a ^^^ (a ^^^ y) := by rw [h]
  simpa [← Nat.xor_assoc] using h1

theorem add_left_cancel_mod {a x y : Nat} (hx : x < 18446744073709551616) (hy : y < 18446744073709551616) (h : (x + a) % 18446744073709551616 = (y + a) % 18446744073709551616) : x = y := by
  omega

theorem keyN_inj {s x y : Int} (hx : -9223372036854775808 ≤ x ∧ x ≤ 9223372036854775807) (hy : -9223372036854775808 ≤ y ∧ y ≤ 9223372036854775807) (h : keyN s x = keyN s y) : x = y := by
  unfold keyN at h
  have h1 := mix_inj (Nat.xor_lt_two_pow (n := 64) (uw_lt s) (mix_lt _)) (Nat.xor_lt_two_pow (n := 64) (uw_lt s) (mix_lt _)) h
  have h2 := mix_inj (Nat.mod_lt _ (by decide)) (Nat.mod_lt _ (by decide)) (xor_cancel h1)
  exact uw_inj hx hy (add_left_cancel_mod (uw_lt x) (uw_lt y) h2)

theorem wordP_stream {s x y : Int} {p : Nat} (hx : -9223372036854775808 ≤ x ∧ x ≤ 9223372036854775807) (hy : -9223372036854775808 ≤ y ∧ y ≤ 9223372036854775807) (h : wordP s x p = wordP s y p) : x = y := by
  unfold wordP at h
  have h1 := mix_inj (Nat.mod_lt _ (by decide)) (Nat.mod_lt _ (by decide)) h
  exact keyN_inj hx hy (add_left_cancel_mod (keyN_lt s x) (keyN_lt s y) h1)

theorem splitN_inj {s t k m : Int} (hk : -9223372036854775808 ≤ k ∧ k ≤ 9223372036854775807) (hm : -9223372036854775808 ≤ m ∧ m ≤ 9223372036854775807) (h : splitN s t k = splitN s t m) : k = m := by
  unfold splitN at h
  have h0 := wrap_nat_inj (mix_lt _) (mix_lt _) h
  have h1 := mix_inj (Nat.xor_lt_two_pow (n := 64) (keyN_lt s t) (mix_lt _)) (Nat.xor_lt_two_pow (n := 64) (keyN_lt s t) (mix_lt _)) h0
  have h2 := mix_inj (Nat.mod_lt _ (by decide)) (Nat.mod_lt _ (by decide)) (xor_cancel h1)
  exact uw_inj hk hm (add_left_cancel_mod (uw_lt k) (uw_lt m) h2)

theorem beq_of_iff {x y : Int} {p : Prop} (b : Bool) (hb : b = true ↔ p) (h : x = y ↔ p) : (x == y) = b := by
  cases b
  · exact beq_eq_false_iff_ne.2 (fun e => by have := hb.2 (h.1 e); cases this)
  · exact beq_iff_eq.2 (h.2 (hb.1 rfl))

theorem words_apart (s A B : Int) (p : Nat) (hA : -9223372036854775808 ≤ A ∧ A ≤ 9223372036854775807) (hB : -9223372036854775808 ≤ B ∧ B ≤ 9223372036854775807) :
    (wrap64 ((wordP s A p : Nat) : Int) == wrap64 ((wordP s B p : Nat) : Int)) = (A == B) :=
  beq_of_iff (A == B) (by simp) ⟨fun h => wordP_stream hA hB (wrap_nat_inj (wordP_lt _ _ _) (wordP_lt _ _ _) h), fun h => by rw [h]⟩

def F3RT6 : Bool × List (List Nat × List Nat) := (true, [([], []), ([], []), ([0, 1], [0, 1]), ([], []), ([], []), ([3, 4, 2], [3, 4]), ([2, 5], [2, 5]), ([], []), ([7], [7]), ([], []), ([9], [9]), ([8, 10], [8, 10]), ([6, 11], [6, 11])])
def F3RB6 : List Nat := [0, 0, 3, 0, 0, 31, 63, 0, 128, 0, 512, 1920, 4095]
theorem F3Rtab6 : rtab .any (opsOf Try.f3 6) = F3RT6 := by kernel_rfl
theorem F3Rbits6 : waitsOk F3RT6.2 F3RB6 = true := by kernel_rfl
set_option maxHeartbeats 1000000 in
set_option maxRecDepth 100000 in
theorem RngApart_calls (s t a k m : Int) (w : World) (hk : -9223372036854775808 ≤ k ∧ k ≤ 9223372036854775807) (hm : -9223372036854775808 ≤ m ∧ m ≤ 9223372036854775807) :
    Calls Try.prog 3 #[.agg #[.int .i64 s, .int .i64 t, .int .i64 a], .int .i64 k, .int .i64 m] w fun e w' => e = .returned (.bool true) ∧ Below w.heap.size w w' := by
  obtain ⟨A, hA⟩ : ∃ A, A = splitN s t k := ⟨_, rfl⟩
  obtain ⟨B, hB⟩ : ∃ B, B = splitN s t m := ⟨_, rfl⟩
  obtain ⟨q, hq⟩ : ∃ q, q = (A == B) := ⟨_, rfl⟩
  have HA : Aside0 (rng_Split.f s t a k = some (s, A, 0)) := ⟨by rw [hA]; exact rng_Split_eq s t a k⟩
  have HBb : Aside0 (rng_Split.f s t a m = some (s, B, 0)) := ⟨by rw [hB]; exact rng_Split_eq s t a m⟩
  have HQ : Aside0 (∀ p : Nat, (wrap64 ((wordP s A p : Nat) : Int) == wrap64 ((wordP s B p : Nat) : Int)) = q) := ⟨fun p => by rw [hq, hA, hB]; exact words_apart s _ _ p (by unfold splitN; exact wrap64_range _) (by unfold splitN; exact wrap64_range _)⟩
  have HKM : Aside0 ((k == m) = q) := ⟨by rw [hq, hA, hB]; exact beq_of_iff (p := splitN s t k = splitN s t m) _ (by simp) ⟨fun h => by rw [h], fun h => splitN_inj hk hm h⟩⟩
  have HAB : Aside0 ((A == B) = q) := ⟨hq.symm⟩
  clear hA hB hq hk hm
  go_enter Try.func3, Try.ntmps3
  go_wp2_with fail
  refine (rng_Split.calls s t a k s A 0 _ HA.out).mono ?_
  rintro e w1 ⟨rfl, hb⟩
  have G1 := Aside0.mk ((IsS23.new w w s t a (Below.refl _ _)).below hb)
  have HB1 := Aside0.mk (below_step ((Below.refl _ _).alloc (Nat.le_refl _) _) hb)
  clear hb
  have hlt1 : w.heap.size < w1.heap.size := G1.out.lt
  obtain ⟨hI0, _⟩ := G1.out
  have c0 := cellS23_0 hI0
  have c1 := cellS23_1 hI0
  have c2 := cellS23_2 hI0
  clear hI0
  go_wp2_with fail
  refine (rng_Split.calls s t a m s B 0 _ HBb.out).mono ?_
  rintro e w2 ⟨rfl, hb⟩
  have G2 := Aside0.mk ((G1.out.alloc (Obj.cells #[.int .i64 s, .int .i64 A, .int .i64 0] 23)).below hb)
  have GA := Aside0.mk ((IsS23.new w w1 s A 0 HB1.out).below hb)
  have HB2 := Aside0.mk (below_step (below_alloc HB1.out (Obj.cells #[.int .i64 s, .int .i64 A, .int .i64 0] 23)) hb)
  clear hb c0 c1 c2 hlt1 G1
  go_wp2
  have G3 := Aside0.mk (G2.out.alloc (Obj.cells #[.int .i64 s, .int .i64 B, .int .i64 0] 23))
  have GA3 := Aside0.mk (GA.out.alloc (Obj.cells #[.int .i64 s, .int .i64 B, .int .i64 0] 23))
  have GB3 := Aside0.mk (IsS23.new w w2 s B 0 HB2.out)
  have HB3 := Aside0.mk (below_alloc HB2.out (Obj.cells #[.int .i64 s, .int .i64 B, .int .i64 0] 23))
  have hg1 : w1.heap.size < w2.heap.size := GA.out.lt
  obtain ⟨g7, hg7⟩ : ∃ g, g = w1.heap.size := ⟨_, rfl⟩
  obtain ⟨g8, hg8⟩ : ∃ g, g = w2.heap.size := ⟨_, rfl⟩
  rw [← hg7] at GA3 ⊢
  rw [← hg8] at GB3 ⊢
  generalize w2.alloc (Obj.cells #[Value.int IntKind.i64 s, Value.int IntKind.i64 B, Value.int IntKind.i64 0] 23) = w3 at G3 GA3 GB3 HB3 ⊢
  clear G2 GA HB1 HB2 hg7 hg8 hg1
  go_loopg [9] 8 (fun kq v9 w' => ∃ i : Nat, v9 = .int .i64 i ∧ Aside0 (i + kq = 8) ∧ Aside0 (IsS23 w w' w.heap.size s t a) ∧ Aside0 (IsS23 w w' g7 s A 0) ∧ Aside0 (IsS23 w w' g8 s B 0) ∧ Aside0 (Below w.heap.size w w'))
  case atStart => exact ⟨0, rfl, ⟨by omega⟩, G3, GA3, GB3, HB3⟩
  case round =>
    clear G3 GA3 GB3 HB3
    obtain ⟨i, rfl, HI, G3, GA3, GB3, HB3⟩ := hrel
    obtain ⟨hI0, _⟩ := G3.out
    have c0 := cellS23_0 hI0
    have c1 := cellS23_1 hI0
    have c2 := cellS23_2 hI0
    obtain ⟨hI1, _⟩ := GA3.out
    have a0 := cellS23_0 hI1
    have a1 := cellS23_1 hI1
    have a2 := cellS23_2 hI1
    obtain ⟨hI2, _⟩ := GB3.out
    have b0 := cellS23_0 hI2
    have b1 := cellS23_1 hI2
    have b2 := cellS23_2 hI2
    clear hI0 hI1 hI2
    by_cases hlt : i < 8
    · as_aux_lemma =>
        have d1 : decide ((i : Int) < 8) = true := decide_eq_true (by omega)
        go_wp2
        obtain ⟨X, hX⟩ : ∃ X : Int, X = wrap64 ((wordP s A (uw 0 + uw (i : Int) + 1) : Nat) : Int) := ⟨_, rfl⟩
        obtain ⟨Y, hY⟩ : ∃ Y : Int, Y = wrap64 ((wordP s B (uw 0 + uw (i : Int) + 1) : Nat) : Int) := ⟨_, rfl⟩
        have HX1 : Aside0 (rng_Word.f s A 0 (i : Int) = some X) := ⟨by rw [hX]; exact rng_Word_eq s A 0 i⟩
        have HY1 : Aside0 (rng_Word.f s B 0 (i : Int) = some Y) := ⟨by rw [hY]; exact rng_Word_eq s B 0 i⟩
        have eXY : (X == Y) = q := by rw [hX, hY]; exact HQ.out _
        have eAB : (A == B) = q := HAB.out
        clear hX hY c0 c1 c2
        refine start_ (n := 13) (S := fun w' => w'.cell? ⟨g7, 0, none⟩ = some (.int .i64 s) ∧ w'.cell? ⟨g7, 1, none⟩ = some (.int .i64 A) ∧ w'.cell? ⟨g7, 2, none⟩ = some (.int .i64 0) ∧ w'.cell? ⟨g8, 0, none⟩ = some (.int .i64 s) ∧ w'.cell? ⟨g8, 1, none⟩ = some (.int .i64 B) ∧ w'.cell? ⟨g8, 2, none⟩ = some (.int .i64 0)) (ds := []) #[false, false, false, false, false, false, false, false, false, false, false, false, false] (by kernel_rfl) rfl rfl ⟨a0, a1, a2, b0, b1, b2⟩ (fun hHeld => ?_)
        refine with_tabW F3Rtab6 F3Rbits6 (fun HT_ HW_ => ?_)
        refine pure_ (i := 1) (N := some 21) (v := ?_) (a' := ?_) #[false, true, false, false, false, false, false, false, false, false, false, false, false] rfl rfl (any_of HT_.out (by kernel_rfl)) (fun _ _ _ h => h) (Or.inl ⟨by rfl, ?_⟩) ?_ ?_
        rotate_left
        · intro w'
          go_simp
          with_reducible rfl
        rotate_left
        · simp only [Act.put, List.setIfInBounds_toArray, List.set_cons_zero, List.set_cons_succ, i64_w, i32_w]
          rfl
        refine pure_ (i := 4) (N := some 24) (v := ?_) (a' := ?_) #[false, true, false, false, true, false, false, false, false, false, false, false, false] rfl rfl (any_of HT_.out (by kernel_rfl)) (fun _ _ _ h => h) (Or.inl ⟨by rfl, ?_⟩) ?_ ?_
        rotate_left
        · intro w'
          go_simp
          with_reducible rfl
        rotate_left
        · simp only [Act.put, List.setIfInBounds_toArray, List.set_cons_zero, List.set_cons_succ, i64_w, i32_w]
          rfl
        refine pure_ (i := 7) (N := some 27) (v := ?_) (a' := ?_) #[false, true, false, false, true, false, false, true, false, false, false, false, false] rfl rfl (any_of HT_.out (by kernel_rfl)) (fun _ _ _ h => h) (Or.inl ⟨by rfl, ?_⟩) ?_ ?_
        rotate_left
        · intro w'
          go_simp
          with_reducible rfl
        rotate_left
        · simp only [Act.put, List.setIfInBounds_toArray, List.set_cons_zero, List.set_cons_succ, i64_w, i32_w]
          rfl
        refine pure_ (i := 9) (N := some 29) (v := ?_) (a' := ?_) #[false, true, false, false, true, false, false, true, false, true, false, false, false] rfl rfl (any_of HT_.out (by kernel_rfl)) (fun _ _ _ h => h) (Or.inl ⟨by rfl, ?_⟩) ?_ ?_
        rotate_left
        · intro w'
          go_simp
          with_reducible rfl
        rotate_left
        · simp only [Act.put, List.setIfInBounds_toArray, List.set_cons_zero, List.set_cons_succ, i64_w, i32_w]
          rfl
        refine take_ (i := 0) (N := some 20) (v := ?_) (a' := ?_) #[true, true, false, false, true, false, false, true, false, true, false, false, false] rfl rfl (take_ofW HT_.out HW_.out (by kernel_rfl)) (fun _ _ _ h => h) (Or.inl ⟨by rfl, ?_⟩) hHeld ?_ ?_
        rotate_left
        · rintro w' ⟨s0, s1, s2, s3, s4, s5⟩
          go_simp
          with_reducible rfl
        rotate_left
        · simp only [Act.put, List.setIfInBounds_toArray, List.set_cons_zero, List.set_cons_succ, i64_w, i32_w]
          rfl
        refine take_ (i := 3) (N := some 23) (v := ?_) (a' := ?_) #[true, true, false, true, true, false, false, true, false, true, false, false, false] rfl rfl (take_ofW HT_.out HW_.out (by kernel_rfl)) (fun _ _ _ h => h) (Or.inl ⟨by rfl, ?_⟩) hHeld ?_ ?_
        rotate_left
        · rintro w' ⟨s0, s1, s2, s3, s4, s5⟩
          go_simp
          with_reducible rfl
        rotate_left
        · simp only [Act.put, List.setIfInBounds_toArray, List.set_cons_zero, List.set_cons_succ, i64_w, i32_w]
          rfl
        refine take_ (i := 8) (N := some 28) (v := ?_) (a' := ?_) #[true, true, false, true, true, false, false, true, true, true, false, false, false] rfl rfl (take_ofW HT_.out HW_.out (by kernel_rfl)) (fun _ _ _ h => h) (Or.inl ⟨by rfl, ?_⟩) hHeld ?_ ?_
        rotate_left
        · rintro w' ⟨s0, s1, s2, s3, s4, s5⟩
          go_simp
          with_reducible rfl
        rotate_left
        · simp only [Act.put, List.setIfInBounds_toArray, List.set_cons_zero, List.set_cons_succ, i64_w, i32_w]
          rfl
        refine take_ (i := 10) (N := some 30) (v := ?_) (a' := ?_) #[true, true, false, true, true, false, false, true, true, true, true, false, false] rfl rfl (take_ofW HT_.out HW_.out (by kernel_rfl)) (fun _ _ _ h => h) (Or.inl ⟨by rfl, ?_⟩) hHeld ?_ ?_
        rotate_left
        · rintro w' ⟨s0, s1, s2, s3, s4, s5⟩
          go_simp
          with_reducible rfl
        rotate_left
        · simp only [Act.put, List.setIfInBounds_toArray, List.set_cons_zero, List.set_cons_succ, i64_w, i32_w]
          rfl
        refine pure_ (i := 11) (N := some 31) (v := .bool q) (a' := ?ac1) #[true, true, false, true, true, false, false, true, true, true, true, true, false] rfl rfl (any_of HT_.out (by kernel_rfl)) (fun _ _ _ h => h) (Or.inl ⟨by rfl, ?run1⟩) ?ha1 ?hh1
        case run1 =>
          intro w'
          as_aux_lemma => (go_simp)
        case ha1 =>
          simp only [Act.put, List.setIfInBounds_toArray, List.set_cons_zero, List.set_cons_succ, i64_w, i32_w]
          rfl
        refine one_ (i := 2) (N := some 22) #[true, true, true, true, true, false, false, true, true, true, true, true, false] rfl rfl (one_of HT_.out (by kernel_rfl)) (by decide) (fun K hK => ?_)
        refine goes_ Try.func13 (by kernel_rfl) rfl #[.agg #[.int .i64 s, .int .i64 A, .int .i64 0], .int .i64 (i : Int)] (by rfl) rfl rfl (by simp only [List.map_toArray, List.map_cons, List.map_nil]; rfl) ?_
        with_reducible refine (rng_Word.calls s A 0 (i : Int) X _ HX1.out).mono ?_
        rintro e w5 ⟨rfl, hb⟩
        refine ⟨_, rfl, ?_⟩
        have G5 := Aside0.mk (G3.out.drew.below hb)
        have GA5 := Aside0.mk (GA3.out.drew.below hb)
        have GB5 := Aside0.mk (GB3.out.drew.below hb)
        have HB5 := Aside0.mk (below_step (Below.drew HB3.out) hb)
        obtain ⟨hA5, _⟩ := GA5.out
        obtain ⟨hB5, _⟩ := GB5.out
        refine hK.out _ _ ⟨cellS23_0 hA5, cellS23_1 hA5, cellS23_2 hA5, cellS23_0 hB5, cellS23_1 hB5, cellS23_2 hB5⟩ (fun hHeld => ?_)
        clear hK K
        refine norm_ (a' := ?_) ?_ ?_
        rotate_left
        · show Act.put _ (some 22) _ = _
          simp only [Act.put, List.setIfInBounds_toArray, List.set_cons_zero, List.set_cons_succ, i64_w, i32_w]
          rfl
        refine one_ (i := 5) (N := some 25) #[true, true, true, true, true, true, false, true, true, true, true, true, false] rfl rfl (one_of HT_.out (by kernel_rfl)) (by decide) (fun K hK => ?_)
        refine goes_ Try.func13 (by kernel_rfl) rfl #[.agg #[.int .i64 s, .int .i64 B, .int .i64 0], .int .i64 (i : Int)] (by rfl) rfl rfl (by simp only [List.map_toArray, List.map_cons, List.map_nil]; rfl) ?_
        with_reducible refine (rng_Word.calls s B 0 (i : Int) Y _ HY1.out).mono ?_
        rintro e w6 ⟨rfl, hb⟩
        refine ⟨_, rfl, ?_⟩
        have G6 := Aside0.mk (G5.out.below hb)
        have GA6 := Aside0.mk (GA5.out.below hb)
        have GB6 := Aside0.mk (GB5.out.below hb)
        have HB6 := Aside0.mk (below_step HB5.out hb)
        obtain ⟨hA6, _⟩ := GA6.out
        obtain ⟨hB6, _⟩ := GB6.out
        refine hK.out _ _ ⟨cellS23_0 hA6, cellS23_1 hA6, cellS23_2 hA6, cellS23_0 hB6, cellS23_1 hB6, cellS23_2 hB6⟩ (fun hHeld => ?_)
        clear hK K
        refine norm_ (a' := ?_) ?_ ?_
        rotate_left
        · show Act.put _ (some 25) _ = _
          simp only [Act.put, List.setIfInBounds_toArray, List.set_cons_zero, List.set_cons_succ, i64_w, i32_w]
          rfl
        refine pure_ (i := 6) (N := some 26) (v := .bool q) (a' := ?ac2) #[true, true, true, true, true, true, true, true, true, true, true, true, false] rfl rfl (any_of HT_.out (by kernel_rfl)) (fun _ _ _ h => h) (Or.inl ⟨by rfl, ?run2⟩) ?ha2 ?hh2
        case run2 =>
          intro w'
          as_aux_lemma => (go_simp)
        case ha2 =>
          simp only [Act.put, List.setIfInBounds_toArray, List.set_cons_zero, List.set_cons_succ, i64_w, i32_w]
          rfl
        refine pure_ (i := 12) (N := some 32) (v := .bool false) (a' := ?ac3) #[true, true, true, true, true, true, true, true, true, true, true, true, true] rfl rfl (any_of HT_.out (by kernel_rfl)) (fun _ _ _ h => h) (Or.inl ⟨by rfl, ?run3⟩) ?ha3 ?hh3
        case run3 =>
          intro w'
          as_aux_lemma => (go_simp)
        case ha3 =>
          simp only [Act.put, List.setIfInBounds_toArray, List.set_cons_zero, List.set_cons_succ, i64_w, i32_w]
          rfl
        refine done_ (done_of HT_.out (by kernel_rfl)) ?_
        go_wp2
        go_roundg (gk - 1)
        case measure => have := HI.out; omega
        case rel => exact ⟨i + 1, by go_num, ⟨by have := HI.out; omega⟩, G6, GA6, GB6, HB6⟩
    · as_aux_lemma =>
        have d1 : decide ((i : Int) < 8) = false := decide_eq_false (by omega)
        clear hlt
        go_wp2_with fail
        refine (alive_calls _).mono ?_
        rintro e w5 ⟨rfl, hb⟩
        have HB5 := Aside0.mk (below_step HB3.out hb)
        obtain ⟨hI0, _⟩ := G3.out.below hb
        have c0' := cellS23_0 hI0
        have c1' := cellS23_1 hI0
        have c2' := cellS23_2 hI0
        obtain ⟨hI1, _⟩ := GA3.out.below hb
        have a0' := cellS23_0 hI1
        have a1' := cellS23_1 hI1
        have a2' := cellS23_2 hI1
        obtain ⟨hI2, _⟩ := GB3.out.below hb
        have b0' := cellS23_0 hI2
        have b1' := cellS23_1 hI2
        have b2' := cellS23_2 hI2
        clear hI0 hI1 hI2 hb c0 c1 c2 a0 a1 a2 b0 b1 b2
        have eAB : (A == B) = q := HAB.out
        have eKM : (k == m) = q := HKM.out
        go_wp2
        go_ret
        exact ⟨rfl, HB5.out⟩

end Go.Proofs.Ytpobladocccnmaa
