/- The walk of alive: true. -/
import Derived.Test.YtpobladocccnmaaRefS
import Derived.Outline
namespace Go.Proofs.Ytpobladocccnmaa
open Go.RowKit Mix PBase
open Go.Proofs.YtpobladocccnmaaW.PrintWords Go.Proofs.YtpobladocccnmaaW.PrintLast Go.Proofs.YtpobladocccnmaaW.PrintMore
set_option linter.unusedVariables false
set_option linter.unusedSimpArgs false

theorem same_l0 (l : List Int) (hl : l.length ≤ 9223372036854775806) : ∀ (d j : Nat), j + d = l.length → pupillaw2_Same.l0 (d + 1) l l (j : Int) = some true := by
  intro d
  induction d with
  | zero => intro j hj; rw [pupillaw2_Same.l0, if_neg (by omega)]
  | succ d ih =>
    intro j hj
    rw [pupillaw2_Same.l0, if_pos (by omega), if_pos (by omega), if_pos (by omega), if_pos rfl, wrap64_id (by omega)]
    exact ih (j + 1) (by omega)

theorem same_self (l : List Int) (hl : l.length ≤ 9223372036854775806) : pupillaw2_Same.f (l.length + 1) l l = some true := by
  rw [pupillaw2_Same.f, if_pos rfl]
  exact same_l0 l hl l.length 0 (by omega)

theorem IsInts.C {W : World} {b : Nat} {xs : List Int} (h : IsInts W b xs) (hl : xs.length ≤ 9223372036854775807) : Kd.C (Kd.int .i64) W (some ⟨b, 0, none⟩) xs.length xs := by
  refine Kd.C_of_reads (d := (0 : Int)) ⟨rfl, hl, fun _ => ⟨⟨b, 0, none⟩, rfl, fun i hi => ?_⟩⟩
  rw [add_plain]
  exact h.cell i hi

theorem OwnInts.C {w W : World} {v : Value} {xs : List Int} (h : OwnInts w W v xs) : ∃ A c, v = .slice A xs.length c ∧ xs.length ≤ c ∧ Kd.C (Kd.int .i64) W A xs.length xs := by
  obtain ⟨A, c, hv⟩ := Kd.R_slice h
  subst hv
  obtain ⟨_, h2, h3⟩ := Kd.R_reads' h
  exact ⟨A, c, rfl, h2, h3⟩

def F14RT4 : Bool × List (List Nat × List Nat) := (true, [([], []), ([0], [0]), ([], []), ([2, 1], [2]), ([1, 3], [1, 3]), ([4, 3], [4]), ([5], [5]), ([6, 5], [5, 6]), ([5, 7], [5, 7]), ([8, 5], [8]), ([9], [9]), ([9], [9]), ([10, 11, 9, 9], [9, 10, 11]), ([9, 12], [9, 12]), ([13, 12, 0, 1, 2, 3, 4, 5, 6, 7, 8, 9, 10, 11, 12, 13], [13])])
def F14RB4 : List Nat := [0, 1, 0, 7, 15, 31, 63, 127, 255, 511, 1023, 1023, 4095, 8191, 16383]
theorem F14Rtab4 : rtab .any (opsOf Try.f14 4) = F14RT4 := by kernel_rfl
theorem F14Rbits4 : waitsOk F14RT4.2 F14RB4 = true := by kernel_rfl
set_option maxHeartbeats 1000000 in
set_option maxRecDepth 100000 in
theorem alive_calls (w : World) : Calls Try.prog 14 #[] w fun e w' => e = .returned (.bool true) ∧ Below w.heap.size w w' := by
  go_enter Try.func14, Try.ntmps14
  go_wp2_with fail
  refine (Shuffle_calls 1 2 3 5 _ (by omega)).mono ?_
  rintro e w2 ⟨b, rfl, hL, hb, hB⟩
  have G1 := Aside0.mk (((IsS23.new w w 1 2 3 (Below.refl _ _))).below hB)
  have HB := Aside0.mk (below_step ((Below.refl _ _).alloc (Nat.le_refl _) _) hB)
  have hl5 := shuf_length 1 2 3 5
  have HL := Aside0.mk hL
  have HL5 := Aside0.mk hl5
  clear hL hb hB hl5
  have hlt : w.heap.size < w2.heap.size := G1.out.lt
  obtain ⟨hI0, _⟩ := G1.out
  have c0 := cellS23_0 hI0
  have c1 := cellS23_1 hI0
  have c2 := cellS23_2 hI0
  clear hI0
  go_wp2_with fail
  refine (refShuffle_calls 1 2 3 5 _ (by omega)).mono ?_
  rintro e w3 ⟨v, rfl, hR, hB3⟩
  obtain ⟨A, cp, rfl, hcp, hC⟩ := OwnInts.C hR
  have G3 := Aside0.mk ((G1.out.alloc (Obj.cells #[Value.int IntKind.i64 1, Value.int IntKind.i64 2, Value.int IntKind.i64 (shuf 1 2 3 5).2] 23)).below hB3)
  have HL3 := Aside0.mk ((IsInts.below HL.out (below_alloc (Below.refl _ _) (Obj.cells #[Value.int IntKind.i64 1, Value.int IntKind.i64 2, Value.int IntKind.i64 (shuf 1 2 3 5).2] 23))).below hB3)
  have HB3 := Aside0.mk (below_step (below_alloc HB.out (Obj.cells #[Value.int IntKind.i64 1, Value.int IntKind.i64 2, Value.int IntKind.i64 (shuf 1 2 3 5).2] 23)) hB3)
  have HC3 := Aside0.mk hC
  have HCP := Aside0.mk hcp
  clear hC hcp hR hB3 c0 c1 c2 hlt G1 HL HB
  obtain ⟨l, hl⟩ : ∃ l, l = (shuf 1 2 3 5).1 := ⟨_, rfl⟩
  rw [← hl] at HL5 HL3 HC3 HCP ⊢
  clear hl
  rw [HL5.out]
  go_wp2
  have G4 := Aside0.mk (G3.out.alloc (Obj.cells #[Value.int IntKind.i64 1, Value.int IntKind.i64 2, Value.int IntKind.i64 (shuf 1 2 3 5).2] 23))
  have HL4 := Aside0.mk (IsInts.below HL3.out (below_alloc (Below.refl _ _) (Obj.cells #[Value.int IntKind.i64 1, Value.int IntKind.i64 2, Value.int IntKind.i64 (shuf 1 2 3 5).2] 23)))
  have HC4 := Aside0.mk (Kd.C_below HC3.out (below_alloc (Below.refl _ _) (Obj.cells #[Value.int IntKind.i64 1, Value.int IntKind.i64 2, Value.int IntKind.i64 (shuf 1 2 3 5).2] 23)))
  have HB4 := Aside0.mk (below_alloc HB3.out (Obj.cells #[Value.int IntKind.i64 1, Value.int IntKind.i64 2, Value.int IntKind.i64 (shuf 1 2 3 5).2] 23))
  generalize w3.alloc (Obj.cells #[Value.int IntKind.i64 1, Value.int IntKind.i64 2, Value.int IntKind.i64 (shuf 1 2 3 5).2] 23) = w4 at G4 HL4 HC4 HB4 ⊢
  clear G3 HL3 HC3 HB3
  obtain ⟨hI0, _⟩ := G4.out
  have c0 := cellS23_0 hI0
  have c1 := cellS23_1 hI0
  have c2 := cellS23_2 hI0
  clear hI0
  obtain ⟨X, hX⟩ : ∃ X : Int, X = wrap64 ((wordP 1 2 (uw 3 + uw 0 + 1) : Nat) : Int) := ⟨_, rfl⟩
  have HX1 : Aside0 (rng_Word.f 1 2 3 0 = some X) := ⟨by rw [hX]; exact rng_Word_eq 1 2 3 0⟩
  have HX2 : Aside0 (pupilref6_Word.f 1 2 3 0 = some X) := ⟨by rw [hX]; exact ref_Word_eq 1 2 3 0⟩
  clear hX
  refine start_ (n := 15) (S := fun w' => w'.cell? ⟨w.heap.size, 0, none⟩ = some (.int .i64 1) ∧ w'.cell? ⟨w.heap.size, 1, none⟩ = some (.int .i64 2) ∧ w'.cell? ⟨w.heap.size, 2, none⟩ = some (.int .i64 3)) (ds := []) #[false, false, false, false, false, false, false, false, false, false, false, false, false, false, false] (by kernel_rfl) rfl rfl ⟨c0, c1, c2⟩ (fun hHeld => ?_)
  refine with_tabW F14Rtab4 F14Rbits4 (fun HT_ HW_ => ?_)
  refine take_ (i := 0) (N := some 19) (v := ?_) (a' := ?_) #[true, false, false, false, false, false, false, false, false, false, false, false, false, false, false] rfl rfl (take_ofW HT_.out HW_.out (by kernel_rfl)) (fun _ _ _ h => h) (Or.inl ⟨by rfl, ?_⟩) hHeld ?_ ?_
  rotate_left
  · rintro w' ⟨s0, s1, s2⟩
    go_simp
    with_reducible rfl
  rotate_left
  · simp only [Act.put, List.setIfInBounds_toArray, List.set_cons_zero, List.set_cons_succ, i64_w, i32_w]
    rfl
  refine take_ (i := 2) (N := some 21) (v := ?_) (a' := ?_) #[true, false, true, false, false, false, false, false, false, false, false, false, false, false, false] rfl rfl (take_ofW HT_.out HW_.out (by kernel_rfl)) (fun _ _ _ h => h) (Or.inl ⟨by rfl, ?_⟩) hHeld ?_ ?_
  rotate_left
  · rintro w' ⟨s0, s1, s2⟩
    go_simp
    with_reducible rfl
  rotate_left
  · simp only [Act.put, List.setIfInBounds_toArray, List.set_cons_zero, List.set_cons_succ, i64_w, i32_w]
    rfl
  refine one_ (i := 1) (N := some 20) #[true, true, true, false, false, false, false, false, false, false, false, false, false, false, false] rfl rfl (one_of HT_.out (by kernel_rfl)) (by decide) (fun K hK => ?_)
  refine goes_ Try.func13 (by kernel_rfl) rfl #[.agg #[.int .i64 1, .int .i64 2, .int .i64 3], .int .i64 0] (by rfl) rfl rfl (by simp only [List.map_toArray, List.map_cons, List.map_nil]; rfl) ?_
  with_reducible refine (rng_Word.calls 1 2 3 0 X _ HX1.out).mono ?_
  rintro e w5 ⟨rfl, hb⟩
  refine ⟨_, rfl, ?_⟩
  have G5 := Aside0.mk ((G4.out.drew).below hb)
  have HL5b := Aside0.mk ((HL4.out.drew).below hb)
  have HC5 := Aside0.mk (Kd.C_below (Kd.C_drew HC4.out) hb)
  have HB5 := Aside0.mk (below_step (Below.drew HB4.out) hb)
  obtain ⟨hI5, _⟩ := G5.out
  refine hK.out _ _ ⟨cellS23_0 hI5, cellS23_1 hI5, cellS23_2 hI5⟩ (fun hHeld => ?_)
  clear hK K
  refine norm_ (a' := ?_) ?_ ?_
  rotate_left
  · show Act.put _ (some 20) _ = _
    simp only [Act.put, List.setIfInBounds_toArray, List.set_cons_zero, List.set_cons_succ, i64_w, i32_w]
    rfl
  refine one_ (i := 3) (N := some 22) #[true, true, true, true, false, false, false, false, false, false, false, false, false, false, false] rfl rfl (one_of HT_.out (by kernel_rfl)) (by decide) (fun K hK => ?_)
  refine goes_ Try.func31 (by kernel_rfl) rfl #[.agg #[.int .i64 1, .int .i64 2, .int .i64 3], .int .i64 0] (by rfl) rfl rfl (by simp only [List.map_toArray, List.map_cons, List.map_nil]; rfl) ?_
  with_reducible refine (pupilref6_Word.calls 1 2 3 0 X _ HX2.out).mono ?_
  rintro e w6 ⟨rfl, hb6⟩
  refine ⟨_, rfl, ?_⟩
  have G6 := Aside0.mk (G5.out.below hb6)
  have HL6 := Aside0.mk (HL5b.out.below hb6)
  have HC6 := Aside0.mk (Kd.C_below HC5.out hb6)
  have HB6 := Aside0.mk (below_step HB5.out hb6)
  obtain ⟨hI6, _⟩ := G6.out
  refine hK.out _ _ ⟨cellS23_0 hI6, cellS23_1 hI6, cellS23_2 hI6⟩ (fun hHeld => ?_)
  clear hK K
  refine norm_ (a' := ?_) ?_ ?_
  rotate_left
  · show Act.put _ (some 22) _ = _
    simp only [Act.put, List.setIfInBounds_toArray, List.set_cons_zero, List.set_cons_succ, i64_w, i32_w]
    rfl
  refine pure_ (i := 4) (N := some 23) (v := .bool true) (a' := ?ac1) #[true, true, true, true, true, false, false, false, false, false, false, false, false, false, false] rfl rfl (any_of HT_.out (by kernel_rfl)) (fun _ _ _ h => h) (Or.inl ⟨by rfl, ?run1⟩) ?ha1 ?hh1
  case run1 =>
    intro w'
    as_aux_lemma => (go_simp)
  case ha1 =>
    simp only [Act.put, List.setIfInBounds_toArray, List.set_cons_zero, List.set_cons_succ, i64_w, i32_w]
    rfl
  refine pure_ (i := 5) (N := some 24) (v := ?_) (a' := ?_) #[true, true, true, true, true, true, false, false, false, false, false, false, false, false, false] rfl rfl (any_of HT_.out (by kernel_rfl)) (fun _ _ _ h => h) (Or.inl ⟨by rfl, ?_⟩) ?_ ?_
  rotate_left
  · intro w'
    go_simp
    with_reducible rfl
  rotate_left
  · simp only [Act.put, List.setIfInBounds_toArray, List.set_cons_zero, List.set_cons_succ, i64_w, i32_w]
    rfl
  refine pure_ (i := 6) (N := some 25) (v := ?_) (a' := ?_) #[true, true, true, true, true, true, true, false, false, false, false, false, false, false, false] rfl rfl (any_of HT_.out (by kernel_rfl)) (fun _ _ _ h => h) (Or.inl ⟨by rfl, ?_⟩) ?_ ?_
  rotate_left
  · intro w'
    go_simp
    with_reducible rfl
  rotate_left
  · simp only [Act.put, List.setIfInBounds_toArray, List.set_cons_zero, List.set_cons_succ, i64_w, i32_w]
    rfl
  refine pure_ (i := 7) (N := some 26) (v := ?_) (a' := ?_) #[true, true, true, true, true, true, true, true, false, false, false, false, false, false, false] rfl rfl (any_of HT_.out (by kernel_rfl)) (fun _ _ _ h => h) (Or.inl ⟨by rfl, ?_⟩) ?_ ?_
  rotate_left
  · intro w'
    go_simp
    with_reducible rfl
  rotate_left
  · simp only [Act.put, List.setIfInBounds_toArray, List.set_cons_zero, List.set_cons_succ, i64_w, i32_w]
    rfl
  refine pure_ (i := 8) (N := some 27) (v := ?_) (a' := ?_) #[true, true, true, true, true, true, true, true, true, false, false, false, false, false, false] rfl rfl (any_of HT_.out (by kernel_rfl)) (fun _ _ _ h => h) (Or.inl ⟨by rfl, ?_⟩) ?_ ?_
  rotate_left
  · intro w'
    go_simp
    with_reducible rfl
  rotate_left
  · simp only [Act.put, List.setIfInBounds_toArray, List.set_cons_zero, List.set_cons_succ, i64_w, i32_w]
    rfl
  refine pure_ (i := 9) (N := some 28) (v := ?_) (a' := ?_) #[true, true, true, true, true, true, true, true, true, true, false, false, false, false, false] rfl rfl (any_of HT_.out (by kernel_rfl)) (fun _ _ _ h => h) (Or.inl ⟨by rfl, ?_⟩) ?_ ?_
  rotate_left
  · intro w'
    go_simp
    with_reducible rfl
  rotate_left
  · simp only [Act.put, List.setIfInBounds_toArray, List.set_cons_zero, List.set_cons_succ, i64_w, i32_w]
    rfl
  refine pure_ (i := 10) (N := some 29) (v := ?_) (a' := ?_) #[true, true, true, true, true, true, true, true, true, true, true, false, false, false, false] rfl rfl (any_of HT_.out (by kernel_rfl)) (fun _ _ _ h => h) (Or.inl ⟨by rfl, ?_⟩) ?_ ?_
  rotate_left
  · intro w'
    go_simp
    with_reducible rfl
  rotate_left
  · simp only [Act.put, List.setIfInBounds_toArray, List.set_cons_zero, List.set_cons_succ, i64_w, i32_w]
    rfl
  refine pure_ (i := 11) (N := some 30) (v := ?_) (a' := ?_) #[true, true, true, true, true, true, true, true, true, true, true, true, false, false, false] rfl rfl (any_of HT_.out (by kernel_rfl)) (fun _ _ _ h => h) (Or.inl ⟨by rfl, ?_⟩) ?_ ?_
  rotate_left
  · intro w'
    go_simp
    with_reducible rfl
  rotate_left
  · simp only [Act.put, List.setIfInBounds_toArray, List.set_cons_zero, List.set_cons_succ, i64_w, i32_w]
    rfl
  refine one_ (i := 12) (N := some 31) #[true, true, true, true, true, true, true, true, true, true, true, true, true, false, false] rfl rfl (one_of HT_.out (by kernel_rfl)) (by decide) (fun K hK => ?_)
  have HS := pupillaw2_Same.calls (l.length + 1) (some ⟨b, 0, none⟩) 5 l A cp l true w6 (IsInts.C HL6.out (by rw [HL5.out]; omega)) (by rw [HL5.out]; omega) HC6.out HCP.out (same_self l (by rw [HL5.out]; omega))
  rw [HL5.out] at HS
  refine goes_ Try.func32 (by kernel_rfl) rfl #[.slice (some ⟨b, 0, none⟩) 5 5, .slice A 5 cp] (by rfl) rfl rfl (by simp only [List.map_toArray, List.map_cons, List.map_nil]; rfl) ?_
  refine HS.mono ?_
  rintro e w7 ⟨rfl, hd⟩
  refine ⟨_, rfl, ?_⟩
  have HB7 := Aside0.mk (below_step HB6.out hd.below)
  have G7 := Aside0.mk (G6.out.below hd.below)
  obtain ⟨hI7, _⟩ := G7.out
  refine hK.out _ _ ⟨cellS23_0 hI7, cellS23_1 hI7, cellS23_2 hI7⟩ (fun hHeld => ?_)
  clear hK K
  refine norm_ (a' := ?_) ?_ ?_
  rotate_left
  · show Act.put _ (some 31) _ = _
    simp only [Act.put, List.setIfInBounds_toArray, List.set_cons_zero, List.set_cons_succ, i64_w, i32_w]
    rfl
  refine pure_ (i := 13) (N := some 32) (v := ?_) (a' := ?_) #[true, true, true, true, true, true, true, true, true, true, true, true, true, true, false] rfl rfl (any_of HT_.out (by kernel_rfl)) (fun _ _ _ h => h) (Or.inl ⟨by rfl, ?_⟩) ?_ ?_
  rotate_left
  · intro w'
    go_simp
    with_reducible rfl
  rotate_left
  · simp only [Act.put, List.setIfInBounds_toArray, List.set_cons_zero, List.set_cons_succ, i64_w, i32_w]
    rfl
  refine pure_ (i := 14) (N := some 0) (v := ?_) (a' := ?_) #[true, true, true, true, true, true, true, true, true, true, true, true, true, true, true] rfl rfl (any_of HT_.out (by kernel_rfl)) (fun _ _ _ h => h) (Or.inl ⟨by rfl, ?_⟩) ?_ ?_
  rotate_left
  · intro w'
    go_simp
    with_reducible rfl
  rotate_left
  · simp only [Act.put, List.setIfInBounds_toArray, List.set_cons_zero, List.set_cons_succ, i64_w, i32_w]
    rfl
  refine done_ (done_of HT_.out (by kernel_rfl)) ?_
  go_wp2
  go_ret
  exact ⟨rfl, HB7.out⟩

end Go.Proofs.Ytpobladocccnmaa
