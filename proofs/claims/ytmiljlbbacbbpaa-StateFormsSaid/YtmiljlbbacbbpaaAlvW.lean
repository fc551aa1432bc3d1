/- pupillaw23.alive comes to true. -/
import Derived.Test.YtmiljlbbacbbpaaStP
import Derived.Test.YtmiljlbbacbbpaaSmp
namespace Go.Proofs.Ytmiljlbbacbbpaa
open Go.RowKit PBase
open Go.Proofs.YtmiljlbbacbbpaaW.PrintWords Go.Proofs.YtmiljlbbacbbpaaW.PrintLast Go.Proofs.YtmiljlbbacbbpaaW.PrintMore
set_option linter.unusedVariables false
set_option linter.unusedSimpArgs false
theorem sample_check : checkV 7 2 1 [one, two] [[one], []] = 0 := by decide +kernel
theorem sample_words : Words 7 2 1 [one, two] [[one], []] 5 (-9) := ⟨by decide, by decide, by decide, by decide⟩
def F11RT3 : Bool × List (List Nat × List Nat) := (true, [([], []), ([0], [0]), ([1], [1]), ([2], [2]), ([3, 2], [2, 3]), ([4, 2], [2, 4]), ([2, 5], [2, 5]), ([6, 2], [6]), ([7], [7]), ([8, 7], [7, 8]), ([7, 9], [7, 9]), ([10, 7], [10]), ([11], [11]), ([12, 11], [11, 12]), ([11, 13], [11, 13]), ([14, 11], [14]), ([15], [15]), ([15, 15], [15]), ([16, 17, 17, 15], [15, 16, 17]), ([15, 18], [15, 18]), ([19, 18], [19]), ([20, 20], [20]), ([21, 21, 20], [20, 21]), ([22, 20], [20, 22]), ([20, 23], [20, 23]), ([24, 22, 0, 1, 2, 3, 4, 5, 6, 7, 8, 9, 10, 11, 12, 13, 14, 15, 16, 17, 18, 19, 20, 21, 22, 23, 24], [24])])
def F11RB3 : List Nat := [0, 1, 3, 7, 15, 31, 63, 127, 255, 511, 1023, 2047, 4095, 8191, 16383, 32767, 65535, 65535, 262143, 524287, 1048575, 2097151, 4194303, 8388607, 16777215, 33554431]
theorem F11Rtab3 : rtab .any (opsOf Try.f11 3) = F11RT3 := by kernel_rfl
theorem F11Rbits3 : waitsOk F11RT3.2 F11RB3 = true := by kernel_rfl
set_option maxHeartbeats 4000000 in
set_option maxRecDepth 100000 in
theorem alive_walk (ps : List S56) (ss : List (List S56)) (b : List Int) (k k2 : Nat) (hps : ps = [one, two]) (hss : ss = [[one], []]) (hln : b.length = 105)
    (hW : state_Write.f k 7 2 1 ps ss 5 (-9) = some (b, 0)) (hR : state_Read.f b = some (7, 2, 1, ps, ss, 5, -9, 0, 0)) (hS : pupillaw23_same.f k2 7 2 1 ps ss 5 (-9) 7 2 1 ps ss 5 (-9) = some true) (hC : checkV 7 2 1 ps ss = 0) (w : World) :
    Calls Try.prog 11 #[] w fun e w' => e = .returned (.bool true) ∧ Below w.heap.size w w' := by
  have HSM : Aside0 (∀ w : World, Calls Try.prog 22 #[] w fun e w' => ∃ A3 c3 A4 c4, e = .returned (.agg #[.int .i64 7, .int .i64 2, .int .i64 1, .slice A3 ps.length c3, .slice A4 ss.length c4, .int .i64 5, .int .i64 (-9)]) ∧ ps.length ≤ c3 ∧ Kd.C k56 w' A3 ps.length ps ∧ ss.length ≤ c4 ∧ Kd.C (Kd.slice 56 k56) w' A4 ss.length ss ∧ Below w.heap.size w w') := by
    refine ⟨fun w => (sample_calls w).mono ?_⟩
    rintro e w' ⟨v3, v4, rfl, h3, h4, hb⟩
    rw [← hps] at h3
    rw [← hss] at h4
    obtain ⟨A3, c3, rfl, hc3, hC3⟩ := Kd.R_reads (Kd.S_R h3)
    obtain ⟨A4, c4, rfl, hc4, hC4⟩ := Kd.R_reads h4
    exact ⟨A3, c3, A4, c4, rfl, hc3, hC3, hc4, hC4, hb⟩
  have HW := Aside0.mk hW
  have HR := Aside0.mk hR
  have HS := Aside0.mk hS
  have HC := Aside0.mk hC
  have HL := Aside0.mk hln
  clear hW hR hS hC hln hps hss
  have d1 : ((b.length : Int) == 105) = true := by rw [HL.out]; rfl
  go_enter Try.func11, Try.ntmps11
  go_wp2_with fail
  refine (HSM.out _).mono ?_
  rintro e w1 ⟨A3, c3, A4, c4, rfl, hc3, hC3, hc4, hC4, hb1⟩
  have HB1 := Aside0.mk hb1
  have H1 := Aside0.mk (And.intro hc3 (And.intro hC3 (And.intro hc4 hC4)))
  clear hb1 hc3 hC3 hc4 hC4
  go_wp2_with fail
  refine (state_Write.calls k 7 2 1 A3 c3 ps A4 c4 ss 5 (-9) b 0 w1 H1.out.2.1 H1.out.1 H1.out.2.2.2 H1.out.2.2.1 HW.out).mono ?_
  rintro e w2 ⟨v, rfl, hv, hb2⟩
  obtain ⟨A, c, rfl, hc, hCb⟩ := Kd.R_reads hv
  have HB2 := Aside0.mk (below_step HB1.out hb2)
  have H2 := Aside0.mk (And.intro hc hCb)
  clear hb2 hc hCb hv HB1 H1
  go_wp2_with fail
  refine (state_Read.calls A c b _ _ _ _ _ _ _ _ _ w2 H2.out.2 H2.out.1 HR.out).mono ?_
  rintro e w3 ⟨v3, v4, rfl, h3, h4, hb3⟩
  obtain ⟨A5, c5, rfl, hc5, hC5⟩ := Kd.R_reads (Kd.S_R h3)
  obtain ⟨A6, c6, rfl, hc6, hC6⟩ := Kd.R_reads h4
  have HB3 := Aside0.mk (below_step HB2.out hb3)
  have H3 := Aside0.mk (And.intro hc5 (And.intro hC5 (And.intro hc6 hC6)))
  clear hb3 hc5 hC5 hc6 hC6 h3 h4 HB2 H2
  go_wp2
  have HX := Aside0.mk (show IsB (w3.alloc (Obj.cells #[Value.int .i64 7, .int .i64 2, .int .i64 1, .slice A5 ps.length c5, .slice A6 ss.length c6, .int .i64 5, .int .i64 (-9)] 25)) w3.heap.size #[Value.int .i64 7, .int .i64 2, .int .i64 1, .slice A5 ps.length c5, .slice A6 ss.length c6, .int .i64 5, .int .i64 (-9)] 25 from blk_new w3 _)
  have HB4 := Aside0.mk (below_alloc HB3.out (Obj.cells #[Value.int .i64 7, .int .i64 2, .int .i64 1, .slice A5 ps.length c5, .slice A6 ss.length c6, .int .i64 5, .int .i64 (-9)] 25))
  have hb34 : Below w3.heap.size w3 (w3.alloc (Obj.cells #[Value.int .i64 7, .int .i64 2, .int .i64 1, .slice A5 ps.length c5, .slice A6 ss.length c6, .int .i64 5, .int .i64 (-9)] 25)) := (Below.refl _ _).alloc (Nat.le_refl _) _
  have H4 := Aside0.mk (And.intro H3.out.1 (And.intro (Kd.C_below H3.out.2.1 hb34) (And.intro H3.out.2.2.1 (Kd.C_below H3.out.2.2.2 hb34))))
  obtain ⟨g, hg⟩ : ∃ g, g = w3.heap.size := ⟨_, rfl⟩
  rw [← hg] at HX ⊢
  clear hb34 hg H3 HB3
  generalize w3.alloc (Obj.cells #[Value.int .i64 7, .int .i64 2, .int .i64 1, .slice A5 ps.length c5, .slice A6 ss.length c6, .int .i64 5, .int .i64 (-9)] 25) = w4 at HX HB4 H4 ⊢
  have x0 := (blk_cell HX.out 0).trans rfl
  have x1 := (blk_cell HX.out 1).trans rfl
  have x2 := (blk_cell HX.out 2).trans rfl
  have x3 := (blk_cell HX.out 3).trans rfl
  have x4 := (blk_cell HX.out 4).trans rfl
  have x5 := (blk_cell HX.out 5).trans rfl
  have x6 := (blk_cell HX.out 6).trans rfl
  refine start_ (n := 26) (S := fun w' => w'.cell? ⟨g, 0, none⟩ = some (.int .i64 7) ∧ w'.cell? ⟨g, 1, none⟩ = some (.int .i64 2) ∧ w'.cell? ⟨g, 2, none⟩ = some (.int .i64 1) ∧ w'.cell? ⟨g, 3, none⟩ = some (.slice A5 ps.length c5) ∧ w'.cell? ⟨g, 4, none⟩ = some (.slice A6 ss.length c6) ∧ w'.cell? ⟨g, 5, none⟩ = some (.int .i64 5) ∧ w'.cell? ⟨g, 6, none⟩ = some (.int .i64 (-9))) (ds := []) #[false, false, false, false, false, false, false, false, false, false, false, false, false, false, false, false, false, false, false, false, false, false, false, false, false, false] (by kernel_rfl) rfl rfl ⟨x0, x1, x2, x3, x4, x5, x6⟩ (fun hHeld => ?_)
  refine with_tabW F11Rtab3 F11Rbits3 (fun HT_ HW_ => ?_)
  refine pure_ (i := 0) (N := some 17) (v := ?_) (a' := ?_) #[true, false, false, false, false, false, false, false, false, false, false, false, false, false, false, false, false, false, false, false, false, false, false, false, false, false] rfl rfl (any_of HT_.out (by kernel_rfl)) (fun _ _ _ h => h) (Or.inl ⟨by rfl, ?_⟩) ?_ ?_
  rotate_left
  · intro w'
    go_simp
    with_reducible rfl
  rotate_left
  · simp only [Act.put, List.setIfInBounds_toArray, List.set_cons_zero, List.set_cons_succ, i64_w, i32_w]
    rfl
  refine pure_ (i := 1) (N := some 18) (v := ?_) (a' := ?_) #[true, true, false, false, false, false, false, false, false, false, false, false, false, false, false, false, false, false, false, false, false, false, false, false, false, false] rfl rfl (any_of HT_.out (by kernel_rfl)) (fun _ _ _ h => h) (Or.inl ⟨by rfl, ?_⟩) ?_ ?_
  rotate_left
  · intro w'
    go_simp
    with_reducible rfl
  rotate_left
  · simp only [Act.put, List.setIfInBounds_toArray, List.set_cons_zero, List.set_cons_succ, i64_w, i32_w]
    rfl
  refine pure_ (i := 2) (N := some 19) (v := ?_) (a' := ?_) #[true, true, true, false, false, false, false, false, false, false, false, false, false, false, false, false, false, false, false, false, false, false, false, false, false, false] rfl rfl (any_of HT_.out (by kernel_rfl)) (fun _ _ _ h => h) (Or.inl ⟨by rfl, ?_⟩) ?_ ?_
  rotate_left
  · intro w'
    go_simp
    with_reducible rfl
  rotate_left
  · simp only [Act.put, List.setIfInBounds_toArray, List.set_cons_zero, List.set_cons_succ, i64_w, i32_w]
    rfl
  refine pure_ (i := 3) (N := some 20) (v := ?_) (a' := ?_) #[true, true, true, true, false, false, false, false, false, false, false, false, false, false, false, false, false, false, false, false, false, false, false, false, false, false] rfl rfl (any_of HT_.out (by kernel_rfl)) (fun _ _ _ h => h) (Or.inl ⟨by rfl, ?_⟩) ?_ ?_
  rotate_left
  · intro w'
    go_simp
    with_reducible rfl
  rotate_left
  · simp only [Act.put, List.setIfInBounds_toArray, List.set_cons_zero, List.set_cons_succ, i64_w, i32_w]
    rfl
  refine pure_ (i := 4) (N := some 21) (v := ?_) (a' := ?_) #[true, true, true, true, true, false, false, false, false, false, false, false, false, false, false, false, false, false, false, false, false, false, false, false, false, false] rfl rfl (any_of HT_.out (by kernel_rfl)) (fun _ _ _ h => h) (Or.inl ⟨by rfl, ?_⟩) ?_ ?_
  rotate_left
  · intro w'
    go_simp
    with_reducible rfl
  rotate_left
  · simp only [Act.put, List.setIfInBounds_toArray, List.set_cons_zero, List.set_cons_succ, i64_w, i32_w]
    rfl
  refine pure_ (i := 5) (N := some 22) (v := ?_) (a' := ?_) #[true, true, true, true, true, true, false, false, false, false, false, false, false, false, false, false, false, false, false, false, false, false, false, false, false, false] rfl rfl (any_of HT_.out (by kernel_rfl)) (fun _ _ _ h => h) (Or.inl ⟨by rfl, ?_⟩) ?_ ?_
  rotate_left
  · intro w'
    go_simp
    with_reducible rfl
  rotate_left
  · simp only [Act.put, List.setIfInBounds_toArray, List.set_cons_zero, List.set_cons_succ, i64_w, i32_w]
    rfl
  refine pure_ (i := 6) (N := some 23) (v := ?_) (a' := ?_) #[true, true, true, true, true, true, true, false, false, false, false, false, false, false, false, false, false, false, false, false, false, false, false, false, false, false] rfl rfl (any_of HT_.out (by kernel_rfl)) (fun _ _ _ h => h) (Or.inl ⟨by rfl, ?_⟩) ?_ ?_
  rotate_left
  · intro w'
    go_simp
    with_reducible rfl
  rotate_left
  · simp only [Act.put, List.setIfInBounds_toArray, List.set_cons_zero, List.set_cons_succ, i64_w, i32_w]
    rfl
  refine pure_ (i := 7) (N := some 24) (v := ?_) (a' := ?_) #[true, true, true, true, true, true, true, true, false, false, false, false, false, false, false, false, false, false, false, false, false, false, false, false, false, false] rfl rfl (any_of HT_.out (by kernel_rfl)) (fun _ _ _ h => h) (Or.inl ⟨by rfl, ?_⟩) ?_ ?_
  rotate_left
  · intro w'
    go_simp
    with_reducible rfl
  rotate_left
  · simp only [Act.put, List.setIfInBounds_toArray, List.set_cons_zero, List.set_cons_succ, i64_w, i32_w]
    rfl
  refine pure_ (i := 8) (N := some 25) (v := ?_) (a' := ?_) #[true, true, true, true, true, true, true, true, true, false, false, false, false, false, false, false, false, false, false, false, false, false, false, false, false, false] rfl rfl (any_of HT_.out (by kernel_rfl)) (fun _ _ _ h => h) (Or.inl ⟨by rfl, ?_⟩) ?_ ?_
  rotate_left
  · intro w'
    go_simp
    with_reducible rfl
  rotate_left
  · simp only [Act.put, List.setIfInBounds_toArray, List.set_cons_zero, List.set_cons_succ, i64_w, i32_w]
    rfl
  refine pure_ (i := 9) (N := some 26) (v := ?_) (a' := ?_) #[true, true, true, true, true, true, true, true, true, true, false, false, false, false, false, false, false, false, false, false, false, false, false, false, false, false] rfl rfl (any_of HT_.out (by kernel_rfl)) (fun _ _ _ h => h) (Or.inl ⟨by rfl, ?_⟩) ?_ ?_
  rotate_left
  · intro w'
    go_simp
    with_reducible rfl
  rotate_left
  · simp only [Act.put, List.setIfInBounds_toArray, List.set_cons_zero, List.set_cons_succ, i64_w, i32_w]
    rfl
  refine pure_ (i := 10) (N := some 27) (v := ?_) (a' := ?_) #[true, true, true, true, true, true, true, true, true, true, true, false, false, false, false, false, false, false, false, false, false, false, false, false, false, false] rfl rfl (any_of HT_.out (by kernel_rfl)) (fun _ _ _ h => h) (Or.inl ⟨by rfl, ?_⟩) ?_ ?_
  rotate_left
  · intro w'
    go_simp
    with_reducible rfl
  rotate_left
  · simp only [Act.put, List.setIfInBounds_toArray, List.set_cons_zero, List.set_cons_succ, i64_w, i32_w]
    rfl
  refine pure_ (i := 11) (N := some 28) (v := ?_) (a' := ?_) #[true, true, true, true, true, true, true, true, true, true, true, true, false, false, false, false, false, false, false, false, false, false, false, false, false, false] rfl rfl (any_of HT_.out (by kernel_rfl)) (fun _ _ _ h => h) (Or.inl ⟨by rfl, ?_⟩) ?_ ?_
  rotate_left
  · intro w'
    go_simp
    with_reducible rfl
  rotate_left
  · simp only [Act.put, List.setIfInBounds_toArray, List.set_cons_zero, List.set_cons_succ, i64_w, i32_w]
    rfl
  refine pure_ (i := 12) (N := some 29) (v := ?_) (a' := ?_) #[true, true, true, true, true, true, true, true, true, true, true, true, true, false, false, false, false, false, false, false, false, false, false, false, false, false] rfl rfl (any_of HT_.out (by kernel_rfl)) (fun _ _ _ h => h) (Or.inl ⟨by rfl, ?_⟩) ?_ ?_
  rotate_left
  · intro w'
    go_simp
    with_reducible rfl
  rotate_left
  · simp only [Act.put, List.setIfInBounds_toArray, List.set_cons_zero, List.set_cons_succ, i64_w, i32_w]
    rfl
  refine pure_ (i := 13) (N := some 30) (v := ?_) (a' := ?_) #[true, true, true, true, true, true, true, true, true, true, true, true, true, true, false, false, false, false, false, false, false, false, false, false, false, false] rfl rfl (any_of HT_.out (by kernel_rfl)) (fun _ _ _ h => h) (Or.inl ⟨by rfl, ?_⟩) ?_ ?_
  rotate_left
  · intro w'
    go_simp
    with_reducible rfl
  rotate_left
  · simp only [Act.put, List.setIfInBounds_toArray, List.set_cons_zero, List.set_cons_succ, i64_w, i32_w]
    rfl
  refine pure_ (i := 14) (N := some 31) (v := ?_) (a' := ?_) #[true, true, true, true, true, true, true, true, true, true, true, true, true, true, true, false, false, false, false, false, false, false, false, false, false, false] rfl rfl (any_of HT_.out (by kernel_rfl)) (fun _ _ _ h => h) (Or.inl ⟨by rfl, ?_⟩) ?_ ?_
  rotate_left
  · intro w'
    go_simp
    with_reducible rfl
  rotate_left
  · simp only [Act.put, List.setIfInBounds_toArray, List.set_cons_zero, List.set_cons_succ, i64_w, i32_w]
    rfl
  refine pure_ (i := 15) (N := some 32) (v := ?_) (a' := ?_) #[true, true, true, true, true, true, true, true, true, true, true, true, true, true, true, true, false, false, false, false, false, false, false, false, false, false] rfl rfl (any_of HT_.out (by kernel_rfl)) (fun _ _ _ h => h) (Or.inl ⟨by rfl, ?_⟩) ?_ ?_
  rotate_left
  · intro w'
    go_simp
    with_reducible rfl
  rotate_left
  · simp only [Act.put, List.setIfInBounds_toArray, List.set_cons_zero, List.set_cons_succ, i64_w, i32_w]
    rfl
  refine take_ (i := 16) (N := some 33) (v := ?_) (a' := ?_) #[true, true, true, true, true, true, true, true, true, true, true, true, true, true, true, true, true, false, false, false, false, false, false, false, false, false] rfl rfl (take_ofW HT_.out HW_.out (by kernel_rfl)) (fun _ _ _ h => h) (Or.inl ⟨by rfl, ?_⟩) hHeld ?_ ?_
  rotate_left
  · rintro w' ⟨s0, s1, s2, s3, s4, s5, s6⟩
    go_simp
    with_reducible rfl
  rotate_left
  · simp only [Act.put, List.setIfInBounds_toArray, List.set_cons_zero, List.set_cons_succ, i64_w, i32_w]
    rfl
  refine one_ (i := 17) (N := some 34) #[true, true, true, true, true, true, true, true, true, true, true, true, true, true, true, true, true, true, false, false, false, false, false, false, false, false] rfl rfl (one_of HT_.out (by kernel_rfl)) (by decide) (fun K hK => ?_)
  refine goes_ Try.func22 (by kernel_rfl) rfl #[] (by rfl) rfl rfl (by simp) ?_
  refine (HSM.out _).mono ?_
  rintro e w5 ⟨A7, c7, A8, c8, rfl, hc7, hC7, hc8, hC8, hb5⟩
  refine ⟨_, rfl, ?_⟩
  have HX5 := Aside0.mk (blk_below (blk_drew HX.out) hb5)
  have HB5 := Aside0.mk (below_step (Below.drew HB4.out) hb5)
  have H5 := Aside0.mk (And.intro H4.out.1 (And.intro (Kd.C_below (Kd.C_drew H4.out.2.1) hb5) (And.intro H4.out.2.2.1 (Kd.C_below (Kd.C_drew H4.out.2.2.2) hb5))))
  have H5b := Aside0.mk (And.intro hc7 (And.intro hC7 (And.intro hc8 hC8)))
  clear hc7 hC7 hc8 hC8 hb5
  have y0 := (blk_cell HX5.out 0).trans rfl
  have y1 := (blk_cell HX5.out 1).trans rfl
  have y2 := (blk_cell HX5.out 2).trans rfl
  have y3 := (blk_cell HX5.out 3).trans rfl
  have y4 := (blk_cell HX5.out 4).trans rfl
  have y5 := (blk_cell HX5.out 5).trans rfl
  have y6 := (blk_cell HX5.out 6).trans rfl
  refine hK.out _ _ ⟨y0, y1, y2, y3, y4, y5, y6⟩ (fun hHeld => ?_)
  clear hK K
  refine norm_ (a' := ?_) ?_ ?_
  rotate_left
  · show Act.put _ (some 34) _ = _
    simp only [Act.put, List.setIfInBounds_toArray, List.set_cons_zero, List.set_cons_succ, i64_w, i32_w]
    rfl
  refine one_ (i := 18) (N := some 35) #[true, true, true, true, true, true, true, true, true, true, true, true, true, true, true, true, true, true, true, false, false, false, false, false, false, false] rfl rfl (one_of HT_.out (by kernel_rfl)) (by decide) (fun K hK => ?_)
  refine goes_ Try.func19 (by kernel_rfl) rfl #[.agg #[.int .i64 7, .int .i64 2, .int .i64 1, .slice A5 ps.length c5, .slice A6 ss.length c6, .int .i64 5, .int .i64 (-9)], .agg #[.int .i64 7, .int .i64 2, .int .i64 1, .slice A7 ps.length c7, .slice A8 ss.length c8, .int .i64 5, .int .i64 (-9)]] (by rfl) rfl rfl (by simp only [List.map_toArray, List.map_cons, List.map_nil]; rfl) ?_
  refine (pupillaw23_same.calls k2 7 2 1 A5 c5 ps A6 c6 ss 5 (-9) 7 2 1 A7 c7 ps A8 c8 ss 5 (-9) true w5 H5.out.2.1 H5.out.1 H5.out.2.2.2 H5.out.2.2.1 H5b.out.2.1 H5b.out.1 H5b.out.2.2.2 H5b.out.2.2.1 HS.out).mono ?_
  rintro e w6 ⟨rfl, hb6⟩
  refine ⟨_, rfl, ?_⟩
  have HX6 := Aside0.mk (blk_below HX5.out hb6)
  have HB6 := Aside0.mk (below_step HB5.out hb6)
  clear hb6
  have z0 := (blk_cell HX6.out 0).trans rfl
  have z1 := (blk_cell HX6.out 1).trans rfl
  have z2 := (blk_cell HX6.out 2).trans rfl
  have z3 := (blk_cell HX6.out 3).trans rfl
  have z4 := (blk_cell HX6.out 4).trans rfl
  have z5 := (blk_cell HX6.out 5).trans rfl
  have z6 := (blk_cell HX6.out 6).trans rfl
  refine hK.out _ _ ⟨z0, z1, z2, z3, z4, z5, z6⟩ (fun hHeld => ?_)
  clear hK K
  refine norm_ (a' := ?_) ?_ ?_
  rotate_left
  · show Act.put _ (some 35) _ = _
    simp only [Act.put, List.setIfInBounds_toArray, List.set_cons_zero, List.set_cons_succ, i64_w, i32_w]
    rfl
  refine pure_ (i := 19) (N := some 36) (v := ?_) (a' := ?_) #[true, true, true, true, true, true, true, true, true, true, true, true, true, true, true, true, true, true, true, true, false, false, false, false, false, false] rfl rfl (any_of HT_.out (by kernel_rfl)) (fun _ _ _ h => h) (Or.inl ⟨by rfl, ?_⟩) ?_ ?_
  rotate_left
  · intro w'
    go_simp
    with_reducible rfl
  rotate_left
  · simp only [Act.put, List.setIfInBounds_toArray, List.set_cons_zero, List.set_cons_succ, i64_w, i32_w]
    rfl
  refine pure_ (i := 20) (N := some 37) (v := ?_) (a' := ?_) #[true, true, true, true, true, true, true, true, true, true, true, true, true, true, true, true, true, true, true, true, true, false, false, false, false, false] rfl rfl (any_of HT_.out (by kernel_rfl)) (fun _ _ _ h => h) (Or.inl ⟨by rfl, ?_⟩) ?_ ?_
  rotate_left
  · intro w'
    go_simp
    with_reducible rfl
  rotate_left
  · simp only [Act.put, List.setIfInBounds_toArray, List.set_cons_zero, List.set_cons_succ, i64_w, i32_w]
    rfl
  refine one_ (i := 21) (N := some 38) #[true, true, true, true, true, true, true, true, true, true, true, true, true, true, true, true, true, true, true, true, true, true, false, false, false, false] rfl rfl (one_of HT_.out (by kernel_rfl)) (by decide) (fun K hK => ?_)
  refine goes_ Try.func22 (by kernel_rfl) rfl #[] (by rfl) rfl rfl (by simp) ?_
  refine (HSM.out _).mono ?_
  rintro e w7 ⟨A9, c9, AA, cA, rfl, hc9, hC9, hcA, hCA, hb7⟩
  refine ⟨_, rfl, ?_⟩
  have HX7 := Aside0.mk (blk_below HX6.out hb7)
  have HB7 := Aside0.mk (below_step HB6.out hb7)
  have H7 := Aside0.mk (And.intro hc9 (And.intro hC9 (And.intro hcA hCA)))
  clear hc9 hC9 hcA hCA hb7
  have y0 := (blk_cell HX7.out 0).trans rfl
  have y1 := (blk_cell HX7.out 1).trans rfl
  have y2 := (blk_cell HX7.out 2).trans rfl
  have y3 := (blk_cell HX7.out 3).trans rfl
  have y4 := (blk_cell HX7.out 4).trans rfl
  have y5 := (blk_cell HX7.out 5).trans rfl
  have y6 := (blk_cell HX7.out 6).trans rfl
  refine hK.out _ _ ⟨y0, y1, y2, y3, y4, y5, y6⟩ (fun hHeld => ?_)
  clear hK K
  refine norm_ (a' := ?_) ?_ ?_
  rotate_left
  · show Act.put _ (some 38) _ = _
    simp only [Act.put, List.setIfInBounds_toArray, List.set_cons_zero, List.set_cons_succ, i64_w, i32_w]
    rfl
  refine one_ (i := 22) (N := some 39) #[true, true, true, true, true, true, true, true, true, true, true, true, true, true, true, true, true, true, true, true, true, true, true, false, false, false] rfl rfl (one_of HT_.out (by kernel_rfl)) (by decide) (fun K hK => ?_)
  refine goes_ Try.func17 (by kernel_rfl) rfl #[.agg #[.int .i64 7, .int .i64 2, .int .i64 1, .slice A9 ps.length c9, .slice AA ss.length cA, .int .i64 5, .int .i64 (-9)]] (by rfl) rfl rfl (by simp only [List.map_toArray, List.map_cons, List.map_nil]; rfl) ?_
  refine (check_any 7 2 1 A9 AA c9 cA ps ss 5 (-9) w7 H7.out.2.1 H7.out.1 H7.out.2.2.2 H7.out.2.2.1).mono ?_
  rintro e w8 ⟨rfl, hb8⟩
  rw [HC.out]
  refine ⟨_, rfl, ?_⟩
  have HX8 := Aside0.mk (blk_below HX7.out hb8)
  have HB8 := Aside0.mk (below_step HB7.out hb8)
  clear hb8
  have z0 := (blk_cell HX8.out 0).trans rfl
  have z1 := (blk_cell HX8.out 1).trans rfl
  have z2 := (blk_cell HX8.out 2).trans rfl
  have z3 := (blk_cell HX8.out 3).trans rfl
  have z4 := (blk_cell HX8.out 4).trans rfl
  have z5 := (blk_cell HX8.out 5).trans rfl
  have z6 := (blk_cell HX8.out 6).trans rfl
  refine hK.out _ _ ⟨z0, z1, z2, z3, z4, z5, z6⟩ (fun hHeld => ?_)
  clear hK K
  refine norm_ (a' := ?_) ?_ ?_
  rotate_left
  · show Act.put _ (some 39) _ = _
    simp only [Act.put, List.setIfInBounds_toArray, List.set_cons_zero, List.set_cons_succ, i64_w, i32_w]
    rfl
  refine pure_ (i := 23) (N := some 40) (v := ?_) (a' := ?_) #[true, true, true, true, true, true, true, true, true, true, true, true, true, true, true, true, true, true, true, true, true, true, true, true, false, false] rfl rfl (any_of HT_.out (by kernel_rfl)) (fun _ _ _ h => h) (Or.inl ⟨by rfl, ?_⟩) ?_ ?_
  rotate_left
  · intro w'
    go_simp
    with_reducible rfl
  rotate_left
  · simp only [Act.put, List.setIfInBounds_toArray, List.set_cons_zero, List.set_cons_succ, i64_w, i32_w]
    rfl
  refine pure_ (i := 24) (N := some 41) (v := ?_) (a' := ?_) #[true, true, true, true, true, true, true, true, true, true, true, true, true, true, true, true, true, true, true, true, true, true, true, true, true, false] rfl rfl (any_of HT_.out (by kernel_rfl)) (fun _ _ _ h => h) (Or.inl ⟨by rfl, ?_⟩) ?_ ?_
  rotate_left
  · intro w'
    go_simp
    with_reducible rfl
  rotate_left
  · simp only [Act.put, List.setIfInBounds_toArray, List.set_cons_zero, List.set_cons_succ, i64_w, i32_w]
    rfl
  refine pure_ (i := 25) (N := some 0) (v := ?_) (a' := ?_) #[true, true, true, true, true, true, true, true, true, true, true, true, true, true, true, true, true, true, true, true, true, true, true, true, true, true] rfl rfl (any_of HT_.out (by kernel_rfl)) (fun _ _ _ h => h) (Or.inl ⟨by rfl, ?_⟩) ?_ ?_
  rotate_left
  · intro w'
    go_simp
    with_reducible rfl
  rotate_left
  · simp only [Act.put, List.setIfInBounds_toArray, List.set_cons_zero, List.set_cons_succ, i64_w, i32_w]
    rfl
  refine done_ (done_of HT_.out (by kernel_rfl)) ?_
  go_wp2
  go_ret
  exact ⟨rfl, HB8.out⟩
end Go.Proofs.Ytmiljlbbacbbpaa
