/- TensorZero: the law comes to true. -/
import Derived.Test.YtklomikdihlcgaaSizedP
namespace Go.Proofs.Ytklomikdihlcgaa
open Go.RowKit PBase
open Go.Proofs.YtklomikdihlcgaaW.PrintWords Go.Proofs.YtklomikdihlcgaaW.PrintLast Go.Proofs.YtklomikdihlcgaaW.PrintMore
set_option linter.unusedVariables false
set_option linter.unusedSimpArgs false

set_option maxHeartbeats 1000000 in
set_option maxRecDepth 100000 in
theorem zero_bad (r c wd : Int) (w : World) (hb : sizedV r c wd ≠ 0) : Calls Try.prog 3 #[.int .i64 r, .int .i64 c, .int .i64 wd] w fun e w' => e = .returned (.bool true) ∧ Below w.heap.size w w' := by
  go_enter Try.func3, Try.ntmps3
  have hZ : tensor_Zero.f 8 r c wd = some (0, 0, 0, [], sizedV r c wd) := by
    unfold tensor_Zero.f
    rw [Sized_eq 6 r c wd, Option.bind_some, if_neg hb]
  generalize hs : sizedV r c wd = s at hb hZ
  have HS := Aside0.mk hs
  clear hs
  go_wp2_with fail
  refine (alive_calls w).mono ?_
  rintro e w1 ⟨rfl, hb1⟩
  have HB1 := Aside0.mk hb1
  clear hb1
  go_wp2_with fail
  refine (tensor_Zero.calls 8 r c wd 0 0 0 [] s w1 hZ).mono ?_
  rintro e w2 ⟨v, rfl, hR, hb2⟩
  have HB2 := Aside0.mk (below_step HB1.out hb2)
  obtain ⟨A, cp, rfl, hle, hC⟩ := Kd.R_reads hR
  have HC := Aside0.mk (And.intro hle hC)
  clear hR hb2 HB1 hle hC
  go_wp2_with fail
  have HI := Aside0.mk (blk_new w2 (Obj.cells #[.int .i64 0, .int .i64 0, .int .i64 0, .slice A 0 cp] 25))
  have HB3 := Aside0.mk (below_alloc HB2.out (Obj.cells #[.int .i64 0, .int .i64 0, .int .i64 0, .slice A 0 cp] 25))
  have HC3 := Aside0.mk (Kd.C_below HC.out.2 (below_alloc (Below.refl w2.heap.size w2) (Obj.cells #[.int .i64 0, .int .i64 0, .int .i64 0, .slice A 0 cp] 25)))
  generalize w2.alloc (Obj.cells #[.int .i64 0, .int .i64 0, .int .i64 0, .slice A 0 cp] 25) = w3 at HI HB3 HC3 ⊢
  generalize w2.heap.size = g at HI ⊢
  refine (pupilref7_Sized.calls 8 r c wd s w3 (by rw [refSized_eq 7, HS.out])).mono ?_
  rintro e w4 ⟨rfl, hb4⟩
  replace hb4 := hb4.below
  have HI4 := Aside0.mk (blk_below HI.out hb4)
  have HB4 := Aside0.mk (below_step HB3.out hb4)
  have HC4 := Aside0.mk (Kd.C_below HC3.out hb4)
  clear hb4 HI HB3 HC3 HB2
  have hne : (s != 0) = true := by simpa using hb
  go_wp2_with fail
  refine (pupillaw7_num.calls s s w4 rfl).mono ?_
  rintro e w5 ⟨rfl, hb5⟩
  replace hb5 := hb5.below
  have HI5 := Aside0.mk (blk_below HI4.out hb5)
  have HB5 := Aside0.mk (below_step HB4.out hb5)
  have HC5 := Aside0.mk (Kd.C_below HC4.out hb5)
  clear hb5 HI4 HB4 HC4
  have a0 := blk_cell HI5.out 0
  have a1 := blk_cell HI5.out 1
  have a2 := blk_cell HI5.out 2
  have a3 := blk_cell HI5.out 3
  simp only [List.getElem?_toArray, List.getElem?_cons_zero, List.getElem?_cons_succ] at a0 a1 a2 a3
  go_wp2_with fail
  refine (pupillaw7_Exact.calls 3 0 0 0 A cp [] 0 0 0 none 0 [] true w5 HC5.out HC.out.1 ⟨rfl, by simp, fun h => absurd h (by simp)⟩ (Nat.le_refl _) (exact_self 2 0 0 0 [] (by simp) (by simp))).mono ?_
  rintro e w6 ⟨rfl, hb6⟩
  have HB6 := Aside0.mk (below_step HB5.out hb6)
  clear hb6
  go_wp2
  go_ret
  exact ⟨rfl, HB6.out⟩

def F3RT6 : Bool × List (List Nat × List Nat) := (true, [([], []), ([0], [0]), ([1], [1]), ([2, 1, 1], [1, 2]), ([3, 1], [1, 3]), ([1, 4], [1, 4]), ([5, 3], [5]), ([6], [6]), ([6], [6]), ([6], [6]), ([6], [6]), ([8, 9, 10, 6], [6, 8, 9, 10]), ([11, 6, 6], [6, 11]), ([7, 12, 12, 6], [6, 7, 12]), ([6, 13], [6, 13]), ([14, 13, 0, 1, 2, 3, 4, 5, 6, 7, 8, 9, 10, 11, 12, 13, 14], [14])])
def F3RB6 : List Nat := [0, 1, 3, 7, 15, 31, 63, 127, 127, 127, 127, 1919, 3967, 8191, 16383, 32767]
theorem F3Rtab6 : rtab .any (opsOf Try.f3 6) = F3RT6 := by kernel_rfl
theorem F3Rbits6 : waitsOk F3RT6.2 F3RB6 = true := by kernel_rfl
set_option maxHeartbeats 1000000 in
set_option maxRecDepth 100000 in
theorem zero_good (r c wd : Int) (w : World) (hb : sizedV r c wd = 0) : Calls Try.prog 3 #[.int .i64 r, .int .i64 c, .int .i64 wd] w fun e w' => e = .returned (.bool true) ∧ Below w.heap.size w w' := by
  have hrc : 1 ≤ r ∧ 1 ≤ c ∧ r ≤ 4096 ∧ c ≤ 4096 ∧ r * c ≤ 4096 := by
    unfold sizedV at hb
    split at hb
    · omega
    · split at hb
      · omega
      · split at hb
        · omega
        · omega
  obtain ⟨h1, h2, h3, h4, h5⟩ := hrc
  obtain ⟨hm, hm1, hm2⟩ := mul_ok h1 h2 h3 h4
  obtain ⟨n, hn⟩ : ∃ n : Nat, r * c = n := ⟨(r * c).toNat, by omega⟩
  have hZ : tensor_Zero.f 8 r c wd = some (r, c, wd, List.replicate n 0, 0) := by
    unfold tensor_Zero.f
    rw [Sized_eq 6 r c wd, hb, Option.bind_some, if_pos rfl, hm, hn, if_pos (by omega), if_pos (by simp; omega)]; simp
  have hR : pupilref7_Zero.f r c wd = some (r, c, wd, List.replicate n 0) := by
    unfold pupilref7_Zero.f
    rw [hm, hn, if_pos (by omega), if_pos (by simp; omega)]; simp
  have hlen : (List.replicate n (0:Int)).length = n := List.length_replicate
  have hn4 : n ≤ 4096 := by omega
  generalize hL : List.replicate n (0:Int) = L at hZ hR hlen
  clear hL
  have hZ1 := Aside0.mk hZ
  have hR1 := Aside0.mk hR
  have HS := Aside0.mk hb
  have HX := Aside0.mk (exact_self L.length.succ r c wd L (by omega) (by omega))
  have HLN := Aside0.mk hlen
  clear hZ hR hb hlen hn4 h1 h2 h3 h4 h5 hm hm1 hm2 hn
  go_enter Try.func3, Try.ntmps3
  go_wp2_with fail
  refine (alive_calls w).mono ?_
  rintro e w1 ⟨rfl, hb1⟩
  have HB1 := Aside0.mk hb1
  clear hb1
  go_wp2_with fail
  refine (tensor_Zero.calls 8 r c wd r c wd L 0 w1 hZ1.out).mono ?_
  rintro e w2 ⟨v, rfl, hR, hb2⟩
  have HB2 := Aside0.mk (below_step HB1.out hb2)
  obtain ⟨A, cp, rfl, hle, hC⟩ := Kd.R_reads hR
  have HC := Aside0.mk (And.intro hle hC)
  clear hR hb2 HB1 hle hC
  obtain ⟨ln, hln⟩ : ∃ ln, ln = L.length := ⟨_, rfl⟩
  have HLL := Aside0.mk hln
  rw [← hln]
  clear hln
  go_wp2_with fail
  have HI := Aside0.mk (blk_new w2 (Obj.cells #[.int .i64 r, .int .i64 c, .int .i64 wd, .slice A ln cp] 25))
  have HB3 := Aside0.mk (below_alloc HB2.out (Obj.cells #[.int .i64 r, .int .i64 c, .int .i64 wd, .slice A ln cp] 25))
  have HC3 := Aside0.mk (Kd.C_below HC.out.2 (below_alloc (Below.refl w2.heap.size w2) (Obj.cells #[.int .i64 r, .int .i64 c, .int .i64 wd, .slice A ln cp] 25)))
  generalize w2.alloc (Obj.cells #[.int .i64 r, .int .i64 c, .int .i64 wd, .slice A ln cp] 25) = w3 at HI HB3 HC3 ⊢
  generalize w2.heap.size = g at HI ⊢
  have HLE := Aside0.mk HC.out.1
  clear HC HB2
  refine (pupilref7_Sized.calls 8 r c wd 0 w3 (by rw [refSized_eq 7, HS.out])).mono ?_
  rintro e w4 ⟨rfl, hb4⟩
  replace hb4 := hb4.below
  have HI4 := Aside0.mk (blk_below HI.out hb4)
  have HB4 := Aside0.mk (below_step HB3.out hb4)
  have HC4 := Aside0.mk (Kd.C_below HC3.out hb4)
  clear hb4 HI HB3 HC3
  have a0 := blk_cell HI4.out 0
  have a1 := blk_cell HI4.out 1
  have a2 := blk_cell HI4.out 2
  have a3 := blk_cell HI4.out 3
  simp only [List.getElem?_toArray, List.getElem?_cons_zero, List.getElem?_cons_succ] at a0 a1 a2 a3
  go_wp2
  refine start_ (n := 16) (S := fun w' => w'.cell? ⟨g, 0, none⟩ = some (.int .i64 r) ∧ w'.cell? ⟨g, 1, none⟩ = some (.int .i64 c) ∧ w'.cell? ⟨g, 2, none⟩ = some (.int .i64 wd) ∧ w'.cell? ⟨g, 3, none⟩ = some (.slice A ln cp)) (ds := []) #[false, false, false, false, false, false, false, false, false, false, false, false, false, false, false, false] (by kernel_rfl) rfl rfl ⟨a0, a1, a2, a3⟩ (fun hHeld => ?_)
  refine with_tabW F3Rtab6 F3Rbits6 (fun HT_ HW_ => ?_)
  refine pure_ (i := 0) (N := some 37) (v := ?_) (a' := ?_) #[true, false, false, false, false, false, false, false, false, false, false, false, false, false, false, false] rfl rfl (any_of HT_.out (by kernel_rfl)) (fun _ _ _ h => h) (Or.inl ⟨by rfl, ?_⟩) ?_ ?_
  rotate_left
  · intro w'
    go_simp
    with_reducible rfl
  rotate_left
  · simp only [Act.put, List.setIfInBounds_toArray, List.set_cons_zero, List.set_cons_succ, i64_w, i32_w]
    rfl
  refine pure_ (i := 1) (N := some 38) (v := ?_) (a' := ?_) #[true, true, false, false, false, false, false, false, false, false, false, false, false, false, false, false] rfl rfl (any_of HT_.out (by kernel_rfl)) (fun _ _ _ h => h) (Or.inl ⟨by rfl, ?_⟩) ?_ ?_
  rotate_left
  · intro w'
    go_simp
    with_reducible rfl
  rotate_left
  · simp only [Act.put, List.setIfInBounds_toArray, List.set_cons_zero, List.set_cons_succ, i64_w, i32_w]
    rfl
  refine pure_ (i := 2) (N := some 39) (v := ?_) (a' := ?_) #[true, true, true, false, false, false, false, false, false, false, false, false, false, false, false, false] rfl rfl (any_of HT_.out (by kernel_rfl)) (fun _ _ _ h => h) (Or.inl ⟨by rfl, ?_⟩) ?_ ?_
  rotate_left
  · intro w'
    go_simp
    with_reducible rfl
  rotate_left
  · simp only [Act.put, List.setIfInBounds_toArray, List.set_cons_zero, List.set_cons_succ, i64_w, i32_w]
    rfl
  refine one_ (i := 3) (N := some 40) #[true, true, true, true, false, false, false, false, false, false, false, false, false, false, false, false] rfl rfl (one_of HT_.out (by kernel_rfl)) (by decide) (fun K hK => ?_)
  refine goes_ Try.func15 (by kernel_rfl) rfl #[.int .i64 0] (by rfl) rfl rfl (by simp only [List.map_toArray, List.map_cons, List.map_nil]; rfl) ?_
  with_reducible refine (pupillaw7_num.calls 0 0 _ rfl).mono ?_
  rintro e w5 ⟨rfl, hb⟩
  refine ⟨_, rfl, ?_⟩
  replace hb := hb.below
  have HI5 := Aside0.mk (blk_below (blk_drew HI4.out) hb)
  have HB5 := Aside0.mk (below_step (Below.drew HB4.out) hb)
  have HC5 := Aside0.mk (Kd.C_below (Kd.C_drew HC4.out) hb)
  have b0 := blk_cell HI5.out 0
  have b1 := blk_cell HI5.out 1
  have b2 := blk_cell HI5.out 2
  have b3 := blk_cell HI5.out 3
  simp only [List.getElem?_toArray, List.getElem?_cons_zero, List.getElem?_cons_succ] at b0 b1 b2 b3
  refine hK.out _ _ ⟨b0, b1, b2, b3⟩ (fun hHeld => ?_)
  clear hK K
  refine norm_ (a' := ?_) ?_ ?_
  rotate_left
  · show Act.put _ (some 40) _ = _
    simp only [Act.put, List.setIfInBounds_toArray, List.set_cons_zero, List.set_cons_succ, i64_w, i32_w]
    rfl
  refine pure_ (i := 4) (N := some 41) (v := ?_) (a' := ?_) #[true, true, true, true, true, false, false, false, false, false, false, false, false, false, false, false] rfl rfl (any_of HT_.out (by kernel_rfl)) (fun _ _ _ h => h) (Or.inl ⟨by rfl, ?_⟩) ?_ ?_
  rotate_left
  · intro w'
    go_simp
    with_reducible rfl
  rotate_left
  · simp only [Act.put, List.setIfInBounds_toArray, List.set_cons_zero, List.set_cons_succ, i64_w, i32_w]
    rfl
  refine pure_ (i := 5) (N := some 42) (v := ?_) (a' := ?_) #[true, true, true, true, true, true, false, false, false, false, false, false, false, false, false, false] rfl rfl (any_of HT_.out (by kernel_rfl)) (fun _ _ _ h => h) (Or.inl ⟨by rfl, ?_⟩) ?_ ?_
  rotate_left
  · intro w'
    go_simp
    with_reducible rfl
  rotate_left
  · simp only [Act.put, List.setIfInBounds_toArray, List.set_cons_zero, List.set_cons_succ, i64_w, i32_w]
    rfl
  refine pure_ (i := 6) (N := some 43) (v := ?_) (a' := ?_) #[true, true, true, true, true, true, true, false, false, false, false, false, false, false, false, false] rfl rfl (any_of HT_.out (by kernel_rfl)) (fun _ _ _ h => h) (Or.inl ⟨by rfl, ?_⟩) ?_ ?_
  rotate_left
  · intro w'
    go_simp
    with_reducible rfl
  rotate_left
  · simp only [Act.put, List.setIfInBounds_toArray, List.set_cons_zero, List.set_cons_succ, i64_w, i32_w]
    rfl
  refine pure_ (i := 8) (N := some 45) (v := ?_) (a' := ?_) #[true, true, true, true, true, true, true, false, true, false, false, false, false, false, false, false] rfl rfl (any_of HT_.out (by kernel_rfl)) (fun _ _ _ h => h) (Or.inl ⟨by rfl, ?_⟩) ?_ ?_
  rotate_left
  · intro w'
    go_simp
    with_reducible rfl
  rotate_left
  · simp only [Act.put, List.setIfInBounds_toArray, List.set_cons_zero, List.set_cons_succ, i64_w, i32_w]
    rfl
  refine pure_ (i := 9) (N := some 46) (v := ?_) (a' := ?_) #[true, true, true, true, true, true, true, false, true, true, false, false, false, false, false, false] rfl rfl (any_of HT_.out (by kernel_rfl)) (fun _ _ _ h => h) (Or.inl ⟨by rfl, ?_⟩) ?_ ?_
  rotate_left
  · intro w'
    go_simp
    with_reducible rfl
  rotate_left
  · simp only [Act.put, List.setIfInBounds_toArray, List.set_cons_zero, List.set_cons_succ, i64_w, i32_w]
    rfl
  refine pure_ (i := 10) (N := some 47) (v := ?_) (a' := ?_) #[true, true, true, true, true, true, true, false, true, true, true, false, false, false, false, false] rfl rfl (any_of HT_.out (by kernel_rfl)) (fun _ _ _ h => h) (Or.inl ⟨by rfl, ?_⟩) ?_ ?_
  rotate_left
  · intro w'
    go_simp
    with_reducible rfl
  rotate_left
  · simp only [Act.put, List.setIfInBounds_toArray, List.set_cons_zero, List.set_cons_succ, i64_w, i32_w]
    rfl
  refine pure_ (i := 11) (N := some 48) (v := ?_) (a' := ?_) #[true, true, true, true, true, true, true, false, true, true, true, true, false, false, false, false] rfl rfl (any_of HT_.out (by kernel_rfl)) (fun _ _ _ h => h) (Or.inl ⟨by rfl, ?_⟩) ?_ ?_
  rotate_left
  · intro w'
    go_simp
    with_reducible rfl
  rotate_left
  · simp only [Act.put, List.setIfInBounds_toArray, List.set_cons_zero, List.set_cons_succ, i64_w, i32_w]
    rfl
  refine take_ (i := 7) (N := some 44) (v := ?_) (a' := ?_) #[true, true, true, true, true, true, true, true, true, true, true, true, false, false, false, false] rfl rfl (take_ofW HT_.out HW_.out (by kernel_rfl)) (fun _ _ _ h => h) (Or.inl ⟨by rfl, ?_⟩) hHeld ?_ ?_
  rotate_left
  · rintro w' ⟨s0, s1, s2, s3⟩
    go_simp
    with_reducible rfl
  rotate_left
  · simp only [Act.put, List.setIfInBounds_toArray, List.set_cons_zero, List.set_cons_succ, i64_w, i32_w]
    rfl
  refine one_ (i := 12) (N := some 49) #[true, true, true, true, true, true, true, true, true, true, true, true, true, false, false, false] rfl rfl (one_of HT_.out (by kernel_rfl)) (by decide) (fun K hK => ?_)
  refine goes_ Try.func17 (by kernel_rfl) rfl #[.agg #[.int .i64 r, .int .i64 c, .int .i64 wd]] (by rfl) rfl rfl (by simp only [List.map_toArray, List.map_cons, List.map_nil]; rfl) ?_
  with_reducible refine (pupilref7_Zero.calls r c wd r c wd L w5 hR1.out).mono ?_
  rintro e w6 ⟨v6, rfl, hR6, hb⟩
  obtain ⟨A6, cp6, rfl, hle6, hC6⟩ := Kd.R_reads hR6
  refine ⟨_, rfl, ?_⟩
  have HI6 := Aside0.mk (blk_below HI5.out hb)
  have HB6 := Aside0.mk (below_step HB5.out hb)
  have HC6 := Aside0.mk (Kd.C_below HC5.out hb)
  have HD6 := Aside0.mk (And.intro hle6 hC6)
  rw [← HLL.out]
  have b0 := blk_cell HI6.out 0
  have b1 := blk_cell HI6.out 1
  have b2 := blk_cell HI6.out 2
  have b3 := blk_cell HI6.out 3
  simp only [List.getElem?_toArray, List.getElem?_cons_zero, List.getElem?_cons_succ] at b0 b1 b2 b3
  refine hK.out _ _ ⟨b0, b1, b2, b3⟩ (fun hHeld => ?_)
  clear hK K
  refine norm_ (a' := ?_) ?_ ?_
  rotate_left
  · show Act.put _ (some 49) _ = _
    simp only [Act.put, List.setIfInBounds_toArray, List.set_cons_zero, List.set_cons_succ, i64_w, i32_w]
    rfl
  refine one_ (i := 13) (N := some 50) #[true, true, true, true, true, true, true, true, true, true, true, true, true, true, false, false] rfl rfl (one_of HT_.out (by kernel_rfl)) (by decide) (fun K hK => ?_)
  have HE := pupillaw7_Exact.calls (L.length.succ + 1) r c wd A cp L r c wd A6 cp6 L true w6 HC6.out HLE.out HD6.out.2 HD6.out.1 HX.out
  rw [← HLL.out] at HE
  refine goes_ Try.func16 (by kernel_rfl) rfl #[.agg #[.int .i64 r, .int .i64 c, .int .i64 wd, .slice A ln cp], .agg #[.int .i64 r, .int .i64 c, .int .i64 wd, .slice A6 ln cp6]] (by rfl) rfl rfl (by simp only [List.map_toArray, List.map_cons, List.map_nil]; rfl) ?_
  refine HE.mono ?_
  rintro e w7 ⟨rfl, hb⟩
  refine ⟨_, rfl, ?_⟩
  have HI7 := Aside0.mk (blk_below HI6.out hb)
  have HB7 := Aside0.mk (below_step HB6.out hb)
  have b0 := blk_cell HI7.out 0
  have b1 := blk_cell HI7.out 1
  have b2 := blk_cell HI7.out 2
  have b3 := blk_cell HI7.out 3
  simp only [List.getElem?_toArray, List.getElem?_cons_zero, List.getElem?_cons_succ] at b0 b1 b2 b3
  refine hK.out _ _ ⟨b0, b1, b2, b3⟩ (fun hHeld => ?_)
  clear hK K
  refine norm_ (a' := ?_) ?_ ?_
  rotate_left
  · show Act.put _ (some 50) _ = _
    simp only [Act.put, List.setIfInBounds_toArray, List.set_cons_zero, List.set_cons_succ, i64_w, i32_w]
    rfl
  refine pure_ (i := 14) (N := some 51) (v := ?_) (a' := ?_) #[true, true, true, true, true, true, true, true, true, true, true, true, true, true, true, false] rfl rfl (any_of HT_.out (by kernel_rfl)) (fun _ _ _ h => h) (Or.inl ⟨by rfl, ?_⟩) ?_ ?_
  rotate_left
  · intro w'
    go_simp
    with_reducible rfl
  rotate_left
  · simp only [Act.put, List.setIfInBounds_toArray, List.set_cons_zero, List.set_cons_succ, i64_w, i32_w]
    rfl
  refine pure_ (i := 15) (N := some 6) (v := ?_) (a' := ?_) #[true, true, true, true, true, true, true, true, true, true, true, true, true, true, true, true] rfl rfl (any_of HT_.out (by kernel_rfl)) (fun _ _ _ h => h) (Or.inl ⟨by rfl, ?_⟩) ?_ ?_
  rotate_left
  · intro w'
    go_simp
    with_reducible rfl
  rotate_left
  · simp only [Act.put, List.setIfInBounds_toArray, List.set_cons_zero, List.set_cons_succ, i64_w, i32_w]
    rfl
  refine done_ (done_of HT_.out (by kernel_rfl)) ?_
  go_wp2
  go_ret
  exact ⟨rfl, HB7.out⟩

theorem zero_calls (r c wd : Int) (w : World) : Calls Try.prog 3 #[.int .i64 r, .int .i64 c, .int .i64 wd] w fun e w' => e = .returned (.bool true) ∧ Below w.heap.size w w' := by
  by_cases hb : sizedV r c wd = 0
  · exact zero_good r c wd w hb
  · exact zero_bad r c wd w hb

end Go.Proofs.Ytklomikdihlcgaa
