/- pupilref7.Moved: the matrix that a move makes. -/
import Derived.Test.YtklomikdihlcgaaMgD
import Derived.Test.YtklomikdihlcgaaInR
namespace Go.Proofs.Ytklomikdihlcgaa
open Go.RowKit PBase
open Go.Proofs.YtklomikdihlcgaaW.PrintWords Go.Proofs.YtklomikdihlcgaaW.PrintLast Go.Proofs.YtklomikdihlcgaaW.PrintMore
set_option linter.unusedVariables false
set_option linter.unusedSimpArgs false

theorem elem_range {ms : List Mat} (h : ∀ m ∈ ms, InR m.2.2.2) (p : Int × Int) : -9223372036854775808 ≤ elemAt ms p ∧ elemAt ms p ≤ 9223372036854775807 := by
  unfold elemAt matAt
  rw [List.getD_eq_getElem?_getD (l := ms)]
  cases hm : ms[p.1.toNat]? with
  | none => simp
  | some m => exact rd_range (h m (List.mem_of_getElem? hm)) p.2
theorem elems_range {ms : List Mat} (h : ∀ m ∈ ms, InR m.2.2.2) (ps : List (Int × Int)) : InR (ps.map fun p => elemAt ms p) := by
  intro x hx
  obtain ⟨p, _, rfl⟩ := List.mem_map.1 hx
  exact elem_range h p

def F46RT5 : Bool × List (List Nat × List Nat) := (true, [([], []), ([0], [0]), ([], []), ([], []), ([3], [3]), ([], []), ([4, 5], [4, 5]), ([6], [6]), ([7], [7]), ([2, 8], [2, 8]), ([9], [9]), ([10], [10]), ([], []), ([12], [12]), ([], []), ([13, 14], [13, 14]), ([15], [15]), ([16], [16]), ([11, 17], [11, 17]), ([18], [18]), ([19], [19]), ([1, 20], [1, 20]), ([0, 1, 2, 3, 4, 5, 6, 7, 8, 9, 10, 11, 12, 13, 14, 15, 16, 17, 18, 19, 20, 21], []), ([22, 21, 21, 0, 1, 2, 3, 4, 5, 6, 7, 8, 9, 10, 11, 12, 13, 14, 15, 16, 17, 18, 19, 20, 21], [21, 22])])
def F46RB5 : List Nat := [0, 1, 0, 0, 8, 0, 56, 120, 248, 508, 1020, 2044, 0, 4096, 0, 28672, 61440, 126976, 262140, 524284, 1048572, 2097151, 4194303, 8388607]
theorem F46Rtab5 : rtab .any (opsOf Try.f46 5) = F46RT5 := by kernel_rfl
theorem F46Rbits5 : waitsOk F46RT5.2 F46RB5 = true := by kernel_rfl
set_option maxHeartbeats 2000000 in
set_option maxRecDepth 100000 in
theorem refMoved_calls (x0 x1 wd : Int) (B : Option Addr) (cF : Nat) (ps : List (Int × Int)) (A : Option Addr) (cA : Nat) (ms : List Mat) (w : World) (hw : wd = 32 ∨ wd = 64)
    (hF : two.C w B ps.length ps) (hcF : ps.length ≤ cF) (hM : matK.C w A ms.length ms) (hcM : ms.length ≤ cA) (hl : ps.length ≤ 1000000) (hin : ∀ p ∈ ps, inMs ms p) (hr : ∀ m ∈ ms, InR m.2.2.2) :
    Calls Try.prog 46 #[.agg #[.int .i64 x0, .int .i64 x1, .int .i64 wd, .slice B ps.length cF], .slice A ms.length cA] w fun e w' => ∃ v, e = .returned (.agg #[.int .i64 x0, .int .i64 x1, .int .i64 wd, v]) ∧ Ints w w' v (ps.map fun p => cleanV wd (elemAt ms p)) ∧ Below w.heap.size w w' := by
  go_enter Try.func46, Try.ntmps46
  have HH := Aside0.mk (And.intro hF (And.intro hcF (And.intro hM (And.intro hcM (And.intro hl (And.intro hin (And.intro hw hr)))))))
  clear hF hcF hM hcM hl hin hw hr
  go_wp2
  generalize hw1 : (((w.alloc (Obj.cells #[Value.int IntKind.i64 x0, Value.int IntKind.i64 x1, Value.int IntKind.i64 wd, Value.slice B ps.length cF] 60)).alloc (Obj.cells #[Value.int IntKind.i64 0, Value.int IntKind.i64 0, Value.int IntKind.i64 0, Value.slice none 0 0] 25)).alloc (Obj.cells #[Value.int IntKind.i64 x0, Value.int IntKind.i64 x1, Value.int IntKind.i64 wd, Value.slice none 0 0] 25)) = w1
  have H0 : Aside0 (IsB w1 w.heap.size (row4 x0 x1 wd (.slice B ps.length cF)) 60) := ⟨by rw [← hw1]; exact blk_alloc (blk_alloc (blk_new _ _) _) _⟩
  have H1 : Aside0 (IsB w1 (w.heap.size + 1) (row4 0 0 0 (.slice none 0 0)) 25) := ⟨by rw [← hw1]; exact blk_alloc (new1 w _ _ 60 25) _⟩
  have H2 : Aside0 (IsB w1 (w.heap.size + 1 + 1) (row4 x0 x1 wd (.slice none 0 0)) 25) := ⟨by rw [← hw1]; have h := blk_new ((w.alloc (Obj.cells #[Value.int IntKind.i64 x0, Value.int IntKind.i64 x1, Value.int IntKind.i64 wd, Value.slice B ps.length cF] 60)).alloc (Obj.cells #[Value.int IntKind.i64 0, Value.int IntKind.i64 0, Value.int IntKind.i64 0, Value.slice none 0 0] 25)) (Obj.cells #[Value.int IntKind.i64 x0, Value.int IntKind.i64 x1, Value.int IntKind.i64 wd, Value.slice none 0 0] 25); simp only [World.size_alloc] at h; exact h⟩
  have HB : Aside0 (Below w.heap.size w w1) := ⟨by rw [← hw1]; exact below_alloc (below_alloc (below_alloc (Below.refl _ _) _) _) _⟩
  clear hw1
  go_loopg [6] ps.length (fun kq v6 w' => ∃ i : Nat, v6 = .int .i64 i ∧ Aside0 (i + kq = ps.length) ∧ Aside0 (IsB w' w.heap.size (row4 x0 x1 wd (.slice B ps.length cF)) 60) ∧ Aside0 (IsB w' (w.heap.size + 1) (row4 0 0 0 (.slice none 0 0)) 25) ∧ (∃ v, Aside0 (IsB w' (w.heap.size + 1 + 1) (row4 x0 x1 wd v) 25) ∧ Aside0 (Ints w w' v ((ps.take i).map fun p => elemAt ms p))) ∧ Aside0 (Below w.heap.size w w'))
  case atStart => exact ⟨0, rfl, ⟨by omega⟩, H0, H1, ⟨_, H2, ⟨Kd.R_nil _ _ _ _ _⟩⟩, HB⟩
  case round =>
    clear H0 H1 H2 HB
    obtain ⟨i, rfl, HI, H0, H1, ⟨v, H2, HP⟩, HB⟩ := hrel
    have a3 := blk_cell H0.out 3
    simp only [List.getElem?_toArray, List.getElem?_cons_zero, List.getElem?_cons_succ] at a3
    by_cases hlt : i < ps.length
    · have d1 : decide (i < ps.length) = true := decide_eq_true hlt
      obtain ⟨ad, hB, g0, g1⟩ := place_cells HH.out.1 i hlt
      have hin := HH.out.2.2.2.2.2.1 _ (List.getElem_mem hlt)
      have hpe : ps.getD i (0, 0) = ps[i] := by simp [List.getD_eq_getElem?_getD, hlt]
      rw [hpe] at g0 g1
      have htk : (ps.take (i + 1)).map (fun p => elemAt ms p) = (ps.take i).map (fun p => elemAt ms p) ++ [elemAt ms ps[i]] := by
        rw [List.take_succ_eq_append_getElem hlt, List.map_append]; rfl
      have HTK := Aside0.mk htk
      generalize ps[i] = p at g0 g1 hin HTK
      clear htk hpe
      obtain ⟨pa, pb⟩ := p
      have HLT := Aside0.mk hlt
      have g0' := (HB.out.cell (World.block_lt_of_cell? w _ g0)).trans g0
      have g1' := (HB.out.cell (World.block_lt_of_cell? w _ g1)).trans g1
      rw [add_succ] at g1'
      have G0 := Aside0.mk g0
      have G1 := Aside0.mk g1
      clear g0 g1
      obtain ⟨adA, E, cE, hA, mE, hle, hCE⟩ := mat_cells HH.out.2.2.1 pa hin.1 hin.2.1
      obtain ⟨adE, hE, mb⟩ := Kd.at_int hCE pb hin.2.2.1 hin.2.2.2
      subst hB hA hE
      rw [add_three] at mE
      have ME := Aside0.mk mE
      have MB := Aside0.mk mb
      have pa0 := eq_true hin.1
      have pa1 := eq_true hin.2.1
      have pb0 := eq_true hin.2.2.1
      have pb1 := eq_true hin.2.2.2
      have hi1 := eq_true hlt
      have hrd : rd (matAt ms pa).2.2.2 pb = elemAt ms (pa, pb) := rfl
      rw [hrd] at mb MB
      clear hrd hin
      have mE3 := (HB.out.cell (World.block_lt_of_cell? w _ mE)).trans mE
      have mb3 := (HB.out.cell (World.block_lt_of_cell? w _ mb)).trans mb
      clear mE mb hlt
      obtain ⟨A2, k2, hv⟩ := Kd.R_slice HP.out
      have hln : ((ps.take i).map fun p => elemAt ms p).length ≤ 1000000 := by rw [List.length_map, List.length_take]; have := HH.out.2.2.2.2.1; omega
      have HLN := Aside0.mk hln
      clear hln
      generalize ((ps.take i).map fun p => elemAt ms p) = L at HP hv HTK HLN
      generalize hll : L.length = ln at hv
      clear hll
      subst hv
      have m3 := blk_cell H2.out 3
      simp only [List.getElem?_toArray, List.getElem?_cons_zero, List.getElem?_cons_succ] at m3
      go_wp2
      generalize elemAt ms (pa, pb) = x at mb3 MB HTK
      refine start_ (n := 24) (S := fun w' => w'.cell? ⟨w.heap.size, 3, none⟩ = some (.slice (some ad) ps.length cF) ∧ w'.cell? ⟨w.heap.size + 1 + 1, 3, none⟩ = some (.slice A2 ln k2) ∧ w'.cell? (ad.add (i * 2)) = some (.int .i64 pa) ∧ w'.cell? ⟨(ad.add (i * 2)).block, (ad.add (i * 2)).off + 1, none⟩ = some (.int .i64 pb) ∧ w'.cell? ⟨(adA.add (pa.toNat * 4)).block, (adA.add (pa.toNat * 4)).off + 3, none⟩ = some (.slice (some adE) (matAt ms pa).2.2.2.length cE) ∧ w'.cell? (adE.add pb.toNat) = some (.int .i64 x)) (ds := [23]) #[false, false, false, false, false, false, false, false, false, false, false, false, false, false, false, false, false, false, false, false, false, false, false, false] (by kernel_rfl) rfl rfl ⟨a3, m3, g0', g1', mE3, mb3⟩ (fun hHeld => ?_)
      refine with_tabW F46Rtab5 F46Rbits5 (fun HT_ HW_ => ?_)
      refine pure_ (i := 0) (N := some 24) (v := ?_) (a' := ?_) #[true, false, false, false, false, false, false, false, false, false, false, false, false, false, false, false, false, false, false, false, false, false, false, false] rfl rfl (any_of HT_.out (by kernel_rfl)) (fun _ _ _ h => h) (Or.inl ⟨by rfl, ?_⟩) ?_ ?_
      rotate_left
      · intro w'
        go_simp
        with_reducible rfl
      rotate_left
      · simp only [Act.put, List.setIfInBounds_toArray, List.set_cons_zero, List.set_cons_succ, i64_w, i32_w]
        rfl
      refine pure_ (i := 2) (N := some 26) (v := ?_) (a' := ?_) #[true, false, true, false, false, false, false, false, false, false, false, false, false, false, false, false, false, false, false, false, false, false, false, false] rfl rfl (any_of HT_.out (by kernel_rfl)) (fun _ _ _ h => h) (Or.inl ⟨by rfl, ?_⟩) ?_ ?_
      rotate_left
      · intro w'
        go_simp
        with_reducible rfl
      rotate_left
      · simp only [Act.put, List.setIfInBounds_toArray, List.set_cons_zero, List.set_cons_succ, i64_w, i32_w]
        rfl
      refine pure_ (i := 3) (N := some 27) (v := ?_) (a' := ?_) #[true, false, true, true, false, false, false, false, false, false, false, false, false, false, false, false, false, false, false, false, false, false, false, false] rfl rfl (any_of HT_.out (by kernel_rfl)) (fun _ _ _ h => h) (Or.inl ⟨by rfl, ?_⟩) ?_ ?_
      rotate_left
      · intro w'
        go_simp
        with_reducible rfl
      rotate_left
      · simp only [Act.put, List.setIfInBounds_toArray, List.set_cons_zero, List.set_cons_succ, i64_w, i32_w]
        rfl
      refine pure_ (i := 5) (N := some 29) (v := ?_) (a' := ?_) #[true, false, true, true, false, true, false, false, false, false, false, false, false, false, false, false, false, false, false, false, false, false, false, false] rfl rfl (any_of HT_.out (by kernel_rfl)) (fun _ _ _ h => h) (Or.inl ⟨by rfl, ?_⟩) ?_ ?_
      rotate_left
      · intro w'
        go_simp
        with_reducible rfl
      rotate_left
      · simp only [Act.put, List.setIfInBounds_toArray, List.set_cons_zero, List.set_cons_succ, i64_w, i32_w]
        rfl
      refine pure_ (i := 12) (N := some 36) (v := ?_) (a' := ?_) #[true, false, true, true, false, true, false, false, false, false, false, false, true, false, false, false, false, false, false, false, false, false, false, false] rfl rfl (any_of HT_.out (by kernel_rfl)) (fun _ _ _ h => h) (Or.inl ⟨by rfl, ?_⟩) ?_ ?_
      rotate_left
      · intro w'
        go_simp
        with_reducible rfl
      rotate_left
      · simp only [Act.put, List.setIfInBounds_toArray, List.set_cons_zero, List.set_cons_succ, i64_w, i32_w]
        rfl
      refine pure_ (i := 14) (N := some 38) (v := ?_) (a' := ?_) #[true, false, true, true, false, true, false, false, false, false, false, false, true, false, true, false, false, false, false, false, false, false, false, false] rfl rfl (any_of HT_.out (by kernel_rfl)) (fun _ _ _ h => h) (Or.inl ⟨by rfl, ?_⟩) ?_ ?_
      rotate_left
      · intro w'
        go_simp
        with_reducible rfl
      rotate_left
      · simp only [Act.put, List.setIfInBounds_toArray, List.set_cons_zero, List.set_cons_succ, i64_w, i32_w]
        rfl
      refine take_ (i := 1) (N := some 25) (v := ?_) (a' := ?_) #[true, true, true, true, false, true, false, false, false, false, false, false, true, false, true, false, false, false, false, false, false, false, false, false] rfl rfl (take_ofW HT_.out HW_.out (by kernel_rfl)) (fun _ _ _ h => h) (Or.inl ⟨by rfl, ?_⟩) hHeld ?_ ?_
      rotate_left
      · rintro w' ⟨s0, s1, s2, s3, s4, s5⟩
        go_simp
        with_reducible rfl
      rotate_left
      · simp only [Act.put, List.setIfInBounds_toArray, List.set_cons_zero, List.set_cons_succ, i64_w, i32_w]
        rfl
      refine take_ (i := 4) (N := some 28) (v := ?_) (a' := ?_) #[true, true, true, true, true, true, false, false, false, false, false, false, true, false, true, false, false, false, false, false, false, false, false, false] rfl rfl (take_ofW HT_.out HW_.out (by kernel_rfl)) (fun _ _ _ h => h) (Or.inl ⟨by rfl, ?_⟩) hHeld ?_ ?_
      rotate_left
      · rintro w' ⟨s0, s1, s2, s3, s4, s5⟩
        go_simp
        with_reducible rfl
      rotate_left
      · simp only [Act.put, List.setIfInBounds_toArray, List.set_cons_zero, List.set_cons_succ, i64_w, i32_w]
        rfl
      refine pure_ (i := 6) (N := some 30) (v := ?_) (a' := ?_) #[true, true, true, true, true, true, true, false, false, false, false, false, true, false, true, false, false, false, false, false, false, false, false, false] rfl rfl (any_of HT_.out (by kernel_rfl)) (fun _ _ _ h => h) (Or.inl ⟨by rfl, ?_⟩) ?_ ?_
      rotate_left
      · intro w'
        go_simp
        with_reducible rfl
      rotate_left
      · simp only [Act.put, List.setIfInBounds_toArray, List.set_cons_zero, List.set_cons_succ, i64_w, i32_w]
        rfl
      refine pure_ (i := 7) (N := some 31) (v := ?_) (a' := ?_) #[true, true, true, true, true, true, true, true, false, false, false, false, true, false, true, false, false, false, false, false, false, false, false, false] rfl rfl (any_of HT_.out (by kernel_rfl)) (fun _ _ _ h => h) (Or.inl ⟨by rfl, ?_⟩) ?_ ?_
      rotate_left
      · intro w'
        go_simp
        with_reducible rfl
      rotate_left
      · simp only [Act.put, List.setIfInBounds_toArray, List.set_cons_zero, List.set_cons_succ, i64_w, i32_w]
        rfl
      refine take_ (i := 8) (N := some 32) (v := ?_) (a' := ?_) #[true, true, true, true, true, true, true, true, true, false, false, false, true, false, true, false, false, false, false, false, false, false, false, false] rfl rfl (take_ofW HT_.out HW_.out (by kernel_rfl)) (fun _ _ _ h => h) (Or.inl ⟨by rfl, ?_⟩) hHeld ?_ ?_
      rotate_left
      · rintro w' ⟨s0, s1, s2, s3, s4, s5⟩
        go_simp
        with_reducible rfl
      rotate_left
      · simp only [Act.put, List.setIfInBounds_toArray, List.set_cons_zero, List.set_cons_succ, i64_w, i32_w]
        rfl
      refine pure_ (i := 9) (N := some 33) (v := ?_) (a' := ?_) #[true, true, true, true, true, true, true, true, true, true, false, false, true, false, true, false, false, false, false, false, false, false, false, false] rfl rfl (any_of HT_.out (by kernel_rfl)) (fun _ _ _ h => h) (Or.inl ⟨by rfl, ?_⟩) ?_ ?_
      rotate_left
      · intro w'
        go_simp
        with_reducible rfl
      rotate_left
      · simp only [Act.put, List.setIfInBounds_toArray, List.set_cons_zero, List.set_cons_succ, i64_w, i32_w]
        rfl
      refine pure_ (i := 10) (N := some 34) (v := ?_) (a' := ?_) #[true, true, true, true, true, true, true, true, true, true, true, false, true, false, true, false, false, false, false, false, false, false, false, false] rfl rfl (any_of HT_.out (by kernel_rfl)) (fun _ _ _ h => h) (Or.inl ⟨by rfl, ?_⟩) ?_ ?_
      rotate_left
      · intro w'
        go_simp
        with_reducible rfl
      rotate_left
      · simp only [Act.put, List.setIfInBounds_toArray, List.set_cons_zero, List.set_cons_succ, i64_w, i32_w]
        rfl
      refine take_ (i := 11) (N := some 35) (v := ?_) (a' := ?_) #[true, true, true, true, true, true, true, true, true, true, true, true, true, false, true, false, false, false, false, false, false, false, false, false] rfl rfl (take_ofW HT_.out HW_.out (by kernel_rfl)) (fun _ _ _ h => h) (Or.inl ⟨by rfl, ?_⟩) hHeld ?_ ?_
      rotate_left
      · rintro w' ⟨s0, s1, s2, s3, s4, s5⟩
        go_simp
        with_reducible rfl
      rotate_left
      · simp only [Act.put, List.setIfInBounds_toArray, List.set_cons_zero, List.set_cons_succ, i64_w, i32_w]
        rfl
      refine take_ (i := 13) (N := some 37) (v := ?_) (a' := ?_) #[true, true, true, true, true, true, true, true, true, true, true, true, true, true, true, false, false, false, false, false, false, false, false, false] rfl rfl (take_ofW HT_.out HW_.out (by kernel_rfl)) (fun _ _ _ h => h) (Or.inl ⟨by rfl, ?_⟩) hHeld ?_ ?_
      rotate_left
      · rintro w' ⟨s0, s1, s2, s3, s4, s5⟩
        go_simp
        with_reducible rfl
      rotate_left
      · simp only [Act.put, List.setIfInBounds_toArray, List.set_cons_zero, List.set_cons_succ, i64_w, i32_w]
        rfl
      refine pure_ (i := 15) (N := some 39) (v := ?_) (a' := ?_) #[true, true, true, true, true, true, true, true, true, true, true, true, true, true, true, true, false, false, false, false, false, false, false, false] rfl rfl (any_of HT_.out (by kernel_rfl)) (fun _ _ _ h => h) (Or.inl ⟨by rfl, ?_⟩) ?_ ?_
      rotate_left
      · intro w'
        go_simp
        with_reducible rfl
      rotate_left
      · simp only [Act.put, List.setIfInBounds_toArray, List.set_cons_zero, List.set_cons_succ, i64_w, i32_w]
        rfl
      refine pure_ (i := 16) (N := some 40) (v := ?_) (a' := ?_) #[true, true, true, true, true, true, true, true, true, true, true, true, true, true, true, true, true, false, false, false, false, false, false, false] rfl rfl (any_of HT_.out (by kernel_rfl)) (fun _ _ _ h => h) (Or.inl ⟨by rfl, ?_⟩) ?_ ?_
      rotate_left
      · intro w'
        go_simp
        with_reducible rfl
      rotate_left
      · simp only [Act.put, List.setIfInBounds_toArray, List.set_cons_zero, List.set_cons_succ, i64_w, i32_w]
        rfl
      refine take_ (i := 17) (N := some 41) (v := ?_) (a' := ?_) #[true, true, true, true, true, true, true, true, true, true, true, true, true, true, true, true, true, true, false, false, false, false, false, false] rfl rfl (take_ofW HT_.out HW_.out (by kernel_rfl)) (fun _ _ _ h => h) (Or.inl ⟨by rfl, ?_⟩) hHeld ?_ ?_
      rotate_left
      · rintro w' ⟨s0, s1, s2, s3, s4, s5⟩
        go_simp
        with_reducible rfl
      rotate_left
      · simp only [Act.put, List.setIfInBounds_toArray, List.set_cons_zero, List.set_cons_succ, i64_w, i32_w]
        rfl
      refine pure_ (i := 18) (N := some 42) (v := ?_) (a' := ?_) #[true, true, true, true, true, true, true, true, true, true, true, true, true, true, true, true, true, true, true, false, false, false, false, false] rfl rfl (any_of HT_.out (by kernel_rfl)) (fun _ _ _ h => h) (Or.inl ⟨by rfl, ?_⟩) ?_ ?_
      rotate_left
      · intro w'
        go_simp
        with_reducible rfl
      rotate_left
      · simp only [Act.put, List.setIfInBounds_toArray, List.set_cons_zero, List.set_cons_succ, i64_w, i32_w]
        rfl
      refine take_ (i := 19) (N := some 43) (v := ?_) (a' := ?_) #[true, true, true, true, true, true, true, true, true, true, true, true, true, true, true, true, true, true, true, true, false, false, false, false] rfl rfl (take_ofW HT_.out HW_.out (by kernel_rfl)) (fun _ _ _ h => h) (Or.inl ⟨by rfl, ?_⟩) hHeld ?_ ?_
      rotate_left
      · rintro w' ⟨s0, s1, s2, s3, s4, s5⟩
        go_simp
        with_reducible rfl
      rotate_left
      · simp only [Act.put, List.setIfInBounds_toArray, List.set_cons_zero, List.set_cons_succ, i64_w, i32_w]
        rfl
      refine one_ (i := 20) (N := some 44) #[true, true, true, true, true, true, true, true, true, true, true, true, true, true, true, true, true, true, true, true, true, false, false, false] rfl rfl (one_of HT_.out (by kernel_rfl)) (by decide) (fun K hK => ?_)
      refine value_ (w1 := ?_) (v := ?_) (by rfl) rfl ?_ ?_
      rotate_left 2
      · go_simp
        constructor
        · rfl
        · rfl
      have g0a := ((below_alloc HB.out (Obj.cells #[Value.int IntKind.i64 x] 3)).cell (World.block_lt_of_cell? w _ G0.out)).trans G0.out
      have g1a := ((below_alloc HB.out (Obj.cells #[Value.int IntKind.i64 x] 3)).cell (World.block_lt_of_cell? w _ G1.out)).trans G1.out
      rw [add_succ] at g1a
      have mEa := ((below_alloc HB.out (Obj.cells #[Value.int IntKind.i64 x] 3)).cell (World.block_lt_of_cell? w _ ME.out)).trans ME.out
      have mba := ((below_alloc HB.out (Obj.cells #[Value.int IntKind.i64 x] 3)).cell (World.block_lt_of_cell? w _ MB.out)).trans MB.out
      refine hK.out _ _ ⟨(blk_cell (blk_alloc H0.out _) 3).trans rfl, (blk_cell (blk_alloc H2.out _) 3).trans rfl, g0a, g1a, mEa, mba⟩ (fun hHeld => ?_)
      clear hK K
      refine norm_ (a' := ?_) ?_ ?_
      rotate_left
      · show Act.put _ (some 44) _ = _
        simp only [Act.put, List.setIfInBounds_toArray, List.set_cons_zero, List.set_cons_succ, i64_w, i32_w]
        rfl
      refine one_ (i := 21) (N := some 45) #[true, true, true, true, true, true, true, true, true, true, true, true, true, true, true, true, true, true, true, true, true, true, false, false] rfl rfl (one_of HT_.out (by kernel_rfl)) (by decide) (fun K hK => ?_)
      rw [show (wr.alloc (Obj.cells #[Value.int IntKind.i64 x] 3)).drew = wr.drew.alloc (Obj.cells #[Value.int IntKind.i64 x] 3) from rfl]
      refine Kd.R_append_step (Kd.int .i64) (w0 := w) w.heap.size (by rfl) (.tmp 25) (.tmp 44) 23 3 (.int .i64 0) 8 rfl Try.underlying23 info3' rfl (by decide) (by omega) (.slice A2 ln k2) L x [.int .i64 x] (fun _ => True) (fun _ => False) rfl rfl ?aP (fun _ hk => hk.elim) ?aF ?aO ?aB ?aS ?aL ?_
      (case aP => exact rfl)
      (case aB => exact Below.drew HB.out)
      (case aF => exact (fun _ _ => trivial))
      (case aO => exact Kd.R_drew HP.out)
      (case aS => exact below_size (Below.drew HB.out))
      (case aL => have := HLN.out; omega)
      intro v9 w9 ho hb9 hg9 hat9
      have H0_9 := Aside0.mk (blk_grown (blk_drew H0.out) hg9 (Kd.R_ne HP.out H0.out (by decide)))
      have H1_9 := Aside0.mk (blk_grown (blk_drew H1.out) hg9 (Kd.R_ne HP.out H1.out (by decide)))
      have H2_9 := Aside0.mk (blk_grown (blk_drew H2.out) hg9 (Kd.R_ne HP.out H2.out (by decide)))
      have HB_9 := Aside0.mk hb9
      have HO_9 := Aside0.mk ho
      have g0b := (hb9.cell (World.block_lt_of_cell? w _ G0.out)).trans G0.out
      have g1b := (hb9.cell (World.block_lt_of_cell? w _ G1.out)).trans G1.out
      rw [add_succ] at g1b
      have mEb := (hb9.cell (World.block_lt_of_cell? w _ ME.out)).trans ME.out
      have mbb := (hb9.cell (World.block_lt_of_cell? w _ MB.out)).trans MB.out
      obtain ⟨A9, c9, hv9⟩ := Kd.R_slice ho
      generalize (L ++ [x]).length = l9 at hv9
      subst hv9
      have b3 := blk_cell H0_9.out 3
      have o3 := blk_cell H2_9.out 3
      simp only [List.getElem?_toArray, List.getElem?_cons_zero, List.getElem?_cons_succ] at b3 o3
      have rf := blk_frozen H2_9.out 3
      refine hK.out _ _ ⟨b3, o3, g0b, g1b, mEb, mbb⟩ (fun hHeld => ?_)
      clear hK K
      refine norm_ (a' := ?_) ?_ ?_
      rotate_left
      · show Act.put _ (some 45) _ = _
        simp only [Act.put, List.setIfInBounds_toArray, List.set_cons_zero, List.set_cons_succ, i64_w, i32_w]
        rfl
      refine pure_ (i := 22) (N := some 46) (v := ?_) (a' := ?_) #[true, true, true, true, true, true, true, true, true, true, true, true, true, true, true, true, true, true, true, true, true, true, true, false] rfl rfl (any_of HT_.out (by kernel_rfl)) (fun _ _ _ h => h) (Or.inl ⟨by rfl, ?_⟩) ?_ ?_
      rotate_left
      · intro w'
        go_simp
        with_reducible rfl
      rotate_left
      · simp only [Act.put, List.setIfInBounds_toArray, List.set_cons_zero, List.set_cons_succ, i64_w, i32_w]
        rfl
      refine last_ (i := 23) (N := none) #[true, true, true, true, true, true, true, true, true, true, true, true, true, true, true, true, true, true, true, true, true, true, true, true] rfl rfl (one_of HT_.out (by kernel_rfl)) (by decide) (fun K hK => ?_)
      refine skip_ (w1 := ?_) (by rfl) rfl ?_ ?_
      rotate_left
      · go_simp
        rfl
      refine hK.out _ _ ?_
      clear hK K
      refine done_ (done_of HT_.out (by kernel_rfl)) ?_
      clear a3 m3 g0' g1' mE3 mb3 hHeld
      go_wp2
      go_roundg (gk - 1)
      case measure => have := HI.out; have := HLT.out; omega
      case rel => exact ⟨i + 1, next_i6 (by have := HH.out.2.2.2.2.1; have := HLT.out; omega), ⟨by have := HI.out; have := HLT.out; omega⟩, ⟨blk_far H0_9.out (by show w.heap.size ≠ w.heap.size + 1 + 1; omega) _⟩, ⟨blk_far H1_9.out (by show w.heap.size + 1 ≠ w.heap.size + 1 + 1; omega) _⟩, ⟨_, ⟨blk_set H2_9.out 3 _⟩, ⟨by rw [HTK.out]; exact Kd.R_set HO_9.out H2_9.out (by decide) 3 _⟩⟩, ⟨below_set HB_9.out (by omega)⟩⟩
    · have d1 : decide (i < ps.length) = false := decide_eq_false hlt
      have hi : i = ps.length := by have := HI.out; omega
      have hP2 : Ints w wr v (ps.map fun p => elemAt ms p) := by have h := HP.out; rw [hi, List.take_length] at h; exact h
      have HP2 := Aside0.mk hP2
      clear hP2 HP
      obtain ⟨A9, cp, hv, hle, hC9⟩ := Kd.R_reads HP2.out
      have HRD := Aside0.mk (And.intro hle hC9)
      clear hle hC9
      have hll : (ps.map fun p => elemAt ms p).length ≤ 1000000 := by rw [List.length_map]; exact HH.out.2.2.2.2.1
      have HLL := Aside0.mk hll
      have HRG := Aside0.mk (elems_range HH.out.2.2.2.2.2.2.2 ps)
      have hmm : (ps.map fun p => cleanV wd (elemAt ms p)) = (ps.map fun p => elemAt ms p).map (cleanV wd) := by rw [List.map_map]; rfl
      have HMM := Aside0.mk hmm
      clear hll hmm
      generalize (ps.map fun p => elemAt ms p) = L at HP2 HRD HLL HRG HMM hv
      obtain ⟨ln, hln⟩ : ∃ ln, ln = L.length := ⟨_, rfl⟩
      have HLNN := Aside0.mk hln
      rw [← hln] at hv
      clear hln
      subst hv
      have m0 := blk_cell H2.out 0
      have m1 := blk_cell H2.out 1
      have m2 := blk_cell H2.out 2
      have m3 := blk_cell H2.out 3
      simp only [List.getElem?_toArray, List.getElem?_cons_zero, List.getElem?_cons_succ] at m0 m1 m2 m3
      go_wp2_with fail
      have hcan := pupilref7_Canon.calls (ln + 3) x0 x1 wd A9 cp L x0 x1 wd (L.map (cleanV wd)) wr HRD.out.2 HRD.out.1 (canon_eq (ln + 3) x0 x1 wd L HH.out.2.2.2.2.2.2.1 HRG.out HLL.out (by rw [HLNN.out]; omega))
      rw [← HLNN.out] at hcan
      refine hcan.mono ?_
      rintro e w9 ⟨v9, rfl, hR9, hb9⟩
      have H1_9 := Aside0.mk (blk_below H1.out hb9)
      have HB_9 := Aside0.mk (below_step HB.out hb9)
      have HP_9 := Aside0.mk (Kd.R_lower hR9 HB.out.size)
      clear hcan m0 m1 m2 m3 hb9 hR9
      obtain ⟨A7, k7, hv7⟩ := Kd.R_slice HP_9.out
      generalize (L.map (cleanV wd)).length = l7 at hv7
      subst hv7
      have n0 := blk_cell H1_9.out 0
      have n1 := blk_cell H1_9.out 1
      have n2 := blk_cell H1_9.out 2
      have n3 := blk_cell H1_9.out 3
      simp only [List.getElem?_toArray, List.getElem?_cons_zero, List.getElem?_cons_succ] at n0 n1 n2 n3
      have nf0 := blk_frozen H1_9.out 0
      have nf1 := blk_frozen H1_9.out 1
      have nf2 := blk_frozen H1_9.out 2
      have nf3 := blk_frozen H1_9.out 3
      go_wp2
      have HE := isB_set4 H1_9.out (.int .i64 x0) (.int .i64 x1) (.int .i64 wd) (.slice A7 l7 k7)
      have e0 := blk_cell HE 0
      have e1 := blk_cell HE 1
      have e2 := blk_cell HE 2
      have e3 := blk_cell HE 3
      simp only [List.getElem?_toArray, List.getElem?_cons_zero, List.getElem?_cons_succ] at e0 e1 e2 e3
      refine bodyPost_ret (v := .agg #[.int .i64 x0, .int .i64 x1, .int .i64 wd, .slice A7 l7 k7]) (by simp [results, Try.results46, go_sem, e0, e1, e2, e3]) rfl ?_
      exact ⟨_, rfl, by rw [HMM.out]; exact R_set4 HP_9.out H1_9.out (by decide) _ _ _ _, below_set4 HB_9.out (by omega) _ _ _ _⟩

end Go.Proofs.Ytklomikdihlcgaa
