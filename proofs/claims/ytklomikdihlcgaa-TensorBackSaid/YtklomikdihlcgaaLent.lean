/- Lent: a matrix in memory of its own, one more behind its elements. -/
import Derived.Test.YtklomikdihlcgaaSizedP
namespace Go.Proofs.Ytklomikdihlcgaa
open Go.RowKit PBase
open Go.Proofs.YtklomikdihlcgaaW.PrintWords Go.Proofs.YtklomikdihlcgaaW.PrintLast Go.Proofs.YtklomikdihlcgaaW.PrintMore
set_option linter.unusedVariables false
set_option linter.unusedSimpArgs false

theorem one_C (w : World) (x : Int) (g : Nat) (h : IsB w g #[.int .i64 x] 3) : (Kd.int .i64).C w (some ⟨g, 0, none⟩) 1 [x] := by
  refine ⟨rfl, by omega, fun _ => ⟨_, rfl, fun j p hj => ⟨[.int .i64 p], rfl, rfl, fun i u hu => ?_⟩⟩⟩
  have hi : i = 0 := by
    cases i with
    | zero => rfl
    | succ i => simp at hu
  subst hi
  have h := blk_cell h j
  have hz : (⟨g, 0, none⟩ : Addr).add (j * (Kd.int .i64).sz + 0) = ⟨g, j, none⟩ := by
    have : (Kd.int .i64).sz = 1 := rfl
    rw [this, Nat.mul_one, Nat.add_zero]
    unfold Addr.add
    by_cases h : j = 0
    · subst h; rfl
    · rw [if_neg h]; simp
  rw [hz, h]
  simp at hu
  subst hu
  rcases j with _ | j <;> simp at hj ⊢
  exact hj

def F20RT1 : Bool × List (List Nat × List Nat) := (true, [([], []), ([0], [0]), ([1], [1]), ([], []), ([2, 3, 2], [2, 3]), ([], []), ([5], [5]), ([6], [6]), ([4, 7], [4, 7]), ([0, 1, 2, 3, 4, 5, 6, 7, 8], []), ([9, 8, 4, 0, 1, 2, 3, 4, 5, 6, 7, 8], [8, 9])])
def F20RB1 : List Nat := [0, 1, 3, 0, 15, 0, 32, 96, 255, 511, 1023]
theorem F20Rtab1 : rtab .any (opsOf Try.f20 1) = F20RT1 := by kernel_rfl
theorem F20Rbits1 : waitsOk F20RT1.2 F20RB1 = true := by kernel_rfl
set_option maxHeartbeats 1000000 in
set_option maxRecDepth 100000 in
theorem lent_calls (r c wd : Int) (A : Option Addr) (cA : Nat) (l : List Int) (w : World) (hC : (Kd.int .i64).C w A l.length l) (hcA : l.length ≤ cA) (hl : l.length ≤ 100000) :
    Calls Try.prog 20 #[.agg #[.int .i64 r, .int .i64 c, .int .i64 wd, .slice A l.length cA]] w fun e w' => ∃ A' cp', e = .returned (.agg #[.int .i64 r, .int .i64 c, .int .i64 wd, .slice A' l.length cp']) ∧ l.length + 1 ≤ cp' ∧ Kd.R (Kd.int .i64) 3 w' w.heap.size (fun _ => True) (.slice A' (l.length + 1) cp') (l ++ [-71]) ∧ Below w.heap.size w w' := by
  have HC := Aside0.mk hC
  have HCA := Aside0.mk hcA
  have HL := Aside0.mk hl
  generalize hn : l.length = n at hC hcA hl ⊢
  have HN := Aside0.mk hn
  clear hC hcA hl hn
  go_enter Try.func20, Try.ntmps20
  go_wp2_with fail
  generalize hw1 : ((w.alloc (Obj.cells #[Value.int IntKind.i64 r, Value.int IntKind.i64 c, Value.int IntKind.i64 wd, Value.slice A n cA] 25)).alloc (Obj.cells #[Value.int IntKind.i64 0, Value.int IntKind.i64 0, Value.int IntKind.i64 0, Value.slice none 0 0] 25)) = w1
  have HB : Aside0 (Below w.heap.size w w1) := ⟨by rw [← hw1]; exact below_alloc (below_alloc (Below.refl _ _) _) _⟩
  have H0 : Aside0 (IsB w1 w.heap.size (row4 r c wd (.slice A n cA)) 25) := ⟨by rw [← hw1]; exact blk_alloc (blk_new _ _) _⟩
  have H1 : Aside0 (IsB w1 (w.heap.size + 1) (row4 0 0 0 (.slice none 0 0)) 25) := ⟨by rw [← hw1]; exact new1 w _ _ 25 25⟩
  have HC1 : Aside0 ((Kd.int .i64).C w1 A n l) := ⟨by have := Kd.C_below HC.out HB.out; rw [HN.out] at this; exact this⟩
  clear hw1
  have m3 := blk_cell H0.out 3
  simp only [List.getElem?_toArray, List.getElem?_cons_zero, List.getElem?_cons_succ] at m3
  refine start_ (n := 11) (S := fun w' => w'.cell? ⟨w.heap.size, 3, none⟩ = some (.slice A n cA)) (ds := [10]) #[false, false, false, false, false, false, false, false, false, false, false] (by kernel_rfl) rfl rfl (m3) (fun hHeld => ?_)
  refine with_tabW F20Rtab1 F20Rbits1 (fun HT_ HW_ => ?_)
  refine pure_ (i := 0) (N := some 3) (v := ?_) (a' := ?_) #[true, false, false, false, false, false, false, false, false, false, false] rfl rfl (any_of HT_.out (by kernel_rfl)) (fun _ _ _ h => h) (Or.inl ⟨by rfl, ?_⟩) ?_ ?_
  rotate_left
  · intro w'
    go_simp
    with_reducible rfl
  rotate_left
  · simp only [Act.put, List.setIfInBounds_toArray, List.set_cons_zero, List.set_cons_succ, i64_w, i32_w]
    rfl
  refine pure_ (i := 5) (N := some 8) (v := ?_) (a' := ?_) #[true, false, false, false, false, true, false, false, false, false, false] rfl rfl (any_of HT_.out (by kernel_rfl)) (fun _ _ _ h => h) (Or.inl ⟨by rfl, ?_⟩) ?_ ?_
  rotate_left
  · intro w'
    go_simp
    with_reducible rfl
  rotate_left
  · simp only [Act.put, List.setIfInBounds_toArray, List.set_cons_zero, List.set_cons_succ, i64_w, i32_w]
    rfl
  refine take_ (i := 1) (N := some 4) (v := ?_) (a' := ?_) #[true, true, false, false, false, true, false, false, false, false, false] rfl rfl (take_ofW HT_.out HW_.out (by kernel_rfl)) (fun _ _ _ h => h) (Or.inl ⟨by rfl, ?_⟩) hHeld ?_ ?_
  rotate_left
  · intro w' s0
    go_simp
    with_reducible rfl
  rotate_left
  · simp only [Act.put, List.setIfInBounds_toArray, List.set_cons_zero, List.set_cons_succ, i64_w, i32_w]
    rfl
  refine take_ (i := 6) (N := some 9) (v := ?_) (a' := ?_) #[true, true, false, false, false, true, true, false, false, false, false] rfl rfl (take_ofW HT_.out HW_.out (by kernel_rfl)) (fun _ _ _ h => h) (Or.inl ⟨by rfl, ?_⟩) hHeld ?_ ?_
  rotate_left
  · intro w' s0
    go_simp
    with_reducible rfl
  rotate_left
  · simp only [Act.put, List.setIfInBounds_toArray, List.set_cons_zero, List.set_cons_succ, i64_w, i32_w]
    rfl
  refine pure_ (i := 7) (N := some 10) (v := ?_) (a' := ?_) #[true, true, false, false, false, true, true, true, false, false, false] rfl rfl (any_of HT_.out (by kernel_rfl)) (fun _ _ _ h => h) (Or.inl ⟨by rfl, ?_⟩) ?_ ?_
  rotate_left
  · intro w'
    go_simp
    with_reducible rfl
  rotate_left
  · simp only [Act.put, List.setIfInBounds_toArray, List.set_cons_zero, List.set_cons_succ, i64_w, i32_w]
    rfl
  refine join_ (σ := Value × Nat) 4 #[true, true, true, true, false, true, true, true, false, false, false] (fun s_ => [(5, s_.1), (6, .slice (some ⟨s_.2, 0, none⟩) 1 1)]) (fun s_ w' => w'.cell? ⟨w.heap.size, 3, none⟩ = some (.slice A n cA) ∧ Kd.R (Kd.int .i64) 3 w' w.heap.size (fun _ => True) s_.1 l ∧ IsB w' s_.2 #[.int .i64 (-71)] 3 ∧ IsB w' w.heap.size (row4 r c wd (.slice A n cA)) 25 ∧ IsB w' (w.heap.size + 1) (row4 0 0 0 (.slice none 0 0)) 25 ∧ Below w.heap.size w w' ∧ s_.2 < w'.heap.size) ?_ ?_
  rotate_left
  · intro hCont
    refine two_ (i := 2) (j := 3) (Ni := some 5) (Nj := some 6) #[true, true, true, false, false, true, true, true, false, false, false] #[true, true, false, true, false, true, true, true, false, false, false] rfl rfl rfl rfl (two_of HT_.out (by kernel_rfl)) (by decide) (by decide) (fun K hK => ?_) (fun K hK => ?_)
    · skip
      refine Kd.R_append_rows_step (Kd.int .i64) (Rr := (Kd.int .i64).K w1) (w0 := w) w.heap.size (by rfl) (.const (.slice none 0 0)) (.tmp 4) 23 3 (.int .i64 0) 8 rfl Try.underlying23 info3' rfl (by decide) (by omega) (.slice none 0 0) [] l A n cA (fun _ => True) (fun _ => False) rfl rfl ?aO ?aR ?aK (fun _ hk => hk.elim) (fun _ _ => trivial) ?aB ?aS ?aL ?_
      (case aO => exact Kd.R_nil _ _ _ _ _)
      (case aR => exact Kd.C_drew HC1.out)
      (case aK => exact fun x cs h => h)
      (case aB => exact Below.drew HB.out)
      (case aS => exact below_size (Below.drew HB.out))
      (case aL => have := HL.out; have := HN.out; simp; omega)
      intro v5 w5 ho hb hg hat
      have H05 := Aside0.mk (blk_grown (blk_drew H0.out) hg (by intro h; cases h))
      have H15 := Aside0.mk (blk_grown (blk_drew H1.out) hg (by intro h; cases h))
      have q3 := blk_cell H05.out 3
      simp only [List.getElem?_toArray, List.getElem?_cons_zero, List.getElem?_cons_succ] at q3
      refine hK.out _ _ (q3) (fun hHeld => ?_)
      clear hK K
      refine norm_ (a' := ?_) ?_ ?_
      rotate_left
      · show Act.put _ (some 5) _ = _
        simp only [Act.put, List.setIfInBounds_toArray, List.set_cons_zero, List.set_cons_succ, i64_w, i32_w]
        rfl
      refine one_ (i := 3) (N := some 6) #[true, true, true, true, false, true, true, true, false, false, false] rfl rfl (one_of HT_.out (by kernel_rfl)) (by decide) (fun K hK => ?_)
      refine value_ (w1 := ?_) (v := ?_) (by rfl) rfl ?_ ?_
      rotate_left 2
      · go_simp
        constructor
        · rfl
        · rfl
      have H06 := Aside0.mk (blk_alloc H05.out (Obj.cells #[Value.int IntKind.i64 (-71)] 3))
      have H16 := Aside0.mk (blk_alloc H15.out (Obj.cells #[Value.int IntKind.i64 (-71)] 3))
      have q3 := blk_cell H06.out 3
      simp only [List.getElem?_toArray, List.getElem?_cons_zero, List.getElem?_cons_succ] at q3
      refine hK.out _ _ (q3) (fun hHeld => ?_)
      clear hK K
      refine norm_ (a' := ?_) ?_ ?_
      rotate_left
      · show Act.put _ (some 6) _ = _
        simp only [Act.put, List.setIfInBounds_toArray, List.set_cons_zero, List.set_cons_succ, i64_w, i32_w]
        rfl
      exact norm_ (by simp only [putAll, Act.put, List.setIfInBounds_toArray, List.set_cons_zero, List.set_cons_succ]) (hCont (v5, w5.heap.size) _ ⟨hHeld, Kd.R_alloc ho _, blk_new _ _, H06.out, H16.out, below_alloc hb _, by simp [World.size_alloc]⟩)
    · skip
      refine value_ (w1 := ?_) (v := ?_) (by rfl) rfl ?_ ?_
      rotate_left 2
      · go_simp
        constructor
        · rfl
        · rfl
      have H05 := Aside0.mk (blk_alloc (blk_drew H0.out) (Obj.cells #[Value.int IntKind.i64 (-71)] 3))
      have H15 := Aside0.mk (blk_alloc (blk_drew H1.out) (Obj.cells #[Value.int IntKind.i64 (-71)] 3))
      have q3 := blk_cell H05.out 3
      simp only [List.getElem?_toArray, List.getElem?_cons_zero, List.getElem?_cons_succ] at q3
      refine hK.out _ _ (q3) (fun hHeld => ?_)
      clear hK K
      refine norm_ (a' := ?_) ?_ ?_
      rotate_left
      · show Act.put _ (some 6) _ = _
        simp only [Act.put, List.setIfInBounds_toArray, List.set_cons_zero, List.set_cons_succ, i64_w, i32_w]
        rfl
      refine one_ (i := 2) (N := some 5) #[true, true, true, true, false, true, true, true, false, false, false] rfl rfl (one_of HT_.out (by kernel_rfl)) (by decide) (fun K hK => ?_)
      refine Kd.R_append_rows_step (Kd.int .i64) (Rr := (Kd.int .i64).K w1) (w0 := w) w.heap.size (by rfl) (.const (.slice none 0 0)) (.tmp 4) 23 3 (.int .i64 0) 8 rfl Try.underlying23 info3' rfl (by decide) (by omega) (.slice none 0 0) [] l A n cA (fun _ => True) (fun _ => False) rfl rfl ?aO ?aR ?aK (fun _ hk => hk.elim) (fun _ _ => trivial) ?aB ?aS ?aL ?_
      (case aO => exact Kd.R_nil _ _ _ _ _)
      (case aR => exact Kd.C_below (Kd.C_drew HC1.out) (below_alloc (Below.refl _ _) _))
      (case aK => exact fun x cs h => h)
      (case aB => exact below_alloc (Below.drew HB.out) _)
      (case aS => exact below_size (below_alloc (Below.drew HB.out) _))
      (case aL => have := HL.out; have := HN.out; simp; omega)
      intro v5 w5 ho hb hg hat
      have H06 := Aside0.mk (blk_grown H05.out hg (by intro h; cases h))
      have H16 := Aside0.mk (blk_grown H15.out hg (by intro h; cases h))
      have q3 := blk_cell H06.out 3
      simp only [List.getElem?_toArray, List.getElem?_cons_zero, List.getElem?_cons_succ] at q3
      refine hK.out _ _ (q3) (fun hHeld => ?_)
      clear hK K
      refine norm_ (a' := ?_) ?_ ?_
      rotate_left
      · show Act.put _ (some 5) _ = _
        simp only [Act.put, List.setIfInBounds_toArray, List.set_cons_zero, List.set_cons_succ, i64_w, i32_w]
        rfl
      exact norm_ (by simp only [putAll, Act.put, List.setIfInBounds_toArray, List.set_cons_zero, List.set_cons_succ]) (hCont (v5, w1.heap.size) _ ⟨hHeld, ho, blk_grown (blk_new w1.drew _) hg (by intro h; cases h), H06.out, H16.out, hb, Nat.lt_of_lt_of_le (by show w1.heap.size < (w1.alloc (Obj.cells #[Value.int IntKind.i64 (-71)] 3)).heap.size; rw [World.size_alloc]; exact Nat.lt_succ_self _) hg.size⟩)
  rintro ⟨v5, b6⟩ w4 ⟨hS_, hR4, hBx, h04, h14, hB4, hlt4⟩
  have HR4 := Aside0.mk hR4
  have HX4 := Aside0.mk hBx
  have H04 := Aside0.mk h04
  have H14 := Aside0.mk h14
  have HB4 := Aside0.mk hB4
  clear hR4 hBx h04 h14 hB4
  have hHeld : w4.cell? ⟨w.heap.size, 3, none⟩ = some (.slice A n cA) := hS_
  refine norm_ (a' := ?_) ?_ ?_
  rotate_left
  · simp only [putAll, Act.put, List.setIfInBounds_toArray, List.set_cons_zero, List.set_cons_succ]
    rfl
  refine one_ (i := 4) (N := some 7) #[true, true, true, true, true, true, true, true, false, false, false] rfl rfl (one_of HT_.out (by kernel_rfl)) (by decide) (fun K hK => ?_)
  refine Kd.R_append_rows_step (Kd.int .i64) (Rr := (Kd.int .i64).K w4) (w0 := w) w.heap.size (by rfl) (.tmp 5) (.tmp 6) 23 3 (.int .i64 0) 8 rfl Try.underlying23 info3' rfl (by decide) (by omega) v5 l [-71] (some ⟨b6, 0, none⟩) 1 1 (fun _ => True) (fun _ => False) rfl rfl ?aO ?aR ?aK (fun _ hk => hk.elim) (fun _ _ => trivial) ?aB ?aS ?aL ?_
  (case aO => exact HR4.out)
  (case aR => exact one_C _ _ _ HX4.out)
  (case aK => exact fun x cs h => h)
  (case aB => exact HB4.out)
  (case aS => exact below_size HB4.out)
  (case aL => have := HL.out; have := HN.out; omega)
  intro v9 w9 ho hb hg hat
  have H09 := Aside0.mk (blk_grown H04.out hg (Kd.R_ne HR4.out H04.out (by decide)))
  have H19 := Aside0.mk (blk_grown H14.out hg (Kd.R_ne HR4.out H14.out (by decide)))
  have HB9 := Aside0.mk hb
  have HO9 := Aside0.mk ho
  obtain ⟨A9, c9, hv9, hle9, hC9⟩ := Kd.R_reads ho
  subst hv9
  have hl9 : (l ++ [-71]).length = n + 1 := by rw [List.length_append, HN.out]; rfl
  rw [hl9] at HO9 hle9 hC9 ⊢
  have hnc := eq_true (show n ≤ c9 by omega)
  have q3 := blk_cell H09.out 3
  have rf := blk_frozen H09.out 3
  simp only [List.getElem?_toArray, List.getElem?_cons_zero, List.getElem?_cons_succ] at q3
  refine hK.out _ _ (q3) (fun hHeld => ?_)
  clear hK K
  refine norm_ (a' := ?_) ?_ ?_
  rotate_left
  · show Act.put _ (some 7) _ = _
    simp only [Act.put, List.setIfInBounds_toArray, List.set_cons_zero, List.set_cons_succ, i64_w, i32_w]
    rfl
  refine pure_ (i := 8) (N := some 11) (v := ?_) (a' := ?_) #[true, true, true, true, true, true, true, true, true, false, false] rfl rfl (any_of HT_.out (by kernel_rfl)) (fun _ _ _ h => h) (Or.inl ⟨by rfl, ?_⟩) ?_ ?_
  rotate_left
  · intro w'
    go_simp
    with_reducible rfl
  rotate_left
  · simp only [Act.put, List.setIfInBounds_toArray, List.set_cons_zero, List.set_cons_succ, i64_w, i32_w]
    rfl
  refine pure_ (i := 9) (N := some 12) (v := ?_) (a' := ?_) #[true, true, true, true, true, true, true, true, true, true, false] rfl rfl (any_of HT_.out (by kernel_rfl)) (fun _ _ _ h => h) (Or.inl ⟨by rfl, ?_⟩) ?_ ?_
  rotate_left
  · intro w'
    go_simp
    with_reducible rfl
  rotate_left
  · simp only [Act.put, List.setIfInBounds_toArray, List.set_cons_zero, List.set_cons_succ, i64_w, i32_w]
    rfl
  refine last_ (i := 10) (N := none) #[true, true, true, true, true, true, true, true, true, true, true] rfl rfl (one_of HT_.out (by kernel_rfl)) (by decide) (fun K hK => ?_)
  refine skip_ (w1 := ?_) (by rfl) rfl ?_ ?_
  rotate_left
  · go_simp
    rfl
  refine hK.out _ _ ?_
  clear hK K
  refine done_ (done_of HT_.out (by kernel_rfl)) ?_
  have H0a := Aside0.mk (blk_set H09.out 3 (.slice A9 n c9))
  have H1a := Aside0.mk (blk_far H19.out (p := ⟨w.heap.size, 3, none⟩) (by simp) (.slice A9 n c9))
  have HOa := Aside0.mk (Kd.R_set HO9.out H09.out (by decide) 3 (.slice A9 n c9))
  have HBa := Aside0.mk (Below.setCell HB9.out (p := ⟨w.heap.size, 3, none⟩) (Nat.le_refl _) (.slice A9 n c9))
  generalize w9.setCell ⟨w.heap.size, 3, none⟩ (.slice A9 n c9) = w10 at H0a H1a HOa HBa ⊢
  clear q3 rf m3 hHeld
  replace H0a : Aside0 (IsB w10 w.heap.size (row4 r c wd (.slice A9 n c9)) 25) := ⟨H0a.out⟩
  have n0 := blk_cell H0a.out 0
  have n1 := blk_cell H0a.out 1
  have n2 := blk_cell H0a.out 2
  have n3 := blk_cell H0a.out 3
  simp only [List.getElem?_toArray, List.getElem?_cons_zero, List.getElem?_cons_succ] at n0 n1 n2 n3
  have c0 := blk_cell H1a.out 0
  have c1 := blk_cell H1a.out 1
  have c2 := blk_cell H1a.out 2
  have c3 := blk_cell H1a.out 3
  simp only [List.getElem?_toArray, List.getElem?_cons_zero, List.getElem?_cons_succ] at c0 c1 c2 c3
  have rf0 := blk_frozen H1a.out 0
  have rf1 := blk_frozen H1a.out 1
  have rf2 := blk_frozen H1a.out 2
  have rf3 := blk_frozen H1a.out 3
  go_wp2
  have HE := isB_set4 H1a.out (.int .i64 r) (.int .i64 c) (.int .i64 wd) (.slice A9 n c9)
  have e0 := blk_cell HE 0
  have e1 := blk_cell HE 1
  have e2 := blk_cell HE 2
  have e3 := blk_cell HE 3
  simp only [List.getElem?_toArray, List.getElem?_cons_zero, List.getElem?_cons_succ] at e0 e1 e2 e3
  refine bodyPost_ret (v := .agg #[.int .i64 r, .int .i64 c, .int .i64 wd, .slice A9 n c9]) (by simp [results, Try.results20, go_sem, e0, e1, e2, e3]) rfl ?_
  exact ⟨A9, c9, rfl, hle9, R_set4 HOa.out H1a.out (by decide) _ _ _ _, below_set4 HBa.out (by omega) _ _ _ _⟩

end Go.Proofs.Ytklomikdihlcgaa
