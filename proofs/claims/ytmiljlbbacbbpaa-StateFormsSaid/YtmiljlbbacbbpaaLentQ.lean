/- pupillaw23.lentMatrix: a matrix in memory of its own, one more behind its elements. -/
import Derived.Test.YtmiljlbbacbbpaaMat
import Derived.Test.YtmiljlbbacbbpaaSmp
namespace Go.Proofs.Ytmiljlbbacbbpaa
open Go.RowKit PBase
open Go.Proofs.YtmiljlbbacbbpaaW.PrintWords Go.Proofs.YtmiljlbbacbbpaaW.PrintLast Go.Proofs.YtmiljlbbacbbpaaW.PrintMore
set_option linter.unusedVariables false
set_option linter.unusedSimpArgs false

theorem one_C (w : World) (x : Int) (g : Nat) (h : IsB w g #[.int .i64 x] 3) : (Kd.int .i64).C w (some ⟨g, 0, none⟩) 1 [x] := by
  refine ⟨rfl, by omega, fun _ => ⟨_, rfl, fun j p hj => ⟨[.int .i64 p], rfl, rfl, fun i u hu => ?_⟩⟩⟩
  have hi : i = 0 := by
    cases i with
    | zero => rfl
    | succ i => simp at hu
  subst hi
  have h := blk_cell h j
  have hz : (⟨g, 0, none⟩ : Addr).add (j * (Kd.int .i64).sz + 0) = ⟨g, j, none⟩ := by
    have : (Kd.int .i64).sz = 1 := rfl
    rw [this, Nat.mul_one, Nat.add_zero]
    unfold Addr.add
    by_cases h : j = 0
    · subst h; rfl
    · rw [if_neg h]; simp
  rw [hz, h]
  simp at hu
  subst hu
  rcases j with _ | j <;> simp at hj ⊢
  exact hj

theorem new1m (w : World) (x y : Array Value) (s t : Nat) : IsB ((w.alloc (.cells x s)).alloc (.cells y t)) (w.heap.size + 1) y t := (World.size_alloc w (.cells x s)) ▸ blk_new (w.alloc (.cells x s)) (.cells y t)
theorem below_set4' {w W : World} {g n : Nat} (h : Below n w W) (hg : n ≤ g) (a b c d : Value) : Below n w ((((W.setCell ⟨g, 0, none⟩ a).setCell ⟨g, 1, none⟩ b).setCell ⟨g, 2, none⟩ c).setCell ⟨g, 3, none⟩ d) :=
  (((h.setCell (p := ⟨g, 0, none⟩) hg a).setCell (p := ⟨g, 1, none⟩) hg b).setCell (p := ⟨g, 2, none⟩) hg c).setCell (p := ⟨g, 3, none⟩) hg d
def F52RT1 : Bool × List (List Nat × List Nat) := (true, [([], []), ([0], [0]), ([1], [1]), ([], []), ([2, 3, 2], [2, 3]), ([], []), ([5], [5]), ([6], [6]), ([4, 7], [4, 7]), ([0, 1, 2, 3, 4, 5, 6, 7, 8], []), ([9, 8, 4, 0, 1, 2, 3, 4, 5, 6, 7, 8], [8, 9])])
def F52RB1 : List Nat := [0, 1, 3, 0, 15, 0, 32, 96, 255, 511, 1023]
theorem F52Rtab1 : rtab .any (opsOf Try.f52 1) = F52RT1 := by kernel_rfl
theorem F52Rbits1 : waitsOk F52RT1.2 F52RB1 = true := by kernel_rfl
set_option maxHeartbeats 1000000 in
set_option maxRecDepth 100000 in
theorem lentM_calls (r c wd : Int) (A : Option Addr) (cA : Nat) (l : List Int) (w : World) (hC : (Kd.int .i64).C w A l.length l) (hcA : l.length ≤ cA) (hl : l.length ≤ 100000) :
    Calls Try.prog 52 #[.agg #[.int .i64 r, .int .i64 c, .int .i64 wd, .slice A l.length cA]] w fun e w' => ∃ A' cp', e = .returned (.agg #[.int .i64 r, .int .i64 c, .int .i64 wd, .slice A' l.length cp']) ∧ l.length + 1 ≤ cp' ∧ Kd.R (Kd.int .i64) 3 w' w.heap.size (fun _ => True) (.slice A' (l.length + 1) cp') (l ++ [-77]) ∧ Below w.heap.size w w' := by
  have HC := Aside0.mk hC
  have HCA := Aside0.mk hcA
  have HL := Aside0.mk hl
  generalize hn : l.length = n at hC hcA hl ⊢
  have HN := Aside0.mk hn
  clear hC hcA hl hn
  go_enter Try.func52, Try.ntmps52
  go_wp2_with fail
  generalize hw1 : ((w.alloc (Obj.cells #[Value.int IntKind.i64 r, Value.int IntKind.i64 c, Value.int IntKind.i64 wd, Value.slice A n cA] 56)).alloc (Obj.cells #[Value.int IntKind.i64 0, Value.int IntKind.i64 0, Value.int IntKind.i64 0, Value.slice none 0 0] 56)) = w1
  have HB : Aside0 (Below w.heap.size w w1) := ⟨by rw [← hw1]; exact below_alloc (below_alloc (Below.refl _ _) _) _⟩
  have H0 : Aside0 (IsB w1 w.heap.size (row4 r c wd (.slice A n cA)) 56) := ⟨by rw [← hw1]; exact blk_alloc (blk_new _ _) _⟩
  have H1 : Aside0 (IsB w1 (w.heap.size + 1) (row4 0 0 0 (.slice none 0 0)) 56) := ⟨by rw [← hw1]; exact new1m w _ _ 56 56⟩
  have HC1 : Aside0 ((Kd.int .i64).C w1 A n l) := ⟨by have := Kd.C_below HC.out HB.out; rw [HN.out] at this; exact this⟩
  clear hw1
  have m3 := blk_cell H0.out 3
  simp only [List.getElem?_toArray, List.getElem?_cons_zero, List.getElem?_cons_succ] at m3
  refine start_ (n := 11) (S := fun w' => w'.cell? ⟨w.heap.size, 3, none⟩ = some (.slice A n cA)) (ds := [10]) #[false, false, false, false, false, false, false, false, false, false, false] (by kernel_rfl) rfl rfl (m3) (fun hHeld => ?_)
  refine with_tabW F52Rtab1 F52Rbits1 (fun HT_ HW_ => ?_)
  refine pure_ (i := 0) (N := some 3) (v := ?_) (a' := ?_) #[true, false, false, false, false, false, false, false, false, false, false] rfl rfl (any_of HT_.out (by kernel_rfl)) (fun _ _ _ h => h) (Or.inl ⟨by rfl, ?_⟩) ?_ ?_
  rotate_left
  · intro w'
    go_simp
    with_reducible rfl
  rotate_left
  · simp only [Act.put, List.setIfInBounds_toArray, List.set_cons_zero, List.set_cons_succ, i64_w, i32_w]
    rfl
  refine pure_ (i := 5) (N := some 8) (v := ?_) (a' := ?_) #[true, false, false, false, false, true, false, false, false, false, false] rfl rfl (any_of HT_.out (by kernel_rfl)) (fun _ _ _ h => h) (Or.inl ⟨by rfl, ?_⟩) ?_ ?_
  rotate_left
  · intro w'
    go_simp
    with_reducible rfl
  rotate_left
  · simp only [Act.put, List.setIfInBounds_toArray, List.set_cons_zero, List.set_cons_succ, i64_w, i32_w]
    rfl
  refine take_ (i := 1) (N := some 4) (v := ?_) (a' := ?_) #[true, true, false, false, false, true, false, false, false, false, false] rfl rfl (take_ofW HT_.out HW_.out (by kernel_rfl)) (fun _ _ _ h => h) (Or.inl ⟨by rfl, ?_⟩) hHeld ?_ ?_
  rotate_left
  · intro w' s0
    go_simp
    with_reducible rfl
  rotate_left
  · simp only [Act.put, List.setIfInBounds_toArray, List.set_cons_zero, List.set_cons_succ, i64_w, i32_w]
    rfl
  refine take_ (i := 6) (N := some 9) (v := ?_) (a' := ?_) #[true, true, false, false, false, true, true, false, false, false, false] rfl rfl (take_ofW HT_.out HW_.out (by kernel_rfl)) (fun _ _ _ h => h) (Or.inl ⟨by rfl, ?_⟩) hHeld ?_ ?_
  rotate_left
  · intro w' s0
    go_simp
    with_reducible rfl
  rotate_left
  · simp only [Act.put, List.setIfInBounds_toArray, List.set_cons_zero, List.set_cons_succ, i64_w, i32_w]
    rfl
  refine pure_ (i := 7) (N := some 10) (v := ?_) (a' := ?_) #[true, true, false, false, false, true, true, true, false, false, false] rfl rfl (any_of HT_.out (by kernel_rfl)) (fun _ _ _ h => h) (Or.inl ⟨by rfl, ?_⟩) ?_ ?_
  rotate_left
  · intro w'
    go_simp
    with_reducible rfl
  rotate_left
  · simp only [Act.put, List.setIfInBounds_toArray, List.set_cons_zero, List.set_cons_succ, i64_w, i32_w]
    rfl
  refine join_ (σ := Value × Nat) 4 #[true, true, true, true, false, true, true, true, false, false, false] (fun s_ => [(5, s_.1), (6, .slice (some ⟨s_.2, 0, none⟩) 1 1)]) (fun s_ w' => w'.cell? ⟨w.heap.size, 3, none⟩ = some (.slice A n cA) ∧ Kd.R (Kd.int .i64) 3 w' w.heap.size (fun _ => True) s_.1 l ∧ IsB w' s_.2 #[.int .i64 (-77)] 3 ∧ IsB w' w.heap.size (row4 r c wd (.slice A n cA)) 56 ∧ IsB w' (w.heap.size + 1) (row4 0 0 0 (.slice none 0 0)) 56 ∧ Below w.heap.size w w' ∧ s_.2 < w'.heap.size) ?_ ?_
  rotate_left
  · intro hCont
    refine two_ (i := 2) (j := 3) (Ni := some 5) (Nj := some 6) #[true, true, true, false, false, true, true, true, false, false, false] #[true, true, false, true, false, true, true, true, false, false, false] rfl rfl rfl rfl (two_of HT_.out (by kernel_rfl)) (by decide) (by decide) (fun K hK => ?_) (fun K hK => ?_)
    · skip
      refine Kd.R_append_rows_step (Kd.int .i64) (Rr := (Kd.int .i64).K w1) (w0 := w) w.heap.size (by rfl) (.const (.slice none 0 0)) (.tmp 4) 54 3 (.int .i64 0) 8 rfl Try.underlying54 info3 rfl (by decide) (by omega) (.slice none 0 0) [] l A n cA (fun _ => True) (fun _ => False) rfl rfl ?aO ?aR ?aK (fun _ hk => hk.elim) (fun _ _ => trivial) ?aB ?aS ?aL ?_
      (case aO => exact Kd.R_nil _ _ _ _ _)
      (case aR => exact Kd.C_drew HC1.out)
      (case aK => exact fun x cs h => h)
      (case aB => exact Below.drew HB.out)
      (case aS => exact below_size (Below.drew HB.out))
      (case aL => have := HL.out; have := HN.out; simp; omega)
      intro v5 w5 ho hb hg hat
      have H05 := Aside0.mk (blk_grown (blk_drew H0.out) hg (by intro h; cases h))
      have H15 := Aside0.mk (blk_grown (blk_drew H1.out) hg (by intro h; cases h))
      have q3 := blk_cell H05.out 3
      simp only [List.getElem?_toArray, List.getElem?_cons_zero, List.getElem?_cons_succ] at q3
      refine hK.out _ _ (q3) (fun hHeld => ?_)
      clear hK K
      refine norm_ (a' := ?_) ?_ ?_
      rotate_left
      · show Act.put _ (some 5) _ = _
        simp only [Act.put, List.setIfInBounds_toArray, List.set_cons_zero, List.set_cons_succ, i64_w, i32_w]
        rfl
      refine one_ (i := 3) (N := some 6) #[true, true, true, true, false, true, true, true, false, false, false] rfl rfl (one_of HT_.out (by kernel_rfl)) (by decide) (fun K hK => ?_)
      refine value_ (w1 := ?_) (v := ?_) (by rfl) rfl ?_ ?_
      rotate_left 2
      · go_simp
        constructor
        · rfl
        · rfl
      have H06 := Aside0.mk (blk_alloc H05.out (Obj.cells #[Value.int IntKind.i64 (-77)] 3))
      have H16 := Aside0.mk (blk_alloc H15.out (Obj.cells #[Value.int IntKind.i64 (-77)] 3))
      have q3 := blk_cell H06.out 3
      simp only [List.getElem?_toArray, List.getElem?_cons_zero, List.getElem?_cons_succ] at q3
      refine hK.out _ _ (q3) (fun hHeld => ?_)
      clear hK K
      refine norm_ (a' := ?_) ?_ ?_
      rotate_left
      · show Act.put _ (some 6) _ = _
        simp only [Act.put, List.setIfInBounds_toArray, List.set_cons_zero, List.set_cons_succ, i64_w, i32_w]
        rfl
      exact norm_ (by simp only [putAll, Act.put, List.setIfInBounds_toArray, List.set_cons_zero, List.set_cons_succ]) (hCont (v5, w5.heap.size) _ ⟨hHeld, Kd.R_alloc ho _, blk_new _ _, H06.out, H16.out, below_alloc hb _, by simp [World.size_alloc]⟩)
    · skip
      refine value_ (w1 := ?_) (v := ?_) (by rfl) rfl ?_ ?_
      rotate_left 2
      · go_simp
        constructor
        · rfl
        · rfl
      have H05 := Aside0.mk (blk_alloc (blk_drew H0.out) (Obj.cells #[Value.int IntKind.i64 (-77)] 3))
      have H15 := Aside0.mk (blk_alloc (blk_drew H1.out) (Obj.cells #[Value.int IntKind.i64 (-77)] 3))
      have q3 := blk_cell H05.out 3
      simp only [List.getElem?_toArray, List.getElem?_cons_zero, List.getElem?_cons_succ] at q3
      refine hK.out _ _ (q3) (fun hHeld => ?_)
      clear hK K
      refine norm_ (a' := ?_) ?_ ?_
      rotate_left
      · show Act.put _ (some 6) _ = _
        simp only [Act.put, List.setIfInBounds_toArray, List.set_cons_zero, List.set_cons_succ, i64_w, i32_w]
        rfl
      refine one_ (i := 2) (N := some 5) #[true, true, true, true, false, true, true, true, false, false, false] rfl rfl (one_of HT_.out (by kernel_rfl)) (by decide) (fun K hK => ?_)
      refine Kd.R_append_rows_step (Kd.int .i64) (Rr := (Kd.int .i64).K w1) (w0 := w) w.heap.size (by rfl) (.const (.slice none 0 0)) (.tmp 4) 54 3 (.int .i64 0) 8 rfl Try.underlying54 info3 rfl (by decide) (by omega) (.slice none 0 0) [] l A n cA (fun _ => True) (fun _ => False) rfl rfl ?aO ?aR ?aK (fun _ hk => hk.elim) (fun _ _ => trivial) ?aB ?aS ?aL ?_
      (case aO => exact Kd.R_nil _ _ _ _ _)
      (case aR => exact Kd.C_below (Kd.C_drew HC1.out) (below_alloc (Below.refl _ _) _))
      (case aK => exact fun x cs h => h)
      (case aB => exact below_alloc (Below.drew HB.out) _)
      (case aS => exact below_size (below_alloc (Below.drew HB.out) _))
      (case aL => have := HL.out; have := HN.out; simp; omega)
      intro v5 w5 ho hb hg hat
      have H06 := Aside0.mk (blk_grown H05.out hg (by intro h; cases h))
      have H16 := Aside0.mk (blk_grown H15.out hg (by intro h; cases h))
      have q3 := blk_cell H06.out 3
      simp only [List.getElem?_toArray, List.getElem?_cons_zero, List.getElem?_cons_succ] at q3
      refine hK.out _ _ (q3) (fun hHeld => ?_)
      clear hK K
      refine norm_ (a' := ?_) ?_ ?_
      rotate_left
      · show Act.put _ (some 5) _ = _
        simp only [Act.put, List.setIfInBounds_toArray, List.set_cons_zero, List.set_cons_succ, i64_w, i32_w]
        rfl
      exact norm_ (by simp only [putAll, Act.put, List.setIfInBounds_toArray, List.set_cons_zero, List.set_cons_succ]) (hCont (v5, w1.heap.size) _ ⟨hHeld, ho, blk_grown (blk_new w1.drew _) hg (by intro h; cases h), H06.out, H16.out, hb, Nat.lt_of_lt_of_le (by show w1.heap.size < (w1.alloc (Obj.cells #[Value.int IntKind.i64 (-77)] 3)).heap.size; rw [World.size_alloc]; exact Nat.lt_succ_self _) hg.size⟩)
  rintro ⟨v5, b6⟩ w4 ⟨hS_, hR4, hBx, h04, h14, hB4, hlt4⟩
  have HR4 := Aside0.mk hR4
  have HX4 := Aside0.mk hBx
  have H04 := Aside0.mk h04
  have H14 := Aside0.mk h14
  have HB4 := Aside0.mk hB4
  clear hR4 hBx h04 h14 hB4
  have hHeld : w4.cell? ⟨w.heap.size, 3, none⟩ = some (.slice A n cA) := hS_
  refine norm_ (a' := ?_) ?_ ?_
  rotate_left
  · simp only [putAll, Act.put, List.setIfInBounds_toArray, List.set_cons_zero, List.set_cons_succ]
    rfl
  refine one_ (i := 4) (N := some 7) #[true, true, true, true, true, true, true, true, false, false, false] rfl rfl (one_of HT_.out (by kernel_rfl)) (by decide) (fun K hK => ?_)
  refine Kd.R_append_rows_step (Kd.int .i64) (Rr := (Kd.int .i64).K w4) (w0 := w) w.heap.size (by rfl) (.tmp 5) (.tmp 6) 54 3 (.int .i64 0) 8 rfl Try.underlying54 info3 rfl (by decide) (by omega) v5 l [-77] (some ⟨b6, 0, none⟩) 1 1 (fun _ => True) (fun _ => False) rfl rfl ?aO ?aR ?aK (fun _ hk => hk.elim) (fun _ _ => trivial) ?aB ?aS ?aL ?_
  (case aO => exact HR4.out)
  (case aR => exact one_C _ _ _ HX4.out)
  (case aK => exact fun x cs h => h)
  (case aB => exact HB4.out)
  (case aS => exact below_size HB4.out)
  (case aL => have := HL.out; have := HN.out; omega)
  intro v9 w9 ho hb hg hat
  have H09 := Aside0.mk (blk_grown H04.out hg (Kd.R_ne HR4.out H04.out (by decide)))
  have H19 := Aside0.mk (blk_grown H14.out hg (Kd.R_ne HR4.out H14.out (by decide)))
  have HB9 := Aside0.mk hb
  have HO9 := Aside0.mk ho
  obtain ⟨A9, c9, hv9, hle9, hC9⟩ := Kd.R_reads ho
  subst hv9
  have hl9 : (l ++ [-77]).length = n + 1 := by rw [List.length_append, HN.out]; rfl
  rw [hl9] at HO9 hle9 hC9 ⊢
  have hnc := eq_true (show n ≤ c9 by omega)
  have q3 := blk_cell H09.out 3
  have rf := blk_frozen H09.out 3
  simp only [List.getElem?_toArray, List.getElem?_cons_zero, List.getElem?_cons_succ] at q3
  refine hK.out _ _ (q3) (fun hHeld => ?_)
  clear hK K
  refine norm_ (a' := ?_) ?_ ?_
  rotate_left
  · show Act.put _ (some 7) _ = _
    simp only [Act.put, List.setIfInBounds_toArray, List.set_cons_zero, List.set_cons_succ, i64_w, i32_w]
    rfl
  refine pure_ (i := 8) (N := some 11) (v := ?_) (a' := ?_) #[true, true, true, true, true, true, true, true, true, false, false] rfl rfl (any_of HT_.out (by kernel_rfl)) (fun _ _ _ h => h) (Or.inl ⟨by rfl, ?_⟩) ?_ ?_
  rotate_left
  · intro w'
    go_simp
    with_reducible rfl
  rotate_left
  · simp only [Act.put, List.setIfInBounds_toArray, List.set_cons_zero, List.set_cons_succ, i64_w, i32_w]
    rfl
  refine pure_ (i := 9) (N := some 12) (v := ?_) (a' := ?_) #[true, true, true, true, true, true, true, true, true, true, false] rfl rfl (any_of HT_.out (by kernel_rfl)) (fun _ _ _ h => h) (Or.inl ⟨by rfl, ?_⟩) ?_ ?_
  rotate_left
  · intro w'
    go_simp
    with_reducible rfl
  rotate_left
  · simp only [Act.put, List.setIfInBounds_toArray, List.set_cons_zero, List.set_cons_succ, i64_w, i32_w]
    rfl
  refine last_ (i := 10) (N := none) #[true, true, true, true, true, true, true, true, true, true, true] rfl rfl (one_of HT_.out (by kernel_rfl)) (by decide) (fun K hK => ?_)
  refine skip_ (w1 := ?_) (by rfl) rfl ?_ ?_
  rotate_left
  · go_simp
    rfl
  refine hK.out _ _ ?_
  clear hK K
  refine done_ (done_of HT_.out (by kernel_rfl)) ?_
  have H0a := Aside0.mk (blk_set H09.out 3 (.slice A9 n c9))
  have H1a := Aside0.mk (blk_far H19.out (p := ⟨w.heap.size, 3, none⟩) (by simp) (.slice A9 n c9))
  have HOa := Aside0.mk (Kd.R_set HO9.out H09.out (by decide) 3 (.slice A9 n c9))
  have HBa := Aside0.mk (Below.setCell HB9.out (p := ⟨w.heap.size, 3, none⟩) (Nat.le_refl _) (.slice A9 n c9))
  generalize w9.setCell ⟨w.heap.size, 3, none⟩ (.slice A9 n c9) = w10 at H0a H1a HOa HBa ⊢
  clear q3 rf m3 hHeld
  replace H0a : Aside0 (IsB w10 w.heap.size (row4 r c wd (.slice A9 n c9)) 56) := ⟨H0a.out⟩
  have n0 := blk_cell H0a.out 0
  have n1 := blk_cell H0a.out 1
  have n2 := blk_cell H0a.out 2
  have n3 := blk_cell H0a.out 3
  simp only [List.getElem?_toArray, List.getElem?_cons_zero, List.getElem?_cons_succ] at n0 n1 n2 n3
  have c0 := blk_cell H1a.out 0
  have c1 := blk_cell H1a.out 1
  have c2 := blk_cell H1a.out 2
  have c3 := blk_cell H1a.out 3
  simp only [List.getElem?_toArray, List.getElem?_cons_zero, List.getElem?_cons_succ] at c0 c1 c2 c3
  have rf0 := blk_frozen H1a.out 0
  have rf1 := blk_frozen H1a.out 1
  have rf2 := blk_frozen H1a.out 2
  have rf3 := blk_frozen H1a.out 3
  go_wp2
  have HE := isB_set4 H1a.out (.int .i64 r) (.int .i64 c) (.int .i64 wd) (.slice A9 n c9)
  have e0 := blk_cell HE 0
  have e1 := blk_cell HE 1
  have e2 := blk_cell HE 2
  have e3 := blk_cell HE 3
  simp only [List.getElem?_toArray, List.getElem?_cons_zero, List.getElem?_cons_succ] at e0 e1 e2 e3
  refine bodyPost_ret (v := .agg #[.int .i64 r, .int .i64 c, .int .i64 wd, .slice A9 n c9]) (by simp [results, Try.results52, go_sem, e0, e1, e2, e3]) rfl ?_
  exact ⟨A9, c9, rfl, hle9, Kd.R_set4 HOa.out H1a.out (by decide) _ _ _ _, below_set4' HBa.out (by omega) _ _ _ _⟩

end Go.Proofs.Ytmiljlbbacbbpaa

/- Lent rows: a row with one element more behind its last, within its capacity; elements of one kind or the other. -/
namespace Go.Proofs.Ytmiljlbbacbbpaa
open Go.RowKit PBase
open Go.Proofs.YtmiljlbbacbbpaaW.PrintWords Go.Proofs.YtmiljlbbacbbpaaW.PrintLast Go.Proofs.YtmiljlbbacbbpaaW.PrintMore
set_option linter.unusedVariables false

/-- a row of d's, with z behind it, within its capacity -/
def lentD {α : Type} (e : Nat) (d : Kd α) (z : α) : Kd (List α) where
  sz := 1
  E := e :: d.E
  K := fun w xs cs => ∃ A c, cs = [.slice A xs.length c] ∧ xs.length + 1 ≤ c ∧ d.C w A (xs.length + 1) (xs ++ [z])
  M := fun w base ok xs cs => ∃ A c, cs = [.slice A xs.length c] ∧ xs.length + 1 ≤ c ∧ d.R e w base ok (.slice A (xs.length + 1) c) (xs ++ [z])
  K_len := by
    rintro w x cs ⟨A, c, rfl, _⟩
    rfl
  K_one := by
    rintro w x cs ⟨A, c, rfl, _⟩ u hu
    rw [List.mem_singleton.1 hu]
    rfl
  K_below := by
    rintro w w1 x cs hb ⟨A, c, rfl, hl, hr⟩
    exact ⟨A, c, rfl, hl, Kd.C_below hr hb⟩
  K_of_M := by
    rintro w base ok x cs ⟨A, c, rfl, hl, h⟩
    obtain ⟨A', c', he, _, hr⟩ := Kd.R_reads h
    injection he with h1 h2 h3
    subst h1 h3
    rw [← h2] at hr
    exact ⟨_, _, rfl, hl, hr⟩
  M_mono := by
    rintro w base ok ok' x cs hok ⟨A, c, rfl, hl, h⟩
    exact ⟨A, c, rfl, hl, Kd.R_mono h hok⟩
  M_bound := by
    rintro w base ok x cs ⟨A, c, rfl, hl, h⟩
    exact ⟨A, c, rfl, hl, Kd.R_bound h⟩
  M_move := by
    rintro w w1 base ok x cs hm ⟨A, c, rfl, hl, h⟩
    exact ⟨A, c, rfl, hl, Kd.R_move h hm⟩
  M_lower := by
    rintro w base base' ok x cs hb ⟨A, c, rfl, hl, h⟩
    exact ⟨A, c, rfl, hl, Kd.R_lower h hb⟩
/-- an element of the one kind or of the other -/
def sumD {α β : Type} (a : Kd α) (b : Kd β) (h : b.sz = a.sz) : Kd (α ⊕ β) where
  sz := a.sz
  E := a.E ++ b.E
  K := fun w x cs => match x with | .inl x => a.K w x cs | .inr y => b.K w y cs
  M := fun w base ok x cs => match x with | .inl x => a.M w base ok x cs | .inr y => b.M w base ok y cs
  K_len := by
    rintro w (x | y) cs hk
    · exact a.K_len hk
    · exact (b.K_len hk).trans h
  K_one := by
    rintro w (x | y) cs hk
    · exact a.K_one hk
    · exact b.K_one hk
  K_below := by
    rintro w w1 (x | y) cs hb hk
    · exact a.K_below hb hk
    · exact b.K_below hb hk
  K_of_M := by
    rintro w base ok (x | y) cs hk
    · exact a.K_of_M hk
    · exact b.K_of_M hk
  M_mono := by
    rintro w base ok ok' (x | y) cs hok hk
    · exact a.M_mono hok hk
    · exact b.M_mono hok hk
  M_bound := by
    rintro w base ok (x | y) cs hk
    · exact a.M_mono (fun k h => ⟨h.1, h.2.1, h.2.2.1, by obtain ⟨q, hq, hc⟩ := h.2.2.2; exact ⟨q, List.mem_append_left _ hq, hc⟩⟩) (a.M_bound hk)
    · exact b.M_mono (fun k h => ⟨h.1, h.2.1, h.2.2.1, by obtain ⟨q, hq, hc⟩ := h.2.2.2; exact ⟨q, List.mem_append_right _ hq, hc⟩⟩) (b.M_bound hk)
  M_move := by
    rintro w w1 base ok (x | y) cs hm hk
    · exact a.M_move hm hk
    · exact b.M_move hm hk
  M_lower := by
    rintro w base base' ok (x | y) cs hb hk
    · exact a.M_lower hb hk
    · exact b.M_lower hb hk
/-- one element that lies in a block of its own -/
theorem reads_1 {α : Type} {R : α → List Value → Prop} {W : World} {g t sz : Nat} {cs : Array Value} {x : α} (h : IsB W g cs t) (hs : cs.size = sz) (hR : R x cs.toList) : ReadsRow R sz W (some ⟨g, 0, none⟩) 1 [x] := by
  refine ⟨rfl, by decide, fun _ => ⟨_, rfl, fun j p hj => ?_⟩⟩
  obtain ⟨rfl, rfl⟩ : j = 0 ∧ p = x := by
    cases j with
    | zero => exact ⟨rfl, by simpa using hj.symm⟩
    | succ j => simp at hj
  refine ⟨cs.toList, by simpa using hs, hR, fun i u hu => ?_⟩
  rw [Nat.zero_mul, Nat.zero_add]
  have hu' : cs[i]? = some u := by simpa using hu
  have h2 := (blk_cell h i).trans hu'
  rw [← h2]
  congr 1
  unfold Addr.add
  split
  · rename_i h0
    subst h0
    rfl
  · simp
theorem own_lt2 {α : Type} {d : Kd α} {e base : Nat} {ok : Nat → Prop} {W : World} {v : Value} {xs : List α} (h : d.R e W base ok v xs) (k : Nat) (hk : v.ownBlock = some k) : k < W.heap.size := by
  obtain ⟨inner, ho⟩ := Kd.R_own h
  exact own_lt ho k hk
/-- the row without the one behind it -/
theorem C_cut {α : Type} {d : Kd α} {w : World} {A : Option Addr} {l : List α} {z : α} (h : d.C w A (l.length + 1) (l ++ [z])) : d.C w A l.length l := by
  obtain ⟨h1, h2, h3⟩ := h
  refine ⟨rfl, by omega, fun hp => ?_⟩
  obtain ⟨ad, hA, hc⟩ := h3 (by omega)
  exact ⟨ad, hA, fun j p hj => hc j p (by rw [List.getElem?_append_left (by exact (List.getElem?_eq_some_iff.1 hj).1)]; exact hj)⟩
/-- elements of the first kind alone -/
theorem C_inl {α β : Type} {a : Kd α} {b : Kd β} {h : b.sz = a.sz} {d : Kd α} (hsz : d.sz = a.sz) {w : World} (hd : ∀ x cs, a.K w x cs → d.K w x cs) {A : Option Addr} {n : Nat} {l : List α} (hC : (sumD a b h).C w A n (l.map .inl)) : d.C w A n l := by
  obtain ⟨h1, h2, h3⟩ := hC
  refine ⟨by simpa using h1, h2, fun hp => ?_⟩
  obtain ⟨ad, hA, hc⟩ := h3 hp
  refine ⟨ad, hA, fun j p hj => ?_⟩
  obtain ⟨c, e1, e2, e3⟩ := hc j (.inl p) (by rw [List.getElem?_map, hj]; rfl)
  exact ⟨c, e1.trans hsz.symm, hd p c e2, by rw [hsz]; exact e3⟩
/-- a lent matrix -/
def kLM : Kd S56 := Kd.iso (Kd.pair (Kd.int .i64) (Kd.pair (Kd.int .i64) (Kd.pair (Kd.int .i64) (lentD 3 (Kd.int .i64) (-77))))) (fun x : S56 => (x.f0, x.f1, x.f2, x.f3))
abbrev markM (r : Int) : S56 := ⟨r, 0, 0, []⟩
abbrev kOM : Kd (S56 ⊕ S56) := sumD kLM k56 rfl
theorem kLM_mkM {w : World} {base : Nat} {ok : Nat → Prop} {x : S56} {A : Option Addr} {c : Nat} (hl : x.f3.length + 1 ≤ c) (h : (Kd.int .i64).R 3 w base ok (.slice A (x.f3.length + 1) c) (x.f3 ++ [-77])) : kLM.M w base ok x [.int .i64 x.f0, .int .i64 x.f1, .int .i64 x.f2, .slice A x.f3.length c] :=
  ⟨[_], [_, _, _], rfl, rfl, [_], [_, _], rfl, rfl, [_], [_], rfl, rfl, A, c, rfl, hl, h⟩
theorem kLM_open {w : World} {x : S56} {cs : List Value} (h : kLM.K w x cs) : ∃ A c, cs = [.int .i64 x.f0, .int .i64 x.f1, .int .i64 x.f2, .slice A x.f3.length c] ∧ x.f3.length + 1 ≤ c ∧ (Kd.int .i64).C w A (x.f3.length + 1) (x.f3 ++ [-77]) := by
  obtain ⟨c0, c1, rfl, k0, c2, c3, rfl, k1, c4, c5, rfl, k2, A, c, rfl, hl, hC⟩ := h
  have k0' : c0 = [.int .i64 _] := k0
  have k1' : c2 = [.int .i64 _] := k1
  have k2' : c4 = [.int .i64 _] := k2
  subst k0' k1' k2'
  exact ⟨A, c, rfl, hl, hC⟩
theorem kLM_k56 {w : World} (x : S56) (cs : List Value) (h : kLM.K w x cs) : k56.K w x cs := by
  obtain ⟨A, c, rfl, hl, hC⟩ := kLM_open h
  exact k56_mk w x (by omega) (C_cut hC)
/-- a lent list of matrices -/
def kLL : Kd (List S56) := Kd.iso (lentD 56 kOM (.inr (markM (-77)))) (fun l : List S56 => l.map .inl)
abbrev kOL : Kd (List S56 ⊕ List S56) := sumD kLL (Kd.slice 56 k56) rfl
theorem kLL_slice {w : World} (x : List S56) (cs : List Value) (h : kLL.K w x cs) : (Kd.slice 56 k56).K w x cs := by
  obtain ⟨A, c, rfl, hl, hC⟩ := h
  rw [List.length_map] at hl
  have hC' := C_cut hC
  rw [List.length_map] at hC'
  exact ⟨A, c, by rw [List.length_map], by omega, C_inl (a := kLM) (b := k56) (d := k56) rfl (fun x cs => kLM_k56 x cs) hC'⟩
end Go.Proofs.Ytmiljlbbacbbpaa

/- pupillaw23.lentList: a list in memory of its own, one more behind its matrices, and behind each one's elements. -/
namespace Go.Proofs.Ytmiljlbbacbbpaa
open Go.RowKit PBase
open Go.Proofs.YtmiljlbbacbbpaaW.PrintWords Go.Proofs.YtmiljlbbacbbpaaW.PrintLast Go.Proofs.YtmiljlbbacbbpaaW.PrintMore
set_option linter.unusedVariables false
set_option linter.unusedSimpArgs false

set_option maxHeartbeats 2000000 in
set_option maxRecDepth 100000 in
theorem lentList_calls (A : Option Addr) (cA : Nat) (l : List S56) (w : World) (hC : Kd.C k56 w A l.length l) (hcA : l.length ≤ cA) (hl : l.length ≤ 100000) (hm : ∀ m ∈ l, m.f3.length ≤ 100000) :
    Calls Try.prog 39 #[.slice A l.length cA] w fun e w' => ∃ A' c', e = .returned (.slice A' l.length c') ∧ l.length + 1 ≤ c' ∧ Kd.S kOM 56 w' w.heap.size (fun _ => True) (.slice A' (l.length + 1) c') (l.map .inl ++ [.inr (markM (-77))]) ∧ Below w.heap.size w w' := by
  have HC := Aside0.mk hC
  have HH := Aside0.mk (And.intro hl hm)
  clear hC hcA hl hm
  go_enter Try.func39, Try.ntmps39
  go_wp2_with fail
  have HR0 : Aside0 (Kd.S kOM 56 w w.heap.size (fun _ => True) (.slice none 0 0) []) := ⟨Kd.S_nil _ _ _ _ _⟩
  have HB0 : Aside0 (Below w.heap.size w w) := ⟨Below.refl _ _⟩
  go_loopg [3, 4] l.length (fun kq v3 v4 w' => ∃ (i : Nat) (u : Value) (xs : List (S56 ⊕ S56)), v3 = u ∧ v4 = .int .i64 i ∧ Aside0 (i + kq = l.length ∧ xs = (l.take i).map .inl) ∧ Aside0 (Kd.S kOM 56 w' w.heap.size (fun _ => True) u xs) ∧ Aside0 (Below w.heap.size w w'))
  case atStart => exact ⟨0, _, [], rfl, rfl, ⟨⟨by omega, rfl⟩⟩, HR0, HB0⟩
  case round =>
    clear HR0 HB0
    obtain ⟨i, u, xs, rfl, rfl, HI, HR, HB⟩ := hrel
    obtain ⟨A3, c3, rfl, hc3, hC3⟩ := Kd.S_reads HR.out
    clear hc3 hC3
    by_cases hlt : i < l.length
    · have d6 : decide ((i : Int) < (l.length : Int)) = true := decide_eq_true (by omega)
      have d7 : decide (i < l.length) = true := decide_eq_true hlt
      have j0 : (0 : Int) ≤ (i : Int) := by omega
      have j1 : (i : Int) < (l.length : Int) := by omega
      obtain ⟨ad2, A5, c5, hA0, k0, k1, k2, k3, hl5, hC5⟩ := at_T56 (Kd.C_below HC.out HB.out) (i : Int) (by omega) (by omega)
      subst hA0
      obtain ⟨m, hm⟩ : ∃ m, m = rd_T56 l (i : Int) := ⟨_, rfl⟩
      have hmem : m = l[i] := by rw [hm, (by simp [rd_T56, List.getD_eq_getElem?_getD, hlt] : rd_T56 l (i : Int) = l[i])]
      rw [← hm] at k0 k1 k2 k3 hl5 hC5
      simp only [Int.toNat_natCast] at k0 k1 k2 k3
      have HMB := Aside0.mk (show m.f3.length ≤ 100000 from HH.out.2 m (hmem ▸ List.getElem_mem hlt))
      have HTK := Aside0.mk (show (l.take (i + 1)).map (Sum.inl (β := S56)) = xs ++ [.inl m] by rw [HI.out.2, hmem, List.take_succ_eq_append_getElem hlt, List.map_append]; rfl)
      have HLT := Aside0.mk hlt
      have HXL := Aside0.mk (show xs.length ≤ 100000 by rw [HI.out.2, List.length_map, List.length_take]; have := HH.out.1; omega)
      have HC5 := Aside0.mk (And.intro hl5 hC5)
      clear hl5 hC5 hm hlt hmem
      go_wp2_with fail
      refine (lentM_calls m.f0 m.f1 m.f2 A5 c5 m.f3 _ HC5.out.2 HC5.out.1 HMB.out).mono ?_
      rintro e w3 ⟨A6, c6, rfl, hl6, hR6, hb⟩
      have HB3 := Aside0.mk (below_step HB.out hb)
      have HS3 := Aside0.mk (show Kd.S kOM 56 w3 w.heap.size (fun k => True ∧ ¬ (wr.heap.size ≤ k)) (.slice A3 xs.length c3) xs from Kd.S_mono (Kd.S_old HR.out hb) (fun k hk => ⟨trivial, by have := hk.2; omega⟩))
      have HM3 := Aside0.mk (show kOM.M w3 w.heap.size (fun k => wr.heap.size ≤ k) (.inl m) [.int .i64 m.f0, .int .i64 m.f1, .int .i64 m.f2, .slice A6 m.f3.length c6] by
        have h1 : kLM.M w3 wr.heap.size (fun _ => True) m [.int .i64 m.f0, .int .i64 m.f1, .int .i64 m.f2, .slice A6 m.f3.length c6] := kLM_mkM hl6 hR6
        exact kLM.M_lower HB.out.size (kLM.M_mono (fun _ hk => hk.2.1) (kLM.M_bound h1)))
      have HOK := Aside0.mk (show ∀ k, wr.heap.size ≤ k → True ∧ some k ≠ (Value.slice A3 xs.length c3).ownBlock from fun k hk => ⟨trivial, fun he => by have := Kd.S_lt HR.out k he.symm; omega⟩)
      clear hb hR6 hl6 HC5 HB HR k0 k1 k2 k3
      go_wp2_with (first | ((with_reducible refine gate_builtin (b := .append) (xs := #[.tmp 11, .tmp 17]) rfl ?_); at_builtin; refine Kd.S_append kOM (w0 := w) w.heap.size rfl (.tmp 11) (.tmp 17) 22 56 (.agg #[.int .i64 0, .int .i64 0, .int .i64 0, .slice none 0 0]) 48 rfl Try.underlying22 info56 rfl (show 0 < 4 by decide) (by decide) (.slice A3 xs.length c3) xs (.inl m) [.int .i64 m.f0, .int .i64 m.f1, .int .i64 m.f2, .slice A6 m.f3.length c6] (fun _ => True) (fun k => wr.heap.size ≤ k) rfl rfl HM3.out HOK.out (fun _ _ => trivial) HS3.out HB3.out HB3.out.size (by have := HXL.out; omega) ?_; intro v5 w5 ho hb hg hat; have HR5 := Aside0.mk ho; have HB5 := Aside0.mk hb; clear ho hb hg hat HM3 HOK HS3 HB3) | fail)
      go_roundg (gk - 1)
      case measure => have := HI.out.1; have := HLT.out; omega
      case rel => exact ⟨i + 1, _, _, rfl, next_i6 (by have := HLT.out; have := HH.out.1; omega), ⟨⟨by have := HI.out.1; have := HLT.out; omega, HTK.out.symm⟩⟩, HR5, HB5⟩
    · have d6 : decide ((i : Int) < (l.length : Int)) = false := decide_eq_false (by omega)
      have d7 : decide (i < l.length) = false := decide_eq_false hlt
      have hi : i = l.length := by have := HI.out.1; omega
      have HXS := Aside0.mk (show xs = l.map .inl by rw [HI.out.2, hi, List.take_length])
      have HXL := Aside0.mk (show xs.length = l.length by rw [HXS.out, List.length_map])
      clear HI hlt hi
      have HM3 := Aside0.mk (show kOM.M wr w.heap.size (fun _ => False) (.inr (markM (-77))) _ from (show k56.M wr w.heap.size (fun _ => False) (markM (-77)) _ from k56_mkM wr w.heap.size _ (markM (-77)) (Kd.R_nil _ _ _ _ _)))
      have HS3 := Aside0.mk (show Kd.S kOM 56 wr w.heap.size (fun k => True ∧ ¬ False) (.slice A3 xs.length c3) xs from Kd.S_mono HR.out (fun k hk => ⟨trivial, id⟩))
      clear HR
      go_wp2_with (first | ((with_reducible refine gate_builtin (b := .append) (xs := #[.tmp 19, .tmp 21]) rfl ?_); at_builtin; refine Kd.S_append kOM (w0 := w) w.heap.size rfl (.tmp 19) (.tmp 21) 22 56 (.agg #[.int .i64 0, .int .i64 0, .int .i64 0, .slice none 0 0]) 48 rfl Try.underlying22 info56 rfl (show 0 < 4 by decide) (by decide) (.slice A3 xs.length c3) xs (.inr (markM (-77))) [.int .i64 (-77), .int .i64 0, .int .i64 0, .slice none 0 0] (fun _ => True) (fun _ => False) rfl rfl HM3.out (fun _ hk => hk.elim) (fun _ _ => trivial) HS3.out HB.out HB.out.size (by have := HXL.out; have := HH.out.1; omega) ?_; intro v5 w5 ho hb hg hat; rw [HXS.out] at ho; obtain ⟨A6, c6, rfl, hc6, _⟩ := Kd.S_reads ho; have hll : (l.map (Sum.inl (β := S56)) ++ [Sum.inr (markM (-77))]).length = l.length + 1 := (by rw [List.length_append, List.length_map]; rfl); rw [hll] at ho hc6 ⊢; have HR5 := Aside0.mk ho; have HB5 := Aside0.mk hb; have HLC := Aside0.mk hc6; have hnc := eq_true (show l.length ≤ c6 by omega); clear ho hb hg hat HS3 HM3 hc6 hll) | fail)

      go_ret
      exact ⟨A6, c6, rfl, HLC.out, HR5.out, HB5.out⟩
end Go.Proofs.Ytmiljlbbacbbpaa
