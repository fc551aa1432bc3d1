/- TensorBoth: the law comes to true. -/
import Derived.Test.YtklomikdihlcgaaSizedP
namespace Go.Proofs.Ytklomikdihlcgaa
open Go.RowKit PBase
open Go.Proofs.YtklomikdihlcgaaW.PrintWords Go.Proofs.YtklomikdihlcgaaW.PrintLast Go.Proofs.YtklomikdihlcgaaW.PrintMore
set_option linter.unusedVariables false
set_option linter.unusedSimpArgs false

abbrev row3' (a b c : Int) : Array Value := #[.int .i64 a, .int .i64 b, .int .i64 c]

/-- two sizes that stretch to one -/
def meetV (x y : Int) : Bool := if x ≥ 1 then (if y ≥ 1 then (if x = y then true else (mn x y == 1)) else false) else false
def bothV (a0 a1 a2 b0 b1 b2 : Int) : Int × Int × Int × Int :=
  if a2 ≠ 32 ∧ a2 ≠ 64 ∨ a2 ≠ b2 then (0, 0, 0, 3)
  else if meetV a0 b0 = true ∧ meetV a1 b1 = true then
    (if sizedV (mx a0 b0) (mx a1 b1) a2 = 0 then (mx a0 b0, mx a1 b1, a2, 0) else (0, 0, 0, sizedV (mx a0 b0) (mx a1 b1) a2))
  else (0, 0, 0, 4)

set_option maxHeartbeats 1000000 in
set_option maxRecDepth 100000 in
theorem meet_calls (x y : Int) (w : World) : Calls Try.prog 55 #[.int .i64 x, .int .i64 y] w fun e w' => e = .returned (.bool (meetV x y)) ∧ Below w.heap.size w w' := by
  have HB := Aside0.mk (Below.refl w.heap.size w)
  unfold meetV
  go_enter Try.func55, Try.ntmps55
  by_cases h1 : x ≥ 1
  · rw [if_pos h1]
    by_cases h2 : y ≥ 1
    · rw [if_pos h2]
      by_cases h3 : x = y
      · rw [if_pos h3]
        go_wp2
        go_ret
        exact ⟨rfl, HB.out⟩
      · rw [if_neg h3]
        have h3' : (x == y) = false := by simpa using h3
        unfold mn
        by_cases h4 : y < x
        · rw [if_pos h4]
          go_wp2
          all_goals first | omega | skip
          go_ret
          exact ⟨by simp [h3'], HB.out⟩
        · rw [if_neg h4]
          go_wp2
          all_goals first | omega | skip
          go_ret
          exact ⟨by simp [h3'], HB.out⟩
    · rw [if_neg h2]
      go_wp2
      go_ret
      exact ⟨rfl, HB.out⟩
  · rw [if_neg h1]
    go_wp2
    go_ret
    exact ⟨rfl, HB.out⟩

theorem new2 (w : World) (x y z : Array Value) (s t u : Nat) : IsB (((w.alloc (.cells x s)).alloc (.cells y t)).alloc (.cells z u)) (w.heap.size + 2) z u := by
  have h := blk_new ((w.alloc (.cells x s)).alloc (.cells y t)) (.cells z u); simp only [World.size_alloc] at h; exact h
theorem func55_enters (args : Array Value) (W : World) : Sem.run Try.prog (callFunc 55 args) W = .ok (.enter 55 args) W := enters_ Try.func55 (by kernel_rfl) (by kernel_rfl) args W

theorem isB_set3 {W : World} {g t : Nat} {a b c : Value} (h : IsB W g #[a, b, c] t) (a' b' c' : Value) :
    IsB (((W.setCell ⟨g, 0, none⟩ a').setCell ⟨g, 1, none⟩ b').setCell ⟨g, 2, none⟩ c') g #[a', b', c'] t := by
  have h1 := blk_set (blk_set (blk_set h 0 a') 1 b') 2 c'
  exact h1
theorem below_set3 {n : Nat} {w W : World} {g : Nat} (h : Below n w W) (hg : n ≤ g) (a' b' c' : Value) :
    Below n w (((W.setCell ⟨g, 0, none⟩ a').setCell ⟨g, 1, none⟩ b').setCell ⟨g, 2, none⟩ c') :=
  Below.setCell (Below.setCell (Below.setCell h (p := ⟨g, 0, none⟩) hg _) (p := ⟨g, 1, none⟩) hg _) (p := ⟨g, 2, none⟩) hg _

set_option maxHeartbeats 4000000 in
set_option maxRecDepth 100000 in
theorem tensorBoth_calls (x0 x1 x2 y0 y1 y2 r1 r2 r3 r4 : Int) (w : World) (h : bothV x0 x1 x2 y0 y1 y2 = (r1, r2, r3, r4)) : Calls Try.prog 18 #[.agg (row3' x0 x1 x2), .agg (row3' y0 y1 y2)] w fun e w' => e = .returned (.tuple #[.agg (row3' r1 r2 r3), .int .i64 r4]) ∧ Below w.heap.size w w' := by
  unfold bothV at h
  go_enter Try.func18, Try.ntmps18
  by_cases hw : x2 ≠ 32 ∧ x2 ≠ 64 ∨ x2 ≠ y2
  · rw [if_pos hw] at h
    cases h
    by_cases h32 : x2 = 32
    · subst h32
      have hy : ((32 : Int) != y2) = true := by simp; omega
      go_wp2
      refine bodyPost_ret (v := .tuple #[.agg (row3' 0 0 0), .int .i64 3]) (by simp [results, Try.results18, go_sem]) rfl ?_
      exact ⟨rfl, below_alloc (below_alloc (below_alloc (Below.refl _ _) _) _) _⟩
    · by_cases h64 : x2 = 64
      · subst h64
        have hy : ((64 : Int) != y2) = true := by simp; omega
        go_wp2
        refine bodyPost_ret (v := .tuple #[.agg (row3' 0 0 0), .int .i64 3]) (by simp [results, Try.results18, go_sem]) rfl ?_
        exact ⟨rfl, below_alloc (below_alloc (below_alloc (Below.refl _ _) _) _) _⟩
      · have g32 : (x2 != 32) = true := by simpa using h32
        have g64 : (x2 != 64) = true := by simpa using h64
        go_wp2
        refine bodyPost_ret (v := .tuple #[.agg (row3' 0 0 0), .int .i64 3]) (by simp [results, Try.results18, go_sem]) rfl ?_
        exact ⟨rfl, below_alloc (below_alloc (below_alloc (Below.refl _ _) _) _) _⟩
  · rw [if_neg hw] at h
    have ha : x2 = 32 ∨ x2 = 64 := by omega
    obtain rfl : x2 = y2 := by omega
    clear hw
    rcases ha with rfl | rfl
    · go_wp2_with fail
      generalize hw1 : (((w.alloc (Obj.cells (row3' x0 x1 32) 34)).alloc (Obj.cells (row3' y0 y1 32) 34)).alloc (Obj.cells #[Value.int IntKind.i64 0, Value.int IntKind.i64 0, Value.int IntKind.i64 0] 34)) = w1
      have HB_1 : Aside0 (Below w.heap.size w w1) := ⟨by rw [← hw1]; exact below_alloc (below_alloc (below_alloc (Below.refl _ _) _) _) _⟩
      have H0_1 : Aside0 (IsB w1 w.heap.size (row3' x0 x1 32) 34) := ⟨by rw [← hw1]; exact blk_alloc (blk_alloc (blk_new _ _) _) _⟩
      have H1_1 : Aside0 (IsB w1 (w.heap.size + 1) (row3' y0 y1 32) 34) := ⟨by rw [← hw1]; exact blk_alloc (new1 w _ _ 34 34) _⟩
      have H2_1 : Aside0 (IsB w1 (w.heap.size + 1 + 1) (row3' 0 0 0) 34) := ⟨by rw [← hw1]; exact new2 w _ _ _ 34 34 34⟩
      clear hw1
      refine (meet_calls x0 y0 w1).mono ?_
      rintro e w2 ⟨rfl, hb⟩
      have H0_2 := Aside0.mk (blk_below H0_1.out hb)
      have H1_2 := Aside0.mk (blk_below H1_1.out hb)
      have H2_2 := Aside0.mk (blk_below H2_1.out hb)
      have HB_2 := Aside0.mk (below_step HB_1.out hb)
      clear hb H0_1 H1_1 H2_1 HB_1
      have a0 := blk_cell H0_2.out 0
      have a1 := blk_cell H0_2.out 1
      have a2 := blk_cell H0_2.out 2
      simp only [List.getElem?_toArray, List.getElem?_cons_zero, List.getElem?_cons_succ] at a0 a1 a2
      have b0 := blk_cell H1_2.out 0
      have b1 := blk_cell H1_2.out 1
      have b2 := blk_cell H1_2.out 2
      simp only [List.getElem?_toArray, List.getElem?_cons_zero, List.getElem?_cons_succ] at b0 b1 b2
      have c0 := blk_cell H2_2.out 0
      have c1 := blk_cell H2_2.out 1
      have c2 := blk_cell H2_2.out 2
      simp only [List.getElem?_toArray, List.getElem?_cons_zero, List.getElem?_cons_succ] at c0 c1 c2
      have cf0 := blk_frozen H2_2.out 0
      have cf1 := blk_frozen H2_2.out 1
      have cf2 := blk_frozen H2_2.out 2
      by_cases hm0 : meetV x0 y0 = true
      · rw [hm0] at h ⊢
        go_wp2_with fail
        refine (meet_calls x1 y1 w2).mono ?_
        rintro e w3 ⟨rfl, hb⟩
        have H0_3 := Aside0.mk (blk_below H0_2.out hb)
        have H1_3 := Aside0.mk (blk_below H1_2.out hb)
        have H2_3 := Aside0.mk (blk_below H2_2.out hb)
        have HB_3 := Aside0.mk (below_step HB_2.out hb)
        clear hb H0_2 H1_2 H2_2 HB_2
        clear a0 a1 a2 b0 b1 b2 c0 c1 c2 cf0 cf1 cf2
        have a0 := blk_cell H0_3.out 0
        have a1 := blk_cell H0_3.out 1
        have a2 := blk_cell H0_3.out 2
        simp only [List.getElem?_toArray, List.getElem?_cons_zero, List.getElem?_cons_succ] at a0 a1 a2
        have b0 := blk_cell H1_3.out 0
        have b1 := blk_cell H1_3.out 1
        have b2 := blk_cell H1_3.out 2
        simp only [List.getElem?_toArray, List.getElem?_cons_zero, List.getElem?_cons_succ] at b0 b1 b2
        by_cases hm1 : meetV x1 y1 = true
        · rw [hm1] at h ⊢
          simp only [and_self, if_true] at h
          by_cases l0 : x0 < y0
          · have e0 : mx x0 y0 = y0 := by unfold mx; rw [if_pos l0]
            rw [e0] at h
            by_cases l1 : x1 < y1
            · have e1 : mx x1 y1 = y1 := by unfold mx; rw [if_pos l1]
              rw [e1] at h
              go_wp2_with fail
              have HN := Aside0.mk (blk_new w3 (Obj.cells (row3' y0 y1 32) 34))
              have H2_4 := Aside0.mk (blk_alloc H2_3.out (Obj.cells (row3' y0 y1 32) 34))
              have HB_4 := Aside0.mk (below_alloc HB_3.out (Obj.cells (row3' y0 y1 32) 34))
              generalize w3.alloc (Obj.cells (row3' y0 y1 32) 34) = w4 at HN H2_4 HB_4 ⊢
              generalize w3.heap.size = g at HN ⊢
              clear HB_3 H2_3 H0_3 H1_3 a0 a1 a2 b0 b1 b2
              refine (tensor_Sized.calls 8 y0 y1 32 (sizedV y0 y1 32) w4 (Sized_eq 6 _ _ _)).mono ?_
              rintro e w5 ⟨rfl, hb⟩
              have HN_5 := Aside0.mk (blk_below HN.out hb)
              have H2_5 := Aside0.mk (blk_below H2_4.out hb)
              have HB_5 := Aside0.mk (below_step HB_4.out hb)
              clear hb HN H2_4 HB_4
              have n0 := blk_cell HN_5.out 0
              have n1 := blk_cell HN_5.out 1
              have n2 := blk_cell HN_5.out 2
              simp only [List.getElem?_toArray, List.getElem?_cons_zero, List.getElem?_cons_succ] at n0 n1 n2
              have c0 := blk_cell H2_5.out 0
              have c1 := blk_cell H2_5.out 1
              have c2 := blk_cell H2_5.out 2
              simp only [List.getElem?_toArray, List.getElem?_cons_zero, List.getElem?_cons_succ] at c0 c1 c2
              have cf0 := blk_frozen H2_5.out 0
              have cf1 := blk_frozen H2_5.out 1
              have cf2 := blk_frozen H2_5.out 2
              by_cases hs : sizedV y0 y1 32 = 0
              · rw [if_pos hs] at h
                cases h
                rw [hs]
                go_wp2
                have HE := isB_set3 H2_5.out (.int .i64 y0) (.int .i64 y1) (.int .i64 32)
                have q0 := blk_cell HE 0
                have q1 := blk_cell HE 1
                have q2 := blk_cell HE 2
                simp only [List.getElem?_toArray, List.getElem?_cons_zero, List.getElem?_cons_succ] at q0 q1 q2
                refine bodyPost_ret (v := .tuple #[.agg (row3' y0 y1 32), .int .i64 0]) (by simp [results, Try.results18, go_sem, q0, q1, q2]) rfl ?_
                exact ⟨rfl, below_set3 HB_5.out (by omega) _ _ _⟩
              · rw [if_neg hs] at h
                cases h
                have hne : (sizedV y0 y1 32 != 0) = true := by simpa using hs
                go_wp2
                have HE := isB_set3 H2_5.out (.int .i64 0) (.int .i64 0) (.int .i64 0)
                have q0 := blk_cell HE 0
                have q1 := blk_cell HE 1
                have q2 := blk_cell HE 2
                simp only [List.getElem?_toArray, List.getElem?_cons_zero, List.getElem?_cons_succ] at q0 q1 q2
                refine bodyPost_ret (v := .tuple #[.agg (row3' 0 0 0), .int .i64 (sizedV y0 y1 32)]) (by simp [results, Try.results18, go_sem, q0, q1, q2]) rfl ?_
                exact ⟨rfl, below_set3 HB_5.out (by omega) _ _ _⟩
            · have e1 : mx x1 y1 = x1 := by unfold mx; rw [if_neg l1]
              rw [e1] at h
              go_wp2_with fail
              have HN := Aside0.mk (blk_new w3 (Obj.cells (row3' y0 x1 32) 34))
              have H2_4 := Aside0.mk (blk_alloc H2_3.out (Obj.cells (row3' y0 x1 32) 34))
              have HB_4 := Aside0.mk (below_alloc HB_3.out (Obj.cells (row3' y0 x1 32) 34))
              generalize w3.alloc (Obj.cells (row3' y0 x1 32) 34) = w4 at HN H2_4 HB_4 ⊢
              generalize w3.heap.size = g at HN ⊢
              clear HB_3 H2_3 H0_3 H1_3 a0 a1 a2 b0 b1 b2
              refine (tensor_Sized.calls 8 y0 x1 32 (sizedV y0 x1 32) w4 (Sized_eq 6 _ _ _)).mono ?_
              rintro e w5 ⟨rfl, hb⟩
              have HN_5 := Aside0.mk (blk_below HN.out hb)
              have H2_5 := Aside0.mk (blk_below H2_4.out hb)
              have HB_5 := Aside0.mk (below_step HB_4.out hb)
              clear hb HN H2_4 HB_4
              have n0 := blk_cell HN_5.out 0
              have n1 := blk_cell HN_5.out 1
              have n2 := blk_cell HN_5.out 2
              simp only [List.getElem?_toArray, List.getElem?_cons_zero, List.getElem?_cons_succ] at n0 n1 n2
              have c0 := blk_cell H2_5.out 0
              have c1 := blk_cell H2_5.out 1
              have c2 := blk_cell H2_5.out 2
              simp only [List.getElem?_toArray, List.getElem?_cons_zero, List.getElem?_cons_succ] at c0 c1 c2
              have cf0 := blk_frozen H2_5.out 0
              have cf1 := blk_frozen H2_5.out 1
              have cf2 := blk_frozen H2_5.out 2
              by_cases hs : sizedV y0 x1 32 = 0
              · rw [if_pos hs] at h
                cases h
                rw [hs]
                go_wp2
                have HE := isB_set3 H2_5.out (.int .i64 y0) (.int .i64 x1) (.int .i64 32)
                have q0 := blk_cell HE 0
                have q1 := blk_cell HE 1
                have q2 := blk_cell HE 2
                simp only [List.getElem?_toArray, List.getElem?_cons_zero, List.getElem?_cons_succ] at q0 q1 q2
                refine bodyPost_ret (v := .tuple #[.agg (row3' y0 x1 32), .int .i64 0]) (by simp [results, Try.results18, go_sem, q0, q1, q2]) rfl ?_
                exact ⟨rfl, below_set3 HB_5.out (by omega) _ _ _⟩
              · rw [if_neg hs] at h
                cases h
                have hne : (sizedV y0 x1 32 != 0) = true := by simpa using hs
                go_wp2
                have HE := isB_set3 H2_5.out (.int .i64 0) (.int .i64 0) (.int .i64 0)
                have q0 := blk_cell HE 0
                have q1 := blk_cell HE 1
                have q2 := blk_cell HE 2
                simp only [List.getElem?_toArray, List.getElem?_cons_zero, List.getElem?_cons_succ] at q0 q1 q2
                refine bodyPost_ret (v := .tuple #[.agg (row3' 0 0 0), .int .i64 (sizedV y0 x1 32)]) (by simp [results, Try.results18, go_sem, q0, q1, q2]) rfl ?_
                exact ⟨rfl, below_set3 HB_5.out (by omega) _ _ _⟩
          · have e0 : mx x0 y0 = x0 := by unfold mx; rw [if_neg l0]
            rw [e0] at h
            by_cases l1 : x1 < y1
            · have e1 : mx x1 y1 = y1 := by unfold mx; rw [if_pos l1]
              rw [e1] at h
              go_wp2_with fail
              have HN := Aside0.mk (blk_new w3 (Obj.cells (row3' x0 y1 32) 34))
              have H2_4 := Aside0.mk (blk_alloc H2_3.out (Obj.cells (row3' x0 y1 32) 34))
              have HB_4 := Aside0.mk (below_alloc HB_3.out (Obj.cells (row3' x0 y1 32) 34))
              generalize w3.alloc (Obj.cells (row3' x0 y1 32) 34) = w4 at HN H2_4 HB_4 ⊢
              generalize w3.heap.size = g at HN ⊢
              clear HB_3 H2_3 H0_3 H1_3 a0 a1 a2 b0 b1 b2
              refine (tensor_Sized.calls 8 x0 y1 32 (sizedV x0 y1 32) w4 (Sized_eq 6 _ _ _)).mono ?_
              rintro e w5 ⟨rfl, hb⟩
              have HN_5 := Aside0.mk (blk_below HN.out hb)
              have H2_5 := Aside0.mk (blk_below H2_4.out hb)
              have HB_5 := Aside0.mk (below_step HB_4.out hb)
              clear hb HN H2_4 HB_4
              have n0 := blk_cell HN_5.out 0
              have n1 := blk_cell HN_5.out 1
              have n2 := blk_cell HN_5.out 2
              simp only [List.getElem?_toArray, List.getElem?_cons_zero, List.getElem?_cons_succ] at n0 n1 n2
              have c0 := blk_cell H2_5.out 0
              have c1 := blk_cell H2_5.out 1
              have c2 := blk_cell H2_5.out 2
              simp only [List.getElem?_toArray, List.getElem?_cons_zero, List.getElem?_cons_succ] at c0 c1 c2
              have cf0 := blk_frozen H2_5.out 0
              have cf1 := blk_frozen H2_5.out 1
              have cf2 := blk_frozen H2_5.out 2
              by_cases hs : sizedV x0 y1 32 = 0
              · rw [if_pos hs] at h
                cases h
                rw [hs]
                go_wp2
                have HE := isB_set3 H2_5.out (.int .i64 x0) (.int .i64 y1) (.int .i64 32)
                have q0 := blk_cell HE 0
                have q1 := blk_cell HE 1
                have q2 := blk_cell HE 2
                simp only [List.getElem?_toArray, List.getElem?_cons_zero, List.getElem?_cons_succ] at q0 q1 q2
                refine bodyPost_ret (v := .tuple #[.agg (row3' x0 y1 32), .int .i64 0]) (by simp [results, Try.results18, go_sem, q0, q1, q2]) rfl ?_
                exact ⟨rfl, below_set3 HB_5.out (by omega) _ _ _⟩
              · rw [if_neg hs] at h
                cases h
                have hne : (sizedV x0 y1 32 != 0) = true := by simpa using hs
                go_wp2
                have HE := isB_set3 H2_5.out (.int .i64 0) (.int .i64 0) (.int .i64 0)
                have q0 := blk_cell HE 0
                have q1 := blk_cell HE 1
                have q2 := blk_cell HE 2
                simp only [List.getElem?_toArray, List.getElem?_cons_zero, List.getElem?_cons_succ] at q0 q1 q2
                refine bodyPost_ret (v := .tuple #[.agg (row3' 0 0 0), .int .i64 (sizedV x0 y1 32)]) (by simp [results, Try.results18, go_sem, q0, q1, q2]) rfl ?_
                exact ⟨rfl, below_set3 HB_5.out (by omega) _ _ _⟩
            · have e1 : mx x1 y1 = x1 := by unfold mx; rw [if_neg l1]
              rw [e1] at h
              go_wp2_with fail
              have HN := Aside0.mk (blk_new w3 (Obj.cells (row3' x0 x1 32) 34))
              have H2_4 := Aside0.mk (blk_alloc H2_3.out (Obj.cells (row3' x0 x1 32) 34))
              have HB_4 := Aside0.mk (below_alloc HB_3.out (Obj.cells (row3' x0 x1 32) 34))
              generalize w3.alloc (Obj.cells (row3' x0 x1 32) 34) = w4 at HN H2_4 HB_4 ⊢
              generalize w3.heap.size = g at HN ⊢
              clear HB_3 H2_3 H0_3 H1_3 a0 a1 a2 b0 b1 b2
              refine (tensor_Sized.calls 8 x0 x1 32 (sizedV x0 x1 32) w4 (Sized_eq 6 _ _ _)).mono ?_
              rintro e w5 ⟨rfl, hb⟩
              have HN_5 := Aside0.mk (blk_below HN.out hb)
              have H2_5 := Aside0.mk (blk_below H2_4.out hb)
              have HB_5 := Aside0.mk (below_step HB_4.out hb)
              clear hb HN H2_4 HB_4
              have n0 := blk_cell HN_5.out 0
              have n1 := blk_cell HN_5.out 1
              have n2 := blk_cell HN_5.out 2
              simp only [List.getElem?_toArray, List.getElem?_cons_zero, List.getElem?_cons_succ] at n0 n1 n2
              have c0 := blk_cell H2_5.out 0
              have c1 := blk_cell H2_5.out 1
              have c2 := blk_cell H2_5.out 2
              simp only [List.getElem?_toArray, List.getElem?_cons_zero, List.getElem?_cons_succ] at c0 c1 c2
              have cf0 := blk_frozen H2_5.out 0
              have cf1 := blk_frozen H2_5.out 1
              have cf2 := blk_frozen H2_5.out 2
              by_cases hs : sizedV x0 x1 32 = 0
              · rw [if_pos hs] at h
                cases h
                rw [hs]
                go_wp2
                have HE := isB_set3 H2_5.out (.int .i64 x0) (.int .i64 x1) (.int .i64 32)
                have q0 := blk_cell HE 0
                have q1 := blk_cell HE 1
                have q2 := blk_cell HE 2
                simp only [List.getElem?_toArray, List.getElem?_cons_zero, List.getElem?_cons_succ] at q0 q1 q2
                refine bodyPost_ret (v := .tuple #[.agg (row3' x0 x1 32), .int .i64 0]) (by simp [results, Try.results18, go_sem, q0, q1, q2]) rfl ?_
                exact ⟨rfl, below_set3 HB_5.out (by omega) _ _ _⟩
              · rw [if_neg hs] at h
                cases h
                have hne : (sizedV x0 x1 32 != 0) = true := by simpa using hs
                go_wp2
                have HE := isB_set3 H2_5.out (.int .i64 0) (.int .i64 0) (.int .i64 0)
                have q0 := blk_cell HE 0
                have q1 := blk_cell HE 1
                have q2 := blk_cell HE 2
                simp only [List.getElem?_toArray, List.getElem?_cons_zero, List.getElem?_cons_succ] at q0 q1 q2
                refine bodyPost_ret (v := .tuple #[.agg (row3' 0 0 0), .int .i64 (sizedV x0 x1 32)]) (by simp [results, Try.results18, go_sem, q0, q1, q2]) rfl ?_
                exact ⟨rfl, below_set3 HB_5.out (by omega) _ _ _⟩
        · have hf := Bool.eq_false_iff.mpr hm1
          rw [hf] at h ⊢
          simp only [Bool.false_eq_true, and_false, if_false] at h
          cases h
          have c0 := blk_cell H2_3.out 0
          have c1 := blk_cell H2_3.out 1
          have c2 := blk_cell H2_3.out 2
          simp only [List.getElem?_toArray, List.getElem?_cons_zero, List.getElem?_cons_succ] at c0 c1 c2
          have cf0 := blk_frozen H2_3.out 0
          have cf1 := blk_frozen H2_3.out 1
          have cf2 := blk_frozen H2_3.out 2
          go_wp2
          have HE := isB_set3 H2_3.out (.int .i64 0) (.int .i64 0) (.int .i64 0)
          have q0 := blk_cell HE 0
          have q1 := blk_cell HE 1
          have q2 := blk_cell HE 2
          simp only [List.getElem?_toArray, List.getElem?_cons_zero, List.getElem?_cons_succ] at q0 q1 q2
          refine bodyPost_ret (v := .tuple #[.agg (row3' 0 0 0), .int .i64 4]) (by simp [results, Try.results18, go_sem, q0, q1, q2]) rfl ?_
          exact ⟨rfl, below_set3 HB_3.out (by omega) _ _ _⟩
      · have hf := Bool.eq_false_iff.mpr hm0
        rw [hf] at h ⊢
        simp only [Bool.false_eq_true, false_and, if_false] at h
        cases h
        go_wp2
        have HE := isB_set3 H2_2.out (.int .i64 0) (.int .i64 0) (.int .i64 0)
        have q0 := blk_cell HE 0
        have q1 := blk_cell HE 1
        have q2 := blk_cell HE 2
        simp only [List.getElem?_toArray, List.getElem?_cons_zero, List.getElem?_cons_succ] at q0 q1 q2
        refine bodyPost_ret (v := .tuple #[.agg (row3' 0 0 0), .int .i64 4]) (by simp [results, Try.results18, go_sem, q0, q1, q2]) rfl ?_
        exact ⟨rfl, below_set3 HB_2.out (by omega) _ _ _⟩
    · go_wp2_with fail
      generalize hw1 : (((w.alloc (Obj.cells (row3' x0 x1 64) 34)).alloc (Obj.cells (row3' y0 y1 64) 34)).alloc (Obj.cells #[Value.int IntKind.i64 0, Value.int IntKind.i64 0, Value.int IntKind.i64 0] 34)) = w1
      have HB_1 : Aside0 (Below w.heap.size w w1) := ⟨by rw [← hw1]; exact below_alloc (below_alloc (below_alloc (Below.refl _ _) _) _) _⟩
      have H0_1 : Aside0 (IsB w1 w.heap.size (row3' x0 x1 64) 34) := ⟨by rw [← hw1]; exact blk_alloc (blk_alloc (blk_new _ _) _) _⟩
      have H1_1 : Aside0 (IsB w1 (w.heap.size + 1) (row3' y0 y1 64) 34) := ⟨by rw [← hw1]; exact blk_alloc (new1 w _ _ 34 34) _⟩
      have H2_1 : Aside0 (IsB w1 (w.heap.size + 1 + 1) (row3' 0 0 0) 34) := ⟨by rw [← hw1]; exact new2 w _ _ _ 34 34 34⟩
      clear hw1
      refine (meet_calls x0 y0 w1).mono ?_
      rintro e w2 ⟨rfl, hb⟩
      have H0_2 := Aside0.mk (blk_below H0_1.out hb)
      have H1_2 := Aside0.mk (blk_below H1_1.out hb)
      have H2_2 := Aside0.mk (blk_below H2_1.out hb)
      have HB_2 := Aside0.mk (below_step HB_1.out hb)
      clear hb H0_1 H1_1 H2_1 HB_1
      have a0 := blk_cell H0_2.out 0
      have a1 := blk_cell H0_2.out 1
      have a2 := blk_cell H0_2.out 2
      simp only [List.getElem?_toArray, List.getElem?_cons_zero, List.getElem?_cons_succ] at a0 a1 a2
      have b0 := blk_cell H1_2.out 0
      have b1 := blk_cell H1_2.out 1
      have b2 := blk_cell H1_2.out 2
      simp only [List.getElem?_toArray, List.getElem?_cons_zero, List.getElem?_cons_succ] at b0 b1 b2
      have c0 := blk_cell H2_2.out 0
      have c1 := blk_cell H2_2.out 1
      have c2 := blk_cell H2_2.out 2
      simp only [List.getElem?_toArray, List.getElem?_cons_zero, List.getElem?_cons_succ] at c0 c1 c2
      have cf0 := blk_frozen H2_2.out 0
      have cf1 := blk_frozen H2_2.out 1
      have cf2 := blk_frozen H2_2.out 2
      by_cases hm0 : meetV x0 y0 = true
      · rw [hm0] at h ⊢
        go_wp2_with fail
        refine (meet_calls x1 y1 w2).mono ?_
        rintro e w3 ⟨rfl, hb⟩
        have H0_3 := Aside0.mk (blk_below H0_2.out hb)
        have H1_3 := Aside0.mk (blk_below H1_2.out hb)
        have H2_3 := Aside0.mk (blk_below H2_2.out hb)
        have HB_3 := Aside0.mk (below_step HB_2.out hb)
        clear hb H0_2 H1_2 H2_2 HB_2
        clear a0 a1 a2 b0 b1 b2 c0 c1 c2 cf0 cf1 cf2
        have a0 := blk_cell H0_3.out 0
        have a1 := blk_cell H0_3.out 1
        have a2 := blk_cell H0_3.out 2
        simp only [List.getElem?_toArray, List.getElem?_cons_zero, List.getElem?_cons_succ] at a0 a1 a2
        have b0 := blk_cell H1_3.out 0
        have b1 := blk_cell H1_3.out 1
        have b2 := blk_cell H1_3.out 2
        simp only [List.getElem?_toArray, List.getElem?_cons_zero, List.getElem?_cons_succ] at b0 b1 b2
        by_cases hm1 : meetV x1 y1 = true
        · rw [hm1] at h ⊢
          simp only [and_self, if_true] at h
          by_cases l0 : x0 < y0
          · have e0 : mx x0 y0 = y0 := by unfold mx; rw [if_pos l0]
            rw [e0] at h
            by_cases l1 : x1 < y1
            · have e1 : mx x1 y1 = y1 := by unfold mx; rw [if_pos l1]
              rw [e1] at h
              go_wp2_with fail
              have HN := Aside0.mk (blk_new w3 (Obj.cells (row3' y0 y1 64) 34))
              have H2_4 := Aside0.mk (blk_alloc H2_3.out (Obj.cells (row3' y0 y1 64) 34))
              have HB_4 := Aside0.mk (below_alloc HB_3.out (Obj.cells (row3' y0 y1 64) 34))
              generalize w3.alloc (Obj.cells (row3' y0 y1 64) 34) = w4 at HN H2_4 HB_4 ⊢
              generalize w3.heap.size = g at HN ⊢
              clear HB_3 H2_3 H0_3 H1_3 a0 a1 a2 b0 b1 b2
              refine (tensor_Sized.calls 8 y0 y1 64 (sizedV y0 y1 64) w4 (Sized_eq 6 _ _ _)).mono ?_
              rintro e w5 ⟨rfl, hb⟩
              have HN_5 := Aside0.mk (blk_below HN.out hb)
              have H2_5 := Aside0.mk (blk_below H2_4.out hb)
              have HB_5 := Aside0.mk (below_step HB_4.out hb)
              clear hb HN H2_4 HB_4
              have n0 := blk_cell HN_5.out 0
              have n1 := blk_cell HN_5.out 1
              have n2 := blk_cell HN_5.out 2
              simp only [List.getElem?_toArray, List.getElem?_cons_zero, List.getElem?_cons_succ] at n0 n1 n2
              have c0 := blk_cell H2_5.out 0
              have c1 := blk_cell H2_5.out 1
              have c2 := blk_cell H2_5.out 2
              simp only [List.getElem?_toArray, List.getElem?_cons_zero, List.getElem?_cons_succ] at c0 c1 c2
              have cf0 := blk_frozen H2_5.out 0
              have cf1 := blk_frozen H2_5.out 1
              have cf2 := blk_frozen H2_5.out 2
              by_cases hs : sizedV y0 y1 64 = 0
              · rw [if_pos hs] at h
                cases h
                rw [hs]
                go_wp2
                have HE := isB_set3 H2_5.out (.int .i64 y0) (.int .i64 y1) (.int .i64 64)
                have q0 := blk_cell HE 0
                have q1 := blk_cell HE 1
                have q2 := blk_cell HE 2
                simp only [List.getElem?_toArray, List.getElem?_cons_zero, List.getElem?_cons_succ] at q0 q1 q2
                refine bodyPost_ret (v := .tuple #[.agg (row3' y0 y1 64), .int .i64 0]) (by simp [results, Try.results18, go_sem, q0, q1, q2]) rfl ?_
                exact ⟨rfl, below_set3 HB_5.out (by omega) _ _ _⟩
              · rw [if_neg hs] at h
                cases h
                have hne : (sizedV y0 y1 64 != 0) = true := by simpa using hs
                go_wp2
                have HE := isB_set3 H2_5.out (.int .i64 0) (.int .i64 0) (.int .i64 0)
                have q0 := blk_cell HE 0
                have q1 := blk_cell HE 1
                have q2 := blk_cell HE 2
                simp only [List.getElem?_toArray, List.getElem?_cons_zero, List.getElem?_cons_succ] at q0 q1 q2
                refine bodyPost_ret (v := .tuple #[.agg (row3' 0 0 0), .int .i64 (sizedV y0 y1 64)]) (by simp [results, Try.results18, go_sem, q0, q1, q2]) rfl ?_
                exact ⟨rfl, below_set3 HB_5.out (by omega) _ _ _⟩
            · have e1 : mx x1 y1 = x1 := by unfold mx; rw [if_neg l1]
              rw [e1] at h
              go_wp2_with fail
              have HN := Aside0.mk (blk_new w3 (Obj.cells (row3' y0 x1 64) 34))
              have H2_4 := Aside0.mk (blk_alloc H2_3.out (Obj.cells (row3' y0 x1 64) 34))
              have HB_4 := Aside0.mk (below_alloc HB_3.out (Obj.cells (row3' y0 x1 64) 34))
              generalize w3.alloc (Obj.cells (row3' y0 x1 64) 34) = w4 at HN H2_4 HB_4 ⊢
              generalize w3.heap.size = g at HN ⊢
              clear HB_3 H2_3 H0_3 H1_3 a0 a1 a2 b0 b1 b2
              refine (tensor_Sized.calls 8 y0 x1 64 (sizedV y0 x1 64) w4 (Sized_eq 6 _ _ _)).mono ?_
              rintro e w5 ⟨rfl, hb⟩
              have HN_5 := Aside0.mk (blk_below HN.out hb)
              have H2_5 := Aside0.mk (blk_below H2_4.out hb)
              have HB_5 := Aside0.mk (below_step HB_4.out hb)
              clear hb HN H2_4 HB_4
              have n0 := blk_cell HN_5.out 0
              have n1 := blk_cell HN_5.out 1
              have n2 := blk_cell HN_5.out 2
              simp only [List.getElem?_toArray, List.getElem?_cons_zero, List.getElem?_cons_succ] at n0 n1 n2
              have c0 := blk_cell H2_5.out 0
              have c1 := blk_cell H2_5.out 1
              have c2 := blk_cell H2_5.out 2
              simp only [List.getElem?_toArray, List.getElem?_cons_zero, List.getElem?_cons_succ] at c0 c1 c2
              have cf0 := blk_frozen H2_5.out 0
              have cf1 := blk_frozen H2_5.out 1
              have cf2 := blk_frozen H2_5.out 2
              by_cases hs : sizedV y0 x1 64 = 0
              · rw [if_pos hs] at h
                cases h
                rw [hs]
                go_wp2
                have HE := isB_set3 H2_5.out (.int .i64 y0) (.int .i64 x1) (.int .i64 64)
                have q0 := blk_cell HE 0
                have q1 := blk_cell HE 1
                have q2 := blk_cell HE 2
                simp only [List.getElem?_toArray, List.getElem?_cons_zero, List.getElem?_cons_succ] at q0 q1 q2
                refine bodyPost_ret (v := .tuple #[.agg (row3' y0 x1 64), .int .i64 0]) (by simp [results, Try.results18, go_sem, q0, q1, q2]) rfl ?_
                exact ⟨rfl, below_set3 HB_5.out (by omega) _ _ _⟩
              · rw [if_neg hs] at h
                cases h
                have hne : (sizedV y0 x1 64 != 0) = true := by simpa using hs
                go_wp2
                have HE := isB_set3 H2_5.out (.int .i64 0) (.int .i64 0) (.int .i64 0)
                have q0 := blk_cell HE 0
                have q1 := blk_cell HE 1
                have q2 := blk_cell HE 2
                simp only [List.getElem?_toArray, List.getElem?_cons_zero, List.getElem?_cons_succ] at q0 q1 q2
                refine bodyPost_ret (v := .tuple #[.agg (row3' 0 0 0), .int .i64 (sizedV y0 x1 64)]) (by simp [results, Try.results18, go_sem, q0, q1, q2]) rfl ?_
                exact ⟨rfl, below_set3 HB_5.out (by omega) _ _ _⟩
          · have e0 : mx x0 y0 = x0 := by unfold mx; rw [if_neg l0]
            rw [e0] at h
            by_cases l1 : x1 < y1
            · have e1 : mx x1 y1 = y1 := by unfold mx; rw [if_pos l1]
              rw [e1] at h
              go_wp2_with fail
              have HN := Aside0.mk (blk_new w3 (Obj.cells (row3' x0 y1 64) 34))
              have H2_4 := Aside0.mk (blk_alloc H2_3.out (Obj.cells (row3' x0 y1 64) 34))
              have HB_4 := Aside0.mk (below_alloc HB_3.out (Obj.cells (row3' x0 y1 64) 34))
              generalize w3.alloc (Obj.cells (row3' x0 y1 64) 34) = w4 at HN H2_4 HB_4 ⊢
              generalize w3.heap.size = g at HN ⊢
              clear HB_3 H2_3 H0_3 H1_3 a0 a1 a2 b0 b1 b2
              refine (tensor_Sized.calls 8 x0 y1 64 (sizedV x0 y1 64) w4 (Sized_eq 6 _ _ _)).mono ?_
              rintro e w5 ⟨rfl, hb⟩
              have HN_5 := Aside0.mk (blk_below HN.out hb)
              have H2_5 := Aside0.mk (blk_below H2_4.out hb)
              have HB_5 := Aside0.mk (below_step HB_4.out hb)
              clear hb HN H2_4 HB_4
              have n0 := blk_cell HN_5.out 0
              have n1 := blk_cell HN_5.out 1
              have n2 := blk_cell HN_5.out 2
              simp only [List.getElem?_toArray, List.getElem?_cons_zero, List.getElem?_cons_succ] at n0 n1 n2
              have c0 := blk_cell H2_5.out 0
              have c1 := blk_cell H2_5.out 1
              have c2 := blk_cell H2_5.out 2
              simp only [List.getElem?_toArray, List.getElem?_cons_zero, List.getElem?_cons_succ] at c0 c1 c2
              have cf0 := blk_frozen H2_5.out 0
              have cf1 := blk_frozen H2_5.out 1
              have cf2 := blk_frozen H2_5.out 2
              by_cases hs : sizedV x0 y1 64 = 0
              · rw [if_pos hs] at h
                cases h
                rw [hs]
                go_wp2
                have HE := isB_set3 H2_5.out (.int .i64 x0) (.int .i64 y1) (.int .i64 64)
                have q0 := blk_cell HE 0
                have q1 := blk_cell HE 1
                have q2 := blk_cell HE 2
                simp only [List.getElem?_toArray, List.getElem?_cons_zero, List.getElem?_cons_succ] at q0 q1 q2
                refine bodyPost_ret (v := .tuple #[.agg (row3' x0 y1 64), .int .i64 0]) (by simp [results, Try.results18, go_sem, q0, q1, q2]) rfl ?_
                exact ⟨rfl, below_set3 HB_5.out (by omega) _ _ _⟩
              · rw [if_neg hs] at h
                cases h
                have hne : (sizedV x0 y1 64 != 0) = true := by simpa using hs
                go_wp2
                have HE := isB_set3 H2_5.out (.int .i64 0) (.int .i64 0) (.int .i64 0)
                have q0 := blk_cell HE 0
                have q1 := blk_cell HE 1
                have q2 := blk_cell HE 2
                simp only [List.getElem?_toArray, List.getElem?_cons_zero, List.getElem?_cons_succ] at q0 q1 q2
                refine bodyPost_ret (v := .tuple #[.agg (row3' 0 0 0), .int .i64 (sizedV x0 y1 64)]) (by simp [results, Try.results18, go_sem, q0, q1, q2]) rfl ?_
                exact ⟨rfl, below_set3 HB_5.out (by omega) _ _ _⟩
            · have e1 : mx x1 y1 = x1 := by unfold mx; rw [if_neg l1]
              rw [e1] at h
              go_wp2_with fail
              have HN := Aside0.mk (blk_new w3 (Obj.cells (row3' x0 x1 64) 34))
              have H2_4 := Aside0.mk (blk_alloc H2_3.out (Obj.cells (row3' x0 x1 64) 34))
              have HB_4 := Aside0.mk (below_alloc HB_3.out (Obj.cells (row3' x0 x1 64) 34))
              generalize w3.alloc (Obj.cells (row3' x0 x1 64) 34) = w4 at HN H2_4 HB_4 ⊢
              generalize w3.heap.size = g at HN ⊢
              clear HB_3 H2_3 H0_3 H1_3 a0 a1 a2 b0 b1 b2
              refine (tensor_Sized.calls 8 x0 x1 64 (sizedV x0 x1 64) w4 (Sized_eq 6 _ _ _)).mono ?_
              rintro e w5 ⟨rfl, hb⟩
              have HN_5 := Aside0.mk (blk_below HN.out hb)
              have H2_5 := Aside0.mk (blk_below H2_4.out hb)
              have HB_5 := Aside0.mk (below_step HB_4.out hb)
              clear hb HN H2_4 HB_4
              have n0 := blk_cell HN_5.out 0
              have n1 := blk_cell HN_5.out 1
              have n2 := blk_cell HN_5.out 2
              simp only [List.getElem?_toArray, List.getElem?_cons_zero, List.getElem?_cons_succ] at n0 n1 n2
              have c0 := blk_cell H2_5.out 0
              have c1 := blk_cell H2_5.out 1
              have c2 := blk_cell H2_5.out 2
              simp only [List.getElem?_toArray, List.getElem?_cons_zero, List.getElem?_cons_succ] at c0 c1 c2
              have cf0 := blk_frozen H2_5.out 0
              have cf1 := blk_frozen H2_5.out 1
              have cf2 := blk_frozen H2_5.out 2
              by_cases hs : sizedV x0 x1 64 = 0
              · rw [if_pos hs] at h
                cases h
                rw [hs]
                go_wp2
                have HE := isB_set3 H2_5.out (.int .i64 x0) (.int .i64 x1) (.int .i64 64)
                have q0 := blk_cell HE 0
                have q1 := blk_cell HE 1
                have q2 := blk_cell HE 2
                simp only [List.getElem?_toArray, List.getElem?_cons_zero, List.getElem?_cons_succ] at q0 q1 q2
                refine bodyPost_ret (v := .tuple #[.agg (row3' x0 x1 64), .int .i64 0]) (by simp [results, Try.results18, go_sem, q0, q1, q2]) rfl ?_
                exact ⟨rfl, below_set3 HB_5.out (by omega) _ _ _⟩
              · rw [if_neg hs] at h
                cases h
                have hne : (sizedV x0 x1 64 != 0) = true := by simpa using hs
                go_wp2
                have HE := isB_set3 H2_5.out (.int .i64 0) (.int .i64 0) (.int .i64 0)
                have q0 := blk_cell HE 0
                have q1 := blk_cell HE 1
                have q2 := blk_cell HE 2
                simp only [List.getElem?_toArray, List.getElem?_cons_zero, List.getElem?_cons_succ] at q0 q1 q2
                refine bodyPost_ret (v := .tuple #[.agg (row3' 0 0 0), .int .i64 (sizedV x0 x1 64)]) (by simp [results, Try.results18, go_sem, q0, q1, q2]) rfl ?_
                exact ⟨rfl, below_set3 HB_5.out (by omega) _ _ _⟩
        · have hf := Bool.eq_false_iff.mpr hm1
          rw [hf] at h ⊢
          simp only [Bool.false_eq_true, and_false, if_false] at h
          cases h
          have c0 := blk_cell H2_3.out 0
          have c1 := blk_cell H2_3.out 1
          have c2 := blk_cell H2_3.out 2
          simp only [List.getElem?_toArray, List.getElem?_cons_zero, List.getElem?_cons_succ] at c0 c1 c2
          have cf0 := blk_frozen H2_3.out 0
          have cf1 := blk_frozen H2_3.out 1
          have cf2 := blk_frozen H2_3.out 2
          go_wp2
          have HE := isB_set3 H2_3.out (.int .i64 0) (.int .i64 0) (.int .i64 0)
          have q0 := blk_cell HE 0
          have q1 := blk_cell HE 1
          have q2 := blk_cell HE 2
          simp only [List.getElem?_toArray, List.getElem?_cons_zero, List.getElem?_cons_succ] at q0 q1 q2
          refine bodyPost_ret (v := .tuple #[.agg (row3' 0 0 0), .int .i64 4]) (by simp [results, Try.results18, go_sem, q0, q1, q2]) rfl ?_
          exact ⟨rfl, below_set3 HB_3.out (by omega) _ _ _⟩
      · have hf := Bool.eq_false_iff.mpr hm0
        rw [hf] at h ⊢
        simp only [Bool.false_eq_true, false_and, if_false] at h
        cases h
        go_wp2
        have HE := isB_set3 H2_2.out (.int .i64 0) (.int .i64 0) (.int .i64 0)
        have q0 := blk_cell HE 0
        have q1 := blk_cell HE 1
        have q2 := blk_cell HE 2
        simp only [List.getElem?_toArray, List.getElem?_cons_zero, List.getElem?_cons_succ] at q0 q1 q2
        refine bodyPost_ret (v := .tuple #[.agg (row3' 0 0 0), .int .i64 4]) (by simp [results, Try.results18, go_sem, q0, q1, q2]) rfl ?_
        exact ⟨rfl, below_set3 HB_2.out (by omega) _ _ _⟩

end Go.Proofs.Ytklomikdihlcgaa
