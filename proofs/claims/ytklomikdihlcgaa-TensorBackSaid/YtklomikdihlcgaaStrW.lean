/- tensor.Stretch: the walk. -/
import Derived.Test.YtklomikdihlcgaaStrP
namespace Go.Proofs.Ytklomikdihlcgaa
open Go.RowKit PBase
open Go.Proofs.YtklomikdihlcgaaW.PrintWords Go.Proofs.YtklomikdihlcgaaW.PrintLast Go.Proofs.YtklomikdihlcgaaW.PrintMore
set_option linter.unusedVariables false
set_option linter.unusedSimpArgs false

theorem sized_form {rows cols wd : Int} (h : sizedV rows cols wd = 0) : rows ≤ 4096 ∧ cols ≤ 4096 ∧ rows * cols ≤ 4096 ∧ 1 ≤ rows ∧ 1 ≤ cols := by
  unfold sizedV at h
  split at h
  · omega
  · split at h
    · omega
    · split at h
      · omega
      · omega

set_option maxHeartbeats 1000000 in
set_option maxRecDepth 100000 in
theorem fits_calls (x y : Int) (w : World) : Calls Try.prog 57 #[.int .i64 x, .int .i64 y] w fun e w' => e = .returned (.bool (fitsV x y)) ∧ Below w.heap.size w w' := by
  have HB := Aside0.mk (Below.refl w.heap.size w)
  unfold fitsV
  go_enter Try.func57, Try.ntmps57
  by_cases h1 : x ≥ 1
  · rw [if_pos h1]
    by_cases h3 : x = y
    · rw [if_pos h3]
      go_wp2
      go_ret
      exact ⟨rfl, HB.out⟩
    · rw [if_neg h3]
      have h3' : (x == y) = false := by simpa using h3
      go_wp2
      go_ret
      exact ⟨by simp [h3'], HB.out⟩
  · rw [if_neg h1]
    go_wp2
    go_ret
    exact ⟨rfl, HB.out⟩

set_option maxHeartbeats 2000000 in
set_option maxRecDepth 100000 in
theorem stretch_bad (r c wd : Int) (A : Option Addr) (cA : Nat) (l : List Int) (rows cols : Int) (w : World) (hC : (Kd.int .i64).C w A l.length l) (hcA : l.length ≤ cA) (hl : l.length ≤ 1000000) (er : Int) (hE : stretchE r c wd l rows cols = er ∧ er ≠ 0) :
    Calls Try.prog 21 #[.agg #[.int .i64 r, .int .i64 c, .int .i64 wd, .slice A l.length cA], .int .i64 rows, .int .i64 cols] w fun e w' => e = .returned (.tuple #[.agg (row4 0 0 0 (.slice none 0 0)), .int .i64 er]) ∧ Below w.heap.size w w' := by
  go_enter Try.func21, Try.ntmps21
  have HH := Aside0.mk (And.intro hC (And.intro hcA (And.intro hl hE)))
  clear hC hcA hl hE
  go_wp2_with fail
  generalize hw1 : ((w.alloc (Obj.cells #[Value.int IntKind.i64 r, Value.int IntKind.i64 c, Value.int IntKind.i64 wd, Value.slice A l.length cA] 25)).alloc (Obj.cells #[Value.int IntKind.i64 0, Value.int IntKind.i64 0, Value.int IntKind.i64 0, Value.slice none 0 0] 25)) = w1
  have HB_1 : Aside0 (Below w.heap.size w w1) := ⟨by rw [← hw1]; exact below_alloc (below_alloc (Below.refl _ _) _) _⟩
  have H0_1 : Aside0 (IsB w1 w.heap.size (row4 r c wd (.slice A l.length cA)) 25) := ⟨by rw [← hw1]; exact blk_alloc (blk_new _ _) _⟩
  have H1_1 : Aside0 (IsB w1 (w.heap.size + 1) (row4 0 0 0 (.slice none 0 0)) 25) := ⟨by rw [← hw1]; exact new1 w _ _ 25 25⟩
  clear hw1
  refine (tensor_Check.calls (l.length + 3) r c wd A cA l (checkV r c wd l) w1 (Kd.C_below HH.out.1 HB_1.out) HH.out.2.1 (check_eq _ r c wd l (by have := HH.out.2.2.1; omega) (by omega))).mono ?_
  rintro e w2 ⟨rfl, hb⟩
  have H0_2 := Aside0.mk (blk_below H0_1.out hb)
  have H1_2 := Aside0.mk (blk_below H1_1.out hb)
  have HB_2 := Aside0.mk (below_step HB_1.out hb)
  clear hb H0_1 H1_1 HB_1
  have hE := HH.out.2.2.2.1
  have hne := HH.out.2.2.2.2
  unfold stretchE at hE
  by_cases hck : checkV r c wd l = 0
  · rw [if_pos hck] at hE
    rw [hck]
    have a0 := blk_cell H0_2.out 0
    have a1 := blk_cell H0_2.out 1
    have a2 := blk_cell H0_2.out 2
    have a3 := blk_cell H0_2.out 3
    simp only [List.getElem?_toArray, List.getElem?_cons_zero, List.getElem?_cons_succ] at a0 a1 a2 a3
    have b0 := blk_cell H1_2.out 0
    have b1 := blk_cell H1_2.out 1
    have b2 := blk_cell H1_2.out 2
    have b3 := blk_cell H1_2.out 3
    simp only [List.getElem?_toArray, List.getElem?_cons_zero, List.getElem?_cons_succ] at b0 b1 b2 b3
    have bf0 := blk_frozen H1_2.out 0
    have bf1 := blk_frozen H1_2.out 1
    have bf2 := blk_frozen H1_2.out 2
    have bf3 := blk_frozen H1_2.out 3
    go_wp2_with fail
    refine (fits_calls rows r w2).mono ?_
    rintro e w3 ⟨rfl, hb⟩
    have H0_3 := Aside0.mk (blk_below H0_2.out hb)
    have H1_3 := Aside0.mk (blk_below H1_2.out hb)
    have HB_3 := Aside0.mk (below_step HB_2.out hb)
    clear hb H0_2 H1_2 HB_2
    clear a0 a1 a2 a3 b0 b1 b2 b3 bf0 bf1 bf2 bf3
    have a0 := blk_cell H0_3.out 0
    have a1 := blk_cell H0_3.out 1
    have a2 := blk_cell H0_3.out 2
    have a3 := blk_cell H0_3.out 3
    simp only [List.getElem?_toArray, List.getElem?_cons_zero, List.getElem?_cons_succ] at a0 a1 a2 a3
    have b0 := blk_cell H1_3.out 0
    have b1 := blk_cell H1_3.out 1
    have b2 := blk_cell H1_3.out 2
    have b3 := blk_cell H1_3.out 3
    simp only [List.getElem?_toArray, List.getElem?_cons_zero, List.getElem?_cons_succ] at b0 b1 b2 b3
    have bf0 := blk_frozen H1_3.out 0
    have bf1 := blk_frozen H1_3.out 1
    have bf2 := blk_frozen H1_3.out 2
    have bf3 := blk_frozen H1_3.out 3
    by_cases f0 : fitsV rows r = true
    · rw [f0]
      go_wp2_with fail
      refine (fits_calls cols c w3).mono ?_
      rintro e w4 ⟨rfl, hb⟩
      have H0_4 := Aside0.mk (blk_below H0_3.out hb)
      have H1_4 := Aside0.mk (blk_below H1_3.out hb)
      have HB_4 := Aside0.mk (below_step HB_3.out hb)
      clear hb H0_3 H1_3 HB_3
      clear a0 a1 a2 a3 b0 b1 b2 b3 bf0 bf1 bf2 bf3
      have a0 := blk_cell H0_4.out 0
      have a1 := blk_cell H0_4.out 1
      have a2 := blk_cell H0_4.out 2
      have a3 := blk_cell H0_4.out 3
      simp only [List.getElem?_toArray, List.getElem?_cons_zero, List.getElem?_cons_succ] at a0 a1 a2 a3
      have b0 := blk_cell H1_4.out 0
      have b1 := blk_cell H1_4.out 1
      have b2 := blk_cell H1_4.out 2
      have b3 := blk_cell H1_4.out 3
      simp only [List.getElem?_toArray, List.getElem?_cons_zero, List.getElem?_cons_succ] at b0 b1 b2 b3
      have bf0 := blk_frozen H1_4.out 0
      have bf1 := blk_frozen H1_4.out 1
      have bf2 := blk_frozen H1_4.out 2
      have bf3 := blk_frozen H1_4.out 3
      by_cases f1 : fitsV cols c = true
      · rw [f1]
        rw [if_pos ⟨f0, f1⟩] at hE
        go_wp2_with fail
        refine (tensor_Sized.calls 8 rows cols wd (sizedV rows cols wd) w4 (Sized_eq 6 _ _ _)).mono ?_
        rintro e w5 ⟨rfl, hb⟩
        have H0_5 := Aside0.mk (blk_below H0_4.out hb)
        have H1_5 := Aside0.mk (blk_below H1_4.out hb)
        have HB_5 := Aside0.mk (below_step HB_4.out hb)
        clear hb H0_4 H1_4 HB_4
        clear a0 a1 a2 a3 b0 b1 b2 b3 bf0 bf1 bf2 bf3
        have b0 := blk_cell H1_5.out 0
        have b1 := blk_cell H1_5.out 1
        have b2 := blk_cell H1_5.out 2
        have b3 := blk_cell H1_5.out 3
        simp only [List.getElem?_toArray, List.getElem?_cons_zero, List.getElem?_cons_succ] at b0 b1 b2 b3
        have bf0 := blk_frozen H1_5.out 0
        have bf1 := blk_frozen H1_5.out 1
        have bf2 := blk_frozen H1_5.out 2
        have bf3 := blk_frozen H1_5.out 3
        rw [hE]
        have hne2 : (er != 0) = true := by simpa using hne
        go_wp2
        have HE := isB_set4 H1_5.out (.int .i64 0) (.int .i64 0) (.int .i64 0) (.slice none 0 0)
        have e0 := blk_cell HE 0
        have e1 := blk_cell HE 1
        have e2 := blk_cell HE 2
        have e3 := blk_cell HE 3
        simp only [List.getElem?_toArray, List.getElem?_cons_zero, List.getElem?_cons_succ] at e0 e1 e2 e3
        refine bodyPost_ret (v := .tuple #[.agg (row4 0 0 0 (.slice none 0 0)), .int .i64 er]) (by simp [results, Try.results21, go_sem, e0, e1, e2, e3]) rfl ?_
        exact ⟨by rfl, below_set4 HB_5.out (by omega) _ _ _ _⟩
      · have hf := Bool.eq_false_iff.mpr f1
        rw [hf]
        rw [if_neg (by simp [hf])] at hE
        subst hE
        go_wp2
        have HE := isB_set4 H1_4.out (.int .i64 0) (.int .i64 0) (.int .i64 0) (.slice none 0 0)
        have e0 := blk_cell HE 0
        have e1 := blk_cell HE 1
        have e2 := blk_cell HE 2
        have e3 := blk_cell HE 3
        simp only [List.getElem?_toArray, List.getElem?_cons_zero, List.getElem?_cons_succ] at e0 e1 e2 e3
        refine bodyPost_ret (v := .tuple #[.agg (row4 0 0 0 (.slice none 0 0)), .int .i64 4]) (by simp [results, Try.results21, go_sem, e0, e1, e2, e3]) rfl ?_
        exact ⟨by rfl, below_set4 HB_4.out (by omega) _ _ _ _⟩
    · have hf := Bool.eq_false_iff.mpr f0
      rw [hf]
      rw [if_neg (by simp [hf])] at hE
      subst hE
      go_wp2
      have HE := isB_set4 H1_3.out (.int .i64 0) (.int .i64 0) (.int .i64 0) (.slice none 0 0)
      have e0 := blk_cell HE 0
      have e1 := blk_cell HE 1
      have e2 := blk_cell HE 2
      have e3 := blk_cell HE 3
      simp only [List.getElem?_toArray, List.getElem?_cons_zero, List.getElem?_cons_succ] at e0 e1 e2 e3
      refine bodyPost_ret (v := .tuple #[.agg (row4 0 0 0 (.slice none 0 0)), .int .i64 4]) (by simp [results, Try.results21, go_sem, e0, e1, e2, e3]) rfl ?_
      exact ⟨by rfl, below_set4 HB_3.out (by omega) _ _ _ _⟩
  · rw [if_neg hck] at hE
    have b0 := blk_cell H1_2.out 0
    have b1 := blk_cell H1_2.out 1
    have b2 := blk_cell H1_2.out 2
    have b3 := blk_cell H1_2.out 3
    simp only [List.getElem?_toArray, List.getElem?_cons_zero, List.getElem?_cons_succ] at b0 b1 b2 b3
    have bf0 := blk_frozen H1_2.out 0
    have bf1 := blk_frozen H1_2.out 1
    have bf2 := blk_frozen H1_2.out 2
    have bf3 := blk_frozen H1_2.out 3
    rw [hE]
    have hne2 : (er != 0) = true := by simpa using hne
    go_wp2
    have HE := isB_set4 H1_2.out (.int .i64 0) (.int .i64 0) (.int .i64 0) (.slice none 0 0)
    have e0 := blk_cell HE 0
    have e1 := blk_cell HE 1
    have e2 := blk_cell HE 2
    have e3 := blk_cell HE 3
    simp only [List.getElem?_toArray, List.getElem?_cons_zero, List.getElem?_cons_succ] at e0 e1 e2 e3
    refine bodyPost_ret (v := .tuple #[.agg (row4 0 0 0 (.slice none 0 0)), .int .i64 er]) (by simp [results, Try.results21, go_sem, e0, e1, e2, e3]) rfl ?_
    exact ⟨by rfl, below_set4 HB_2.out (by omega) _ _ _ _⟩

def F21RT17 : Bool × List (List Nat × List Nat) := (true, [([], []), ([0], [0]), ([], []), ([2], [2]), ([], []), ([], []), ([3, 4, 5, 3], [3, 4, 5]), ([1, 6], [1, 6]), ([7], [7]), ([8, 6], [8])])
def F21RB17 : List Nat := [0, 1, 0, 4, 0, 0, 60, 127, 255, 511]
theorem F21Rtab17 : rtab .any (opsOf Try.f21 17) = F21RT17 := by kernel_rfl
theorem F21Rbits17 : waitsOk F21RT17.2 F21RB17 = true := by kernel_rfl
set_option maxHeartbeats 2000000 in
set_option maxRecDepth 100000 in
theorem stretch_good (k : Nat) (r c wd : Int) (A : Option Addr) (cA : Nat) (l : List Int) (rows cols : Nat) (w : World) (hC : (Kd.int .i64).C w A l.length l) (hcA : l.length ≤ cA) (hl : l.length ≤ 1000000) (hE : stretchE r c wd l rows cols = 0) :
    Calls Try.prog 21 #[.agg #[.int .i64 r, .int .i64 c, .int .i64 wd, .slice A l.length cA], .int .i64 rows, .int .i64 cols] w fun e w' => ∃ v, e = .returned (.tuple #[.agg #[.int .i64 rows, .int .i64 cols, .int .i64 wd, v], .int .i64 0]) ∧ Ints w w' v (stretchL r c l (cleanV wd) cols rows) ∧ Below w.heap.size w w' := by
  go_enter Try.func21, Try.ntmps21
  have HH := Aside0.mk (And.intro hC (And.intro hcA (And.intro hl hE)))
  clear hC hcA hl hE
  go_wp2_with fail
  generalize hw1 : ((w.alloc (Obj.cells #[Value.int IntKind.i64 r, Value.int IntKind.i64 c, Value.int IntKind.i64 wd, Value.slice A l.length cA] 25)).alloc (Obj.cells #[Value.int IntKind.i64 0, Value.int IntKind.i64 0, Value.int IntKind.i64 0, Value.slice none 0 0] 25)) = w1
  have HB_1 : Aside0 (Below w.heap.size w w1) := ⟨by rw [← hw1]; exact below_alloc (below_alloc (Below.refl _ _) _) _⟩
  have H0_1 : Aside0 (IsB w1 w.heap.size (row4 r c wd (.slice A l.length cA)) 25) := ⟨by rw [← hw1]; exact blk_alloc (blk_new _ _) _⟩
  have H1_1 : Aside0 (IsB w1 (w.heap.size + 1) (row4 0 0 0 (.slice none 0 0)) 25) := ⟨by rw [← hw1]; exact new1 w _ _ 25 25⟩
  clear hw1
  refine (tensor_Check.calls (l.length + 3) r c wd A cA l (checkV r c wd l) w1 (Kd.C_below HH.out.1 HB_1.out) HH.out.2.1 (check_eq _ r c wd l (by have := HH.out.2.2.1; omega) (by omega))).mono ?_
  rintro e w2 ⟨rfl, hb⟩
  have H0_2 := Aside0.mk (blk_below H0_1.out hb)
  have H1_2 := Aside0.mk (blk_below H1_1.out hb)
  have HB_2 := Aside0.mk (below_step HB_1.out hb)
  clear hb H0_1 H1_1 HB_1
  obtain ⟨hck, f0, f1, hs⟩ : checkV r c wd l = 0 ∧ fitsV rows r = true ∧ fitsV cols c = true ∧ sizedV rows cols wd = 0 := by
    have h := HH.out.2.2.2
    unfold stretchE at h
    by_cases h1 : checkV r c wd l = 0
    · rw [if_pos h1] at h
      by_cases h2 : fitsV rows r = true ∧ fitsV cols c = true
      · rw [if_pos h2] at h; exact ⟨h1, h2.1, h2.2, h⟩
      · rw [if_neg h2] at h; omega
    · rw [if_neg h1] at h; exact absurd h h1
  have HF := Aside0.mk (And.intro hck (And.intro f0 (And.intro f1 hs)))
  rw [hck]
  have a0 := blk_cell H0_2.out 0
  have a1 := blk_cell H0_2.out 1
  have a2 := blk_cell H0_2.out 2
  have a3 := blk_cell H0_2.out 3
  simp only [List.getElem?_toArray, List.getElem?_cons_zero, List.getElem?_cons_succ] at a0 a1 a2 a3
  have b0 := blk_cell H1_2.out 0
  have b1 := blk_cell H1_2.out 1
  have b2 := blk_cell H1_2.out 2
  have b3 := blk_cell H1_2.out 3
  simp only [List.getElem?_toArray, List.getElem?_cons_zero, List.getElem?_cons_succ] at b0 b1 b2 b3
  have bf0 := blk_frozen H1_2.out 0
  have bf1 := blk_frozen H1_2.out 1
  have bf2 := blk_frozen H1_2.out 2
  have bf3 := blk_frozen H1_2.out 3
  go_wp2_with fail
  refine (fits_calls rows r w2).mono ?_
  rintro e w3 ⟨rfl, hb⟩
  have H0_3 := Aside0.mk (blk_below H0_2.out hb)
  have H1_3 := Aside0.mk (blk_below H1_2.out hb)
  have HB_3 := Aside0.mk (below_step HB_2.out hb)
  clear hb H0_2 H1_2 HB_2
  clear a0 a1 a2 a3 b0 b1 b2 b3 bf0 bf1 bf2 bf3
  have a0 := blk_cell H0_3.out 0
  have a1 := blk_cell H0_3.out 1
  have a2 := blk_cell H0_3.out 2
  have a3 := blk_cell H0_3.out 3
  simp only [List.getElem?_toArray, List.getElem?_cons_zero, List.getElem?_cons_succ] at a0 a1 a2 a3
  rw [f0]
  go_wp2_with fail
  refine (fits_calls cols c w3).mono ?_
  rintro e w4 ⟨rfl, hb⟩
  have H0_4 := Aside0.mk (blk_below H0_3.out hb)
  have H1_4 := Aside0.mk (blk_below H1_3.out hb)
  have HB_4 := Aside0.mk (below_step HB_3.out hb)
  clear hb H0_3 H1_3 HB_3
  clear a0 a1 a2 a3
  have a0 := blk_cell H0_4.out 0
  have a1 := blk_cell H0_4.out 1
  have a2 := blk_cell H0_4.out 2
  have a3 := blk_cell H0_4.out 3
  simp only [List.getElem?_toArray, List.getElem?_cons_zero, List.getElem?_cons_succ] at a0 a1 a2 a3
  rw [f1]
  go_wp2_with fail
  refine (tensor_Sized.calls 8 rows cols wd (sizedV rows cols wd) w4 (Sized_eq 6 _ _ _)).mono ?_
  rintro e w5 ⟨rfl, hb⟩
  have H0_5 := Aside0.mk (blk_below H0_4.out hb)
  have H1_5 := Aside0.mk (blk_below H1_4.out hb)
  have HB_5 := Aside0.mk (below_step HB_4.out hb)
  clear hb H0_4 H1_4 HB_4
  clear a0 a1 a2 a3
  have a0 := blk_cell H0_5.out 0
  have a1 := blk_cell H0_5.out 1
  have a2 := blk_cell H0_5.out 2
  have a3 := blk_cell H0_5.out 3
  simp only [List.getElem?_toArray, List.getElem?_cons_zero, List.getElem?_cons_succ] at a0 a1 a2 a3
  rw [hs]
  clear hck f0 f1 hs
  go_wp2
  have H0_6 := Aside0.mk (blk_alloc H0_5.out (Obj.cells (row4 rows cols wd (.slice none 0 0)) 25))
  have H1_6 := Aside0.mk (blk_alloc H1_5.out (Obj.cells (row4 rows cols wd (.slice none 0 0)) 25))
  have H2_6 := Aside0.mk (blk_new w5 (Obj.cells (row4 rows cols wd (.slice none 0 0)) 25))
  have HB_6 := Aside0.mk (below_alloc HB_5.out (Obj.cells (row4 rows cols wd (.slice none 0 0)) 25))
  have HG := Aside0.mk (show w.heap.size + 1 < w5.heap.size from blk_lt H1_5.out)
  generalize w5.alloc (Obj.cells (row4 rows cols wd (.slice none 0 0)) 25) = w6 at H0_6 H1_6 H2_6 HB_6 ⊢
  generalize w5.heap.size = g at H2_6 HG ⊢
  clear a0 a1 a2 a3 H0_5 H1_5 HB_5
  go_loopg [50] rows (fun kq v50 w' => ∃ j : Nat, v50 = .int .i64 j ∧ Aside0 (j + kq = rows) ∧ Aside0 (IsB w' w.heap.size (row4 r c wd (.slice A l.length cA)) 25) ∧ Aside0 (IsB w' (w.heap.size + 1) (row4 0 0 0 (.slice none 0 0)) 25) ∧ (∃ v, Aside0 (IsB w' g (row4 rows cols wd v) 25) ∧ Aside0 (Ints w w' v (stretchL r c l (cleanV wd) cols j))) ∧ Aside0 (Below w.heap.size w w'))
  case atStart => exact ⟨0, rfl, ⟨by omega⟩, H0_6, H1_6, ⟨_, H2_6, ⟨Kd.R_nil _ _ _ _ _⟩⟩, HB_6⟩
  case round =>
    clear H0_6 H1_6 H2_6 HB_6
    obtain ⟨j, rfl, HJ, H0, H1, ⟨v, H2, HP⟩, HB⟩ := hrel
    by_cases hlt : j < rows
    · have d1 : decide (j < rows) = true := decide_eq_true (by omega)
      have HLT := Aside0.mk hlt
      clear hlt
      go_wp2
      have HP0 : Aside0 (Ints w wr v (stretchL r c l (cleanV wd) cols j ++ srowL r c l (cleanV wd) j 0)) := ⟨by simpa [srowL] using HP.out⟩
      clear HP d1
      obtain ⟨gk0, hgk0⟩ : ∃ x : Nat, x = gk := ⟨_, rfl⟩
      have HG0 := Aside0.mk hgk0
      clear hgk0
      go_loopg [54] cols (fun kq v54 w' => ∃ i : Nat, v54 = .int .i64 i ∧ Aside0 (i + kq = cols) ∧ Aside0 (IsB w' w.heap.size (row4 r c wd (.slice A l.length cA)) 25) ∧ Aside0 (IsB w' (w.heap.size + 1) (row4 0 0 0 (.slice none 0 0)) 25) ∧ (∃ v, Aside0 (IsB w' g (row4 rows cols wd v) 25) ∧ Aside0 (Ints w w' v (stretchL r c l (cleanV wd) cols j ++ srowL r c l (cleanV wd) j i))) ∧ Aside0 (Below w.heap.size w w'))
      case atStart => exact ⟨0, rfl, ⟨by omega⟩, H0, H1, ⟨_, H2, HP0⟩, HB⟩
      case round =>
        clear H0 H1 H2 HB HP0
        obtain ⟨i, rfl, HI, H0, H1, ⟨v, H2, HP⟩, HB⟩ := hrel
        by_cases hlt : i < cols
        · have d1 : decide (i < cols) = true := decide_eq_true (by omega)
          have HI2 : Aside0 (i < cols) := ⟨hlt⟩
          clear hlt
          obtain ⟨cw, c1, c2, c3, c4, c5, c6, c7⟩ := check_form HF.out.1
          have s1 := (fitsV_iff _ _).1 HF.out.2.1
          have s2 := (fitsV_iff _ _).1 HF.out.2.2.1
          have HSo := Aside0.mk (Source_eq (wd := wd) c1 c3 c2 c4 s1.2 s2.2 (i := (j : Int)) (j := (i : Int)) (by omega) (by have := HLT.out; omega) (by omega) (by have := HI2.out; omega))
          have hsl := src_lt c1 c3 c2 c4 s1.2 s2.2 (i := (j : Int)) (j := (i : Int)) (by omega) (by have := HLT.out; omega) (by omega) (by have := HI2.out; omega)
          have HSZ := Aside0.mk (sized_form HF.out.2.2.2)
          have HLN : Aside0 ((stretchL r c l (cleanV wd) cols j ++ srowL r c l (cleanV wd) j i).length ≤ 1000000) := ⟨by
            have hrows := HSZ.out
            have h1 := HLT.out
            have h2 := HI2.out
            have h3 : j * cols ≤ rows * cols := Nat.mul_le_mul_right _ (by omega)
            have h4 : ((rows * cols : Nat) : Int) = (rows : Int) * cols := by rw [Int.natCast_mul]
            rw [List.length_append, stretchL_length, srowL_length]
            omega⟩
          have HTK := Aside0.mk (srowL_succ r c l (cleanV wd) j i)
          generalize srcV r c (j : Int) (i : Int) = sx at HSo hsl HTK
          obtain ⟨ad, hA, hel⟩ := Kd.at_int (Kd.C_below HH.out.1 HB.out) sx hsl.1 (by omega)
          have HEL := Aside0.mk (Kd.at_int HH.out.1 sx hsl.1 (by omega))
          subst hA
          have sl0 := eq_true hsl.1
          have sl1 := eq_true (show sx < (l.length : Int) by omega)
          generalize hx : rd l sx = x at hel HTK
          clear c1 c2 c3 c4 c5 c6 c7 s1 s2 hsl
          have a0 := blk_cell H0.out 0
          have a1 := blk_cell H0.out 1
          have a2 := blk_cell H0.out 2
          have a3 := blk_cell H0.out 3
          simp only [List.getElem?_toArray, List.getElem?_cons_zero, List.getElem?_cons_succ] at a0 a1 a2 a3
          go_wp2
          refine start_ (n := 10) (S := fun w' => w'.cell? ⟨w.heap.size, 0, none⟩ = some (.int .i64 r) ∧ w'.cell? ⟨w.heap.size, 1, none⟩ = some (.int .i64 c) ∧ w'.cell? ⟨w.heap.size, 2, none⟩ = some (.int .i64 wd) ∧ w'.cell? ⟨w.heap.size, 3, none⟩ = some (.slice (some ad) l.length cA) ∧ w'.cell? (ad.add sx.toNat) = some (.int .i64 x)) (ds := []) #[false, false, false, false, false, false, false, false, false, false] (by kernel_rfl) rfl rfl ⟨a0, a1, a2, a3, hel⟩ (fun hHeld => ?_)
          refine with_tabW F21Rtab17 F21Rbits17 (fun HT_ HW_ => ?_)
          refine pure_ (i := 0) (N := some 57) (v := ?_) (a' := ?_) #[true, false, false, false, false, false, false, false, false, false] rfl rfl (any_of HT_.out (by kernel_rfl)) (fun _ _ _ h => h) (Or.inl ⟨by rfl, ?_⟩) ?_ ?_
          rotate_left
          · intro w'
            go_simp
            with_reducible rfl
          rotate_left
          · simp only [Act.put, List.setIfInBounds_toArray, List.set_cons_zero, List.set_cons_succ, i64_w, i32_w]
            rfl
          refine pure_ (i := 4) (N := some 61) (v := ?_) (a' := ?_) #[true, false, false, false, true, false, false, false, false, false] rfl rfl (any_of HT_.out (by kernel_rfl)) (fun _ _ _ h => h) (Or.inl ⟨by rfl, ?_⟩) ?_ ?_
          rotate_left
          · intro w'
            go_simp
            with_reducible rfl
          rotate_left
          · simp only [Act.put, List.setIfInBounds_toArray, List.set_cons_zero, List.set_cons_succ, i64_w, i32_w]
            rfl
          refine pure_ (i := 5) (N := some 62) (v := ?_) (a' := ?_) #[true, false, false, false, true, true, false, false, false, false] rfl rfl (any_of HT_.out (by kernel_rfl)) (fun _ _ _ h => h) (Or.inl ⟨by rfl, ?_⟩) ?_ ?_
          rotate_left
          · intro w'
            go_simp
            with_reducible rfl
          rotate_left
          · simp only [Act.put, List.setIfInBounds_toArray, List.set_cons_zero, List.set_cons_succ, i64_w, i32_w]
            rfl
          refine take_ (i := 1) (N := some 58) (v := ?_) (a' := ?_) #[true, true, false, false, true, true, false, false, false, false] rfl rfl (take_ofW HT_.out HW_.out (by kernel_rfl)) (fun _ _ _ h => h) (Or.inl ⟨by rfl, ?_⟩) hHeld ?_ ?_
          rotate_left
          · rintro w' ⟨s0, s1, s2, s3, s4⟩
            go_simp
            with_reducible rfl
          rotate_left
          · simp only [Act.put, List.setIfInBounds_toArray, List.set_cons_zero, List.set_cons_succ, i64_w, i32_w]
            rfl
          refine take_ (i := 2) (N := some 59) (v := ?_) (a' := ?_) #[true, true, true, false, true, true, false, false, false, false] rfl rfl (take_ofW HT_.out HW_.out (by kernel_rfl)) (fun _ _ _ h => h) (Or.inl ⟨by rfl, ?_⟩) hHeld ?_ ?_
          rotate_left
          · rintro w' ⟨s0, s1, s2, s3, s4⟩
            go_simp
            with_reducible rfl
          rotate_left
          · simp only [Act.put, List.setIfInBounds_toArray, List.set_cons_zero, List.set_cons_succ, i64_w, i32_w]
            rfl
          refine one_ (i := 3) (N := some 60) #[true, true, true, true, true, true, false, false, false, false] rfl rfl (one_of HT_.out (by kernel_rfl)) (by decide) (fun K hK => ?_)
          refine goes_ Try.func60 (by kernel_rfl) rfl #[.agg #[.int .i64 r, .int .i64 c, .int .i64 wd, .slice (some ad) l.length cA]] (by rfl) rfl rfl (by simp only [List.map_toArray, List.map_cons, List.map_nil]; rfl) ?_
          with_reducible refine (tensor_Shape.calls r c wd (some ad) cA l r c wd _ (Kd.C_below HH.out.1 (Below.drew HB.out)) HH.out.2.1 (by unfold tensor_Shape.f; rfl)).mono ?_
          rintro e w7 ⟨rfl, hb⟩
          refine ⟨_, rfl, ?_⟩
          have H0_7 := Aside0.mk (blk_below (blk_drew H0.out) hb)
          have H1_7 := Aside0.mk (blk_below (blk_drew H1.out) hb)
          have H2_7 := Aside0.mk (blk_below (blk_drew H2.out) hb)
          have HP_7 := Aside0.mk (Kd.R_below (Kd.R_drew HP.out) hb)
          have HB_7 := Aside0.mk (below_step (Below.drew HB.out) hb)
          have hel7 := (hb.cell (World.block_lt_of_cell? _ _ hel)).trans hel
          have b0 := blk_cell H0_7.out 0
          have b1 := blk_cell H0_7.out 1
          have b2 := blk_cell H0_7.out 2
          have b3 := blk_cell H0_7.out 3
          simp only [List.getElem?_toArray, List.getElem?_cons_zero, List.getElem?_cons_succ] at b0 b1 b2 b3
          refine hK.out _ _ ⟨b0, b1, b2, b3, hel7⟩ (fun hHeld => ?_)
          clear hK K
          refine norm_ (a' := ?_) ?_ ?_
          rotate_left
          · show Act.put _ (some 60) _ = _
            simp only [Act.put, List.setIfInBounds_toArray, List.set_cons_zero, List.set_cons_succ, i64_w, i32_w]
            rfl
          refine one_ (i := 6) (N := some 63) #[true, true, true, true, true, true, true, false, false, false] rfl rfl (one_of HT_.out (by kernel_rfl)) (by decide) (fun K hK => ?_)
          refine goes_ Try.func59 (by kernel_rfl) rfl #[.agg #[.int .i64 r, .int .i64 c, .int .i64 wd], .int .i64 (j : Int), .int .i64 (i : Int)] (by rfl) rfl rfl (by simp only [List.map_toArray, List.map_cons, List.map_nil]; rfl) ?_
          with_reducible refine (tensor_Source.calls r c wd (j : Int) (i : Int) sx w7 HSo.out).mono ?_
          rintro e w8 ⟨rfl, hb8⟩
          refine ⟨_, rfl, ?_⟩
          have H0_8 := Aside0.mk (blk_below H0_7.out hb8)
          have H1_8 := Aside0.mk (blk_below H1_7.out hb8)
          have H2_8 := Aside0.mk (blk_below H2_7.out hb8)
          have HP_8 := Aside0.mk (Kd.R_below HP_7.out hb8)
          have HB_8 := Aside0.mk (below_step HB_7.out hb8)
          have hel8 := (hb8.cell (World.block_lt_of_cell? _ _ hel7)).trans hel7
          have b0 := blk_cell H0_8.out 0
          have b1 := blk_cell H0_8.out 1
          have b2 := blk_cell H0_8.out 2
          have b3 := blk_cell H0_8.out 3
          simp only [List.getElem?_toArray, List.getElem?_cons_zero, List.getElem?_cons_succ] at b0 b1 b2 b3
          refine hK.out _ _ ⟨b0, b1, b2, b3, hel8⟩ (fun hHeld => ?_)
          clear hK K
          refine norm_ (a' := ?_) ?_ ?_
          rotate_left
          · show Act.put _ (some 63) _ = _
            simp only [Act.put, List.setIfInBounds_toArray, List.set_cons_zero, List.set_cons_succ, i64_w, i32_w]
            rfl
          refine pure_ (i := 7) (N := some 64) (v := ?_) (a' := ?_) #[true, true, true, true, true, true, true, true, false, false] rfl rfl (any_of HT_.out (by kernel_rfl)) (fun _ _ _ h => h) (Or.inl ⟨by rfl, ?_⟩) ?_ ?_
          rotate_left
          · intro w'
            go_simp
            with_reducible rfl
          rotate_left
          · simp only [Act.put, List.setIfInBounds_toArray, List.set_cons_zero, List.set_cons_succ, i64_w, i32_w]
            rfl
          refine take_ (i := 8) (N := some 65) (v := ?_) (a' := ?_) #[true, true, true, true, true, true, true, true, true, false] rfl rfl (take_ofW HT_.out HW_.out (by kernel_rfl)) (fun _ _ _ h => h) (Or.inl ⟨by rfl, ?_⟩) hHeld ?_ ?_
          rotate_left
          · rintro w' ⟨s0, s1, s2, s3, s4⟩
            go_simp
            with_reducible rfl
          rotate_left
          · simp only [Act.put, List.setIfInBounds_toArray, List.set_cons_zero, List.set_cons_succ, i64_w, i32_w]
            rfl
          refine one_ (i := 9) (N := some 66) #[true, true, true, true, true, true, true, true, true, true] rfl rfl (one_of HT_.out (by kernel_rfl)) (by decide) (fun K hK => ?_)
          refine goes_ Try.func58 (by kernel_rfl) rfl #[.pointer (some ⟨g, 0, none⟩), .int .i64 x] (by rfl) rfl rfl (by simp only [List.map_toArray, List.map_cons, List.map_nil]; rfl) ?_
          with_reducible refine (put_calls 1 g w w8 rows cols wd x (cleanV wd x) v _ H2_8.out (by have := HG.out; omega) HP_8.out HB_8.out HLN.out (clean_at 0 x (check_form HF.out.1).1)).mono ?_
          rintro e w9 ⟨u, rfl, v9, hI9, hP9, hB9, hK9⟩
          refine ⟨_, rfl, ?_⟩
          have H0_9 := Aside0.mk (keep_blk H0_8.out hK9 (by have := HG.out; omega) (Kd.R_ne HP_8.out H0_8.out (by decide)))
          have H1_9 := Aside0.mk (keep_blk H1_8.out hK9 (by have := HG.out; omega) (Kd.R_ne HP_8.out H1_8.out (by decide)))
          have H2_9 := Aside0.mk hI9
          have HP_9 := Aside0.mk hP9
          have HB_9 := Aside0.mk hB9
          obtain ⟨ad2, hA2, hel2⟩ := HEL.out
          have hel9 := (hB9.cell (World.block_lt_of_cell? _ _ hel2)).trans hel2
          injection hA2 with hA2
          subst hA2
          rw [hx] at hel9
          have b0 := blk_cell H0_9.out 0
          have b1 := blk_cell H0_9.out 1
          have b2 := blk_cell H0_9.out 2
          have b3 := blk_cell H0_9.out 3
          simp only [List.getElem?_toArray, List.getElem?_cons_zero, List.getElem?_cons_succ] at b0 b1 b2 b3
          refine hK.out _ _ ⟨b0, b1, b2, b3, hel9⟩ (fun hHeld => ?_)
          clear hK K
          refine norm_ (a' := ?_) ?_ ?_
          rotate_left
          · show Act.put _ (some 66) _ = _
            simp only [Act.put, List.setIfInBounds_toArray, List.set_cons_zero, List.set_cons_succ, i64_w, i32_w]
            rfl
          refine done_ (done_of HT_.out (by kernel_rfl)) ?_
          go_wp2
          go_roundg (gk - 1)
          case measure => have := HI.out; have := HI2.out; omega
          case rel => exact ⟨i + 1, next_i6 (by have := HI2.out; have := HSZ.out; omega), ⟨by have := HI.out; have := HI2.out; omega⟩, H0_9, H1_9, ⟨_, H2_9, ⟨by rw [HTK.out, ← List.append_assoc]; exact HP_9.out⟩⟩, HB_9⟩
        · have d1 : decide (i < cols) = false := decide_eq_false (by omega)
          have hi : i = cols := by have := HI.out; omega
          clear HI
          subst hi
          go_wp2
          go_roundg (gk0 - 1)
          case measure => have := HJ.out; have := HLT.out; have := HG0.out; omega
          case rel => exact ⟨j + 1, next_i6 (by have := HLT.out; have := sized_form HF.out.2.2.2; omega), ⟨by have := HJ.out; have := HLT.out; have := HG0.out; omega⟩, H0, H1, ⟨_, H2, ⟨by rw [stretchL_succ]; exact HP.out⟩⟩, HB⟩
    · have d1 : decide (j < rows) = false := decide_eq_false (by omega)
      have hj : j = rows := by have := HJ.out; omega
      clear HJ
      subst hj
      obtain ⟨A9, cp, hv⟩ := Kd.R_slice HP.out
      generalize (stretchL r c l (cleanV wd) cols j).length = ln at hv
      subst hv
      have m0 := blk_cell H2.out 0
      have m1 := blk_cell H2.out 1
      have m2 := blk_cell H2.out 2
      have m3 := blk_cell H2.out 3
      simp only [List.getElem?_toArray, List.getElem?_cons_zero, List.getElem?_cons_succ] at m0 m1 m2 m3
      have n0 := blk_cell H1.out 0
      have n1 := blk_cell H1.out 1
      have n2 := blk_cell H1.out 2
      have n3 := blk_cell H1.out 3
      simp only [List.getElem?_toArray, List.getElem?_cons_zero, List.getElem?_cons_succ] at n0 n1 n2 n3
      have nf0 := blk_frozen H1.out 0
      have nf1 := blk_frozen H1.out 1
      have nf2 := blk_frozen H1.out 2
      have nf3 := blk_frozen H1.out 3
      go_wp2
      have HE := isB_set4 H1.out (.int .i64 j) (.int .i64 cols) (.int .i64 wd) (.slice A9 ln cp)
      have e0 := blk_cell HE 0
      have e1 := blk_cell HE 1
      have e2 := blk_cell HE 2
      have e3 := blk_cell HE 3
      simp only [List.getElem?_toArray, List.getElem?_cons_zero, List.getElem?_cons_succ] at e0 e1 e2 e3
      refine bodyPost_ret (v := .tuple #[.agg #[.int .i64 j, .int .i64 cols, .int .i64 wd, .slice A9 ln cp], .int .i64 0]) (by simp [results, Try.results21, go_sem, e0, e1, e2, e3]) rfl ?_
      exact ⟨_, rfl, R_set4 HP.out H1.out (by decide) _ _ _ _, below_set4 HB.out (by omega) _ _ _ _⟩

end Go.Proofs.Ytklomikdihlcgaa
