/- tensor.Finite where the matrix is not in form; the plain laws of Stop and At. -/
import Derived.Test.YtklomikdihlcgaaFinW
import Derived.Test.YtklomikdihlcgaaInR
namespace Go.Proofs.Ytklomikdihlcgaa
open Go.RowKit PBase
open Go.Proofs.YtklomikdihlcgaaW.PrintWords Go.Proofs.YtklomikdihlcgaaW.PrintLast Go.Proofs.YtklomikdihlcgaaW.PrintMore
set_option linter.unusedVariables false
set_option linter.unusedSimpArgs false

set_option maxHeartbeats 1000000 in
set_option maxRecDepth 100000 in
theorem finite_bad (r c wd : Int) (A : Option Addr) (cA : Nat) (l : List Int) (w : World) (er : Int) (hC : (Kd.int .i64).C w A l.length l) (hcA : l.length ≤ cA) (hl : l.length ≤ 1000000) (hck : checkV r c wd l = er ∧ er ≠ 0) :
    Calls Try.prog 28 #[.agg #[.int .i64 r, .int .i64 c, .int .i64 wd, .slice A l.length cA]] w fun e w' => e = .returned (.tuple #[.int .i64 0, .int .i64 er]) ∧ Below w.heap.size w w' := by
  go_enter Try.func28, Try.ntmps28
  have HH := Aside0.mk (And.intro hC (And.intro hcA (And.intro hl hck)))
  clear hC hcA hl hck
  go_wp2_with fail
  generalize hw1 : (((w.alloc (Obj.cells #[Value.int IntKind.i64 r, Value.int IntKind.i64 c, Value.int IntKind.i64 wd, Value.slice A l.length cA] 25)).alloc (Obj.cells #[Value.int IntKind.i64 0] 3)).alloc (Obj.cells #[Value.int IntKind.i64 0] 26)) = w1
  have HB : Aside0 (Below w.heap.size w w1) := ⟨by rw [← hw1]; exact below_alloc (below_alloc (below_alloc (Below.refl _ _) _) _) _⟩
  have H1 : Aside0 (IsB w1 (w.heap.size + 1) #[.int .i64 0] 3) := ⟨by rw [← hw1]; exact blk_alloc (new1 w _ _ 25 3) _⟩
  have H2 : Aside0 (IsB w1 (w.heap.size + 1 + 1) #[.int .i64 0] 26) := ⟨by rw [← hw1]; have h := blk_new ((w.alloc (Obj.cells #[Value.int IntKind.i64 r, Value.int IntKind.i64 c, Value.int IntKind.i64 wd, Value.slice A l.length cA] 25)).alloc (Obj.cells #[Value.int IntKind.i64 0] 3)) (Obj.cells #[Value.int IntKind.i64 0] 26); simp only [World.size_alloc] at h; exact h⟩
  clear hw1
  refine (tensor_Check.calls (l.length + 3) r c wd A cA l er w1 (Kd.C_below HH.out.1 HB.out) HH.out.2.1 (by rw [check_eq _ r c wd l (by have := HH.out.2.2.1; omega) (by omega), HH.out.2.2.2.1])).mono ?_
  rintro e w2 ⟨rfl, hb⟩
  have HB2 := Aside0.mk (below_step HB.out hb)
  have H12 := Aside0.mk (blk_below H1.out hb)
  have H22 := Aside0.mk (blk_below H2.out hb)
  clear hb HB H1 H2
  have r0 := blk_cell H12.out 0
  have s0 := blk_cell H22.out 0
  simp only [List.getElem?_toArray, List.getElem?_cons_zero, List.getElem?_cons_succ] at r0 s0
  have rf0 := blk_frozen H12.out 0
  have sf0 := blk_frozen H22.out 0
  have hne2 : (er != 0) = true := by simpa using HH.out.2.2.2.2
  go_wp2
  have E1 := blk_far (blk_set H12.out 0 (.int .i64 0)) (p := ⟨w.heap.size + 1 + 1, 0, none⟩) (by simp) (.int .i64 er)
  have E2 := blk_set (blk_far H22.out (p := ⟨w.heap.size + 1, 0, none⟩) (by simp) (.int .i64 0)) 0 (.int .i64 er)
  have c5 := blk_cell E1 0
  have c6 := blk_cell E2 0
  simp only [List.setIfInBounds_toArray, List.set_cons_zero, List.getElem?_toArray, List.getElem?_cons_zero] at c5 c6
  refine bodyPost_ret (v := .tuple #[.int .i64 0, .int .i64 er]) (by simp [results, Try.results28, go_sem, c5, c6]) rfl ?_
  exact ⟨rfl, Below.setCell (Below.setCell HB2.out (p := ⟨w.heap.size + 1, 0, none⟩) (by simp) _) (p := ⟨w.heap.size + 1 + 1, 0, none⟩) (by simp; omega) _⟩

theorem kind_range (E F t : Int) : 0 ≤ kindV E F t ∧ kindV E F t ≤ 4 := by
  unfold kindV
  repeat' split
  all_goals omega
theorem class_range (x wd : Int) : 0 ≤ classV x wd ∧ classV x wd ≤ 4 := by
  unfold classV
  repeat' split
  all_goals first | exact kind_range _ _ _ | omega

theorem stop_l0 (r c wd : Int) (l : List Int) (hw : wd = 32 ∨ wd = 64) (hr : InR l) (hl : l.length ≤ 1000000) : ∀ (k i : Nat), i ≤ l.length → l.length + 1 < k + i → pupilref7_Stop.l0 k (i : Int) r c wd l = some (stopV wd i (l.drop i))
  | 0, i, h1, h3 => by omega
  | k + 1, i, h1, h3 => by
    rw [pupilref7_Stop.l0]
    by_cases h : i < l.length
    · have hx := hr l[i] (List.getElem_mem h)
      have hcr := class_range l[i] wd
      rw [if_pos (by omega), if_pos (by omega), rd_nat l i h, List.drop_eq_getElem_cons h, stopV]
      unfold pupilref1_Finite.f pupilref1_NaN.f
      rw [show k = (k - 1) + 1 by omega, rclass_eq _ _ _ hw hx.1 hx.2]
      simp only [Option.bind_some]
      by_cases h4 : classV l[i] wd = 4
      · rw [if_neg (by simp; omega), if_pos (by simp [h4]), if_pos h4]
      · by_cases h5 : classV l[i] wd = 3
        · rw [if_neg (by simp; omega), if_neg (by simp; omega), if_neg h4, if_pos h5]
        · rw [if_pos (by simp; omega), if_neg h4, if_neg h5, IntWalk.wrap64_in ((i : Int) + 1) (by omega)]
          have := stop_l0 r c wd l hw hr hl k (i + 1) (by omega) (by omega)
          rw [show ((i : Int) + 1) = ((i + 1 : Nat) : Int) by omega, show (k - 1) + 1 = k by omega]
          exact this
    · rw [if_neg (by omega), List.drop_eq_nil_of_le (by omega)]
      rfl

theorem stop_eq (k : Nat) (r c wd : Int) (l : List Int) (hw : wd = 32 ∨ wd = 64) (hr : InR l) (hl : l.length ≤ 1000000) (hk : l.length + 1 < k) : pupilref7_Stop.f k r c wd l = some (stopV wd 0 l) := by
  unfold pupilref7_Stop.f
  have := stop_l0 r c wd l hw hr hl k 0 (by omega) (by omega)
  rw [List.drop_zero] at this
  exact this

theorem at_bad (k : Nat) (r c wd : Int) (l : List Int) (i j : Int) (hl : l.length ≤ 1000000) (hk : l.length + 2 < k) (h : checkV r c wd l ≠ 0) : tensor_At.f k r c wd l i j = some (0, checkV r c wd l) := by
  unfold tensor_At.f
  rw [check_eq k r c wd l (by omega) hk, Option.bind_some, if_neg h]
theorem at_out (k : Nat) (r c wd : Int) (l : List Int) (i j : Int) (hl : l.length ≤ 1000000) (hk : l.length + 2 < k) (h : checkV r c wd l = 0) (ho : i < 0 ∨ i ≥ r ∨ j < 0 ∨ j ≥ c) : tensor_At.f k r c wd l i j = some (0, 5) := by
  unfold tensor_At.f
  rw [check_eq k r c wd l (by omega) hk, Option.bind_some, if_pos h]
  by_cases h1 : i < 0
  · rw [if_pos h1]
  rw [if_neg h1]
  by_cases h2 : i ≥ r
  · rw [if_pos h2]
  rw [if_neg h2]
  by_cases h3 : j < 0
  · rw [if_pos h3]
  rw [if_neg h3, if_pos (by omega)]
theorem place_in {r c i j : Int} {l : List Int} (hr : 1 ≤ r) (hc : 1 ≤ c) (hr2 : r ≤ 4096) (hc2 : c ≤ 4096) (hlen : (l.length : Int) = r * c) (h1 : 0 ≤ i) (h2 : i < r) (h3 : 0 ≤ j) (h4 : j < c) : wrap64 (i * c) = i * c ∧ wrap64 (i * c + j) = i * c + j ∧ 0 ≤ i * c + j ∧ i * c + j < l.length := by
  have a : i * c ≤ (r - 1) * c := Int.mul_le_mul_of_nonneg_right (by omega) (by omega)
  have b : (r - 1) * c = r * c - c := by rw [Int.sub_mul, Int.one_mul]
  have d : 0 ≤ i * c := Int.mul_nonneg h1 (by omega)
  have e : r * c ≤ 4096 * 4096 := Int.mul_le_mul hr2 hc2 (by omega) (by omega)
  exact ⟨IntWalk.wrap64_in _ (by omega), IntWalk.wrap64_in _ (by omega), by omega, by omega⟩
theorem at_good (k : Nat) (r c wd : Int) (l : List Int) (i j : Int) (hl : l.length ≤ 1000000) (hk : l.length + 2 < k) (h : checkV r c wd l = 0) (h1 : 0 ≤ i) (h2 : i < r) (h3 : 0 ≤ j) (h4 : j < c) : tensor_At.f k r c wd l i j = some (cleanV wd (rd l (i * c + j)), 0) := by
  obtain ⟨hw, c1, c2, c3, c4, c5, c6, c7⟩ := check_form h
  obtain ⟨p1, p2, p3, p4⟩ := place_in c1 c2 c3 c4 c6 h1 h2 h3 h4
  unfold tensor_At.f
  rw [check_eq k r c wd l (by omega) hk, Option.bind_some, if_pos h, if_neg (by omega), if_neg (by omega), if_neg (by omega), if_neg (by omega), p1, p2, if_pos p3, if_pos p4, show k = (k - 1) + 1 by omega, clean_at (k - 1) _ hw, Option.bind_some]

end Go.Proofs.Ytklomikdihlcgaa
