/- TensorBoth: the law comes to true. -/
import Derived.Test.YtklomikdihlcgaaBothR
namespace Go.Proofs.Ytklomikdihlcgaa
open Go.RowKit PBase
open Go.Proofs.YtklomikdihlcgaaW.PrintWords Go.Proofs.YtklomikdihlcgaaW.PrintLast Go.Proofs.YtklomikdihlcgaaW.PrintMore
set_option linter.unusedVariables false
set_option linter.unusedSimpArgs false

set_option maxHeartbeats 1000000 in
set_option maxRecDepth 100000 in
theorem both_calls (x0 x1 x2 y0 y1 y2 : Int) (w : World) : Calls Try.prog 4 #[.agg (row3' x0 x1 x2), .agg (row3' y0 y1 y2)] w fun e w' => e = .returned (.bool true) ∧ Below w.heap.size w w' := by
  obtain ⟨r1, r2, r3, r4, hV⟩ : ∃ r1 r2 r3 r4, bothV x0 x1 x2 y0 y1 y2 = (r1, r2, r3, r4) := ⟨_, _, _, _, rfl⟩
  have HV := Aside0.mk hV
  have HW := Aside0.mk ((refBoth_eq 0 x0 x1 x2 y0 y1 y2).trans (congrArg some hV))
  clear hV
  go_enter Try.func4, Try.ntmps4
  go_wp2_with fail
  generalize hw1 : ((w.alloc (Obj.cells (row3' x0 x1 x2) 34)).alloc (Obj.cells (row3' y0 y1 y2) 34)) = w1
  have HB_1 : Aside0 (Below w.heap.size w w1) := ⟨by rw [← hw1]; exact below_alloc (below_alloc (Below.refl _ _) _) _⟩
  have H0_1 : Aside0 (IsB w1 w.heap.size (row3' x0 x1 x2) 34) := ⟨by rw [← hw1]; exact blk_alloc (blk_new _ _) _⟩
  have H1_1 : Aside0 (IsB w1 (w.heap.size + 1) (row3' y0 y1 y2) 34) := ⟨by rw [← hw1]; exact new1 w _ _ 34 34⟩
  clear hw1
  refine (alive_calls w1).mono ?_
  rintro e w2 ⟨rfl, hb⟩
  have H0_2 := Aside0.mk (blk_below H0_1.out hb)
  have H1_2 := Aside0.mk (blk_below H1_1.out hb)
  have HB_2 := Aside0.mk (below_step HB_1.out hb)
  clear hb H0_1 H1_1 HB_1
  have a0 := blk_cell H0_2.out 0
  have a1 := blk_cell H0_2.out 1
  have a2 := blk_cell H0_2.out 2
  simp only [List.getElem?_toArray, List.getElem?_cons_zero, List.getElem?_cons_succ] at a0 a1 a2
  have b0 := blk_cell H1_2.out 0
  have b1 := blk_cell H1_2.out 1
  have b2 := blk_cell H1_2.out 2
  simp only [List.getElem?_toArray, List.getElem?_cons_zero, List.getElem?_cons_succ] at b0 b1 b2
  go_wp2_with fail
  refine (tensorBoth_calls x0 x1 x2 y0 y1 y2 r1 r2 r3 r4 w2 HV.out).mono ?_
  rintro e w3 ⟨rfl, hb⟩
  have H0_3 := Aside0.mk (blk_alloc (blk_below H0_2.out hb) (Obj.cells (row3' r1 r2 r3) 34))
  have H1_3 := Aside0.mk (blk_alloc (blk_below H1_2.out hb) (Obj.cells (row3' r1 r2 r3) 34))
  have HB_3 := Aside0.mk (below_alloc (below_step HB_2.out hb) (Obj.cells (row3' r1 r2 r3) 34))
  have H2_3 := Aside0.mk (blk_new w3 (Obj.cells (row3' r1 r2 r3) 34))
  clear hb H0_2 H1_2 HB_2 a0 a1 a2 b0 b1 b2
  have a0 := blk_cell H0_3.out 0
  have a1 := blk_cell H0_3.out 1
  have a2 := blk_cell H0_3.out 2
  simp only [List.getElem?_toArray, List.getElem?_cons_zero, List.getElem?_cons_succ] at a0 a1 a2
  have b0 := blk_cell H1_3.out 0
  have b1 := blk_cell H1_3.out 1
  have b2 := blk_cell H1_3.out 2
  simp only [List.getElem?_toArray, List.getElem?_cons_zero, List.getElem?_cons_succ] at b0 b1 b2
  go_wp2_with fail
  generalize w3.alloc (Obj.cells (row3' r1 r2 r3) 34) = w4 at H0_3 H1_3 HB_3 H2_3 ⊢
  generalize w3.heap.size = g at H2_3 ⊢
  clear a0 a1 a2 b0 b1 b2
  refine (pupilref7_Both.calls 3 x0 x1 x2 y0 y1 y2 r1 r2 r3 r4 w4 HW.out).mono ?_
  rintro e w5 ⟨rfl, hb⟩
  have HB_5 := Aside0.mk (below_alloc (below_step HB_3.out hb) (Obj.cells (row3' r1 r2 r3) 34))
  have H2_5 := Aside0.mk (blk_alloc (blk_below H2_3.out hb) (Obj.cells (row3' r1 r2 r3) 34))
  have H3_5 := Aside0.mk (blk_new w5 (Obj.cells (row3' r1 r2 r3) 34))
  clear hb H0_3 H1_3 HB_3 H2_3
  have a0 := blk_cell H2_5.out 0
  have a1 := blk_cell H2_5.out 1
  have a2 := blk_cell H2_5.out 2
  simp only [List.getElem?_toArray, List.getElem?_cons_zero, List.getElem?_cons_succ] at a0 a1 a2
  have b0 := blk_cell H3_5.out 0
  have b1 := blk_cell H3_5.out 1
  have b2 := blk_cell H3_5.out 2
  simp only [List.getElem?_toArray, List.getElem?_cons_zero, List.getElem?_cons_succ] at b0 b1 b2
  go_wp2_with fail
  generalize w5.alloc (Obj.cells (row3' r1 r2 r3) 34) = w6 at HB_5 ⊢
  refine (pupillaw7_num.calls r4 r4 w6 rfl).mono ?_
  rintro e w7 ⟨rfl, hb⟩
  have HB_7 := Aside0.mk (below_step HB_5.out hb.below)
  go_wp2
  go_ret
  exact ⟨rfl, HB_7.out⟩

end Go.Proofs.Ytklomikdihlcgaa
