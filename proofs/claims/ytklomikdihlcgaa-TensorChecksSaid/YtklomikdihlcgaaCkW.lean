/- TensorChecks: the law comes to true. -/
import Derived.Test.YtklomikdihlcgaaFinB
namespace Go.Proofs.Ytklomikdihlcgaa
open Go.RowKit PBase
open Go.Proofs.YtklomikdihlcgaaW.PrintWords Go.Proofs.YtklomikdihlcgaaW.PrintLast Go.Proofs.YtklomikdihlcgaaW.PrintMore
set_option linter.unusedVariables false
set_option linter.unusedSimpArgs false

theorem C_front {w : World} {A : Option Addr} {l : List Int} {x : Int} (h : (Kd.int .i64).C w A (l.length + 1) (l ++ [x])) : (Kd.int .i64).C w A l.length l := by
  obtain ⟨h1, h2, h3⟩ := h
  refine ⟨rfl, by omega, fun hp => ?_⟩
  obtain ⟨ad, hA, hc⟩ := h3 (by omega)
  exact ⟨ad, hA, fun j p hj => hc j p (by rw [List.getElem?_append_left (by exact (List.getElem?_eq_some_iff.1 hj).1)]; exact hj)⟩

set_option maxHeartbeats 2000000 in
set_option maxRecDepth 100000 in
theorem chk_long (r c wd : Int) (A : Option Addr) (cA : Nat) (l : List Int) (row col : Int) (w : World) (hC : (Kd.int .i64).C w A l.length l) (hcA : l.length ≤ cA) (hr : InR l) (hl : l.length > 5000) :
    Calls Try.prog 6 #[.agg #[.int .i64 r, .int .i64 c, .int .i64 wd, .slice A l.length cA], .int .i64 row, .int .i64 col] w fun e w' => e = .returned (.bool true) ∧ Below w.heap.size w w' := by
  have d1 : decide ((5000 : Int) < (l.length : Int)) = true := decide_eq_true (by omega)
  have HH := Aside0.mk (And.intro hC (And.intro hcA hr))
  clear hC hcA hr
  go_enter Try.func6, Try.ntmps6
  go_wp2_with fail
  generalize hw1 : w.alloc (Obj.cells #[Value.int IntKind.i64 r, Value.int IntKind.i64 c, Value.int IntKind.i64 wd, Value.slice A l.length cA] 25) = w1
  have HB_1 : Aside0 (Below w.heap.size w w1) := ⟨by rw [← hw1]; exact below_alloc (Below.refl _ _) _⟩
  have H0_1 : Aside0 (IsB w1 w.heap.size (row4 r c wd (.slice A l.length cA)) 25) := ⟨by rw [← hw1]; exact blk_new _ _⟩
  clear hw1
  refine (alive_calls w1).mono ?_
  rintro e w2 ⟨rfl, hb⟩
  have H0_2 := Aside0.mk (blk_below H0_1.out hb)
  have HB_2 := Aside0.mk (below_step HB_1.out hb)
  clear hb H0_1 HB_1
  have a0 := blk_cell H0_2.out 0
  have a1 := blk_cell H0_2.out 1
  have a2 := blk_cell H0_2.out 2
  have a3 := blk_cell H0_2.out 3
  simp only [List.getElem?_toArray, List.getElem?_cons_zero, List.getElem?_cons_succ] at a0 a1 a2 a3
  go_wp2
  go_ret
  exact ⟨rfl, HB_2.out⟩

theorem row_cap {w W : World} {A : Option Addr} {n c : Nat} {l : List Int} (h : Ints w W (.slice A n c) l) : c ≤ 9223372036854775807 := by
  obtain ⟨_, inner, hown, _⟩ := h
  rcases hown.2 with ⟨hv, _⟩ | ⟨g, cap, cur, hv, _, _, _, hm, _⟩
  · injection hv with _ _ e
    omega
  · injection hv with _ _ e
    simp only [maxLen] at hm
    omega

theorem finite_calls (r c wd : Int) (A : Option Addr) (cA : Nat) (l : List Int) (w : World) (hC : (Kd.int .i64).C w A l.length l) (hcA : l.length ≤ cA) (hcm : cA ≤ 9223372036854775807) (hl : l.length ≤ 1000000) (hck : checkV r c wd l = 0) :
    Calls Try.prog 28 #[.agg #[.int .i64 r, .int .i64 c, .int .i64 wd, .slice A l.length cA]] w fun e w' => e = .returned (.tuple #[.int .i64 (stopV wd 0 l).1, .int .i64 (stopV wd 0 l).2]) ∧ Below w.heap.size w w' := by
  obtain ⟨hw, c1, c2, c3, c4, c5, c6, c7⟩ := check_form hck
  obtain ⟨R, rfl⟩ : ∃ R : Nat, r = R := ⟨r.toNat, by omega⟩
  obtain ⟨C, rfl⟩ : ∃ C : Nat, c = C := ⟨c.toNat, by omega⟩
  have hm : 1 * 1 ≤ (R : Int) * C := Int.mul_le_mul c1 c2 (by omega) (by omega)
  obtain ⟨ad, rfl, _⟩ := hC.2.2 (by omega)
  exact finite_good R C wd ad cA l w hC hcA hcm hl hck

set_option maxHeartbeats 2000000 in
set_option maxRecDepth 100000 in
theorem chk_bad (r c wd : Int) (A : Option Addr) (cA : Nat) (l : List Int) (row col : Int) (w : World) (hC : (Kd.int .i64).C w A l.length l) (hcA : l.length ≤ cA) (hr : InR l) (hl : l.length ≤ 5000) (er : Int) (hE : checkV r c wd l = er ∧ er ≠ 0) :
    Calls Try.prog 6 #[.agg #[.int .i64 r, .int .i64 c, .int .i64 wd, .slice A l.length cA], .int .i64 row, .int .i64 col] w fun e w' => e = .returned (.bool true) ∧ Below w.heap.size w w' := by
  have HE := Aside0.mk hE
  clear hE
  have hne2 : (er != 0) = true := by simpa using HE.out.2
  have HL := Aside0.mk hl
  have d1 : decide ((5000 : Int) < (l.length : Int)) = false := decide_eq_false (by omega)
  clear hl
  have HH := Aside0.mk (And.intro hC (And.intro hcA hr))
  clear hC hcA hr
  go_enter Try.func6, Try.ntmps6
  go_wp2_with fail
  generalize hw1 : w.alloc (Obj.cells #[Value.int IntKind.i64 r, Value.int IntKind.i64 c, Value.int IntKind.i64 wd, Value.slice A l.length cA] 25) = w1
  have HB_1 : Aside0 (Below w.heap.size w w1) := ⟨by rw [← hw1]; exact below_alloc (Below.refl _ _) _⟩
  have H0_1 : Aside0 (IsB w1 w.heap.size (row4 r c wd (.slice A l.length cA)) 25) := ⟨by rw [← hw1]; exact blk_new _ _⟩
  clear hw1
  refine (alive_calls w1).mono ?_
  rintro e w2 ⟨rfl, hb⟩
  have H0_2 := Aside0.mk (blk_below H0_1.out hb)
  have HB_2 := Aside0.mk (below_step HB_1.out hb)
  clear hb H0_1 HB_1
  have a0 := blk_cell H0_2.out 0
  have a1 := blk_cell H0_2.out 1
  have a2 := blk_cell H0_2.out 2
  have a3 := blk_cell H0_2.out 3
  simp only [List.getElem?_toArray, List.getElem?_cons_zero, List.getElem?_cons_succ] at a0 a1 a2 a3
  go_wp2_with fail
  refine (lent_calls r c wd A cA l w2 (Kd.C_below HH.out.1 HB_2.out) HH.out.2.1 (by have := HL.out; omega)).mono ?_
  rintro e w3 ⟨A9, c9, rfl, hc9, hR9, hb⟩
  have H0_4 := Aside0.mk (blk_alloc (blk_below H0_2.out hb) (Obj.cells (row4 r c wd (.slice A9 l.length c9)) 25))
  have H1_4 := Aside0.mk (blk_new w3 (Obj.cells (row4 r c wd (.slice A9 l.length c9)) 25))
  have HB_4 := Aside0.mk (below_alloc (below_step HB_2.out hb) (Obj.cells (row4 r c wd (.slice A9 l.length c9)) 25))
  have hCf : (Kd.int .i64).C w3 A9 (l.length + 1) (l ++ [-71]) ∧ c9 ≤ 9223372036854775807 := by
    obtain ⟨A8, c8, hv, _, hC⟩ := Kd.R_reads hR9
    injection hv with e1 e2 e3
    subst e1
    have hll : (l ++ [(-71 : Int)]).length = l.length + 1 := by simp
    rw [hll] at hC
    exact ⟨hC, row_cap hR9⟩
  have HCF := Aside0.mk (And.intro hc9 (And.intro (Kd.C_alloc hCf.1 (Obj.cells (row4 r c wd (.slice A9 l.length c9)) 25)) hCf.2))
  clear hb hR9 hc9 hCf H0_2 HB_2
  clear a0 a1 a2 a3
  go_wp2_with fail
  generalize w3.alloc (Obj.cells (row4 r c wd (.slice A9 l.length c9)) 25) = w4 at H0_4 H1_4 HB_4 HCF ⊢
  generalize w3.heap.size = g1 at H1_4 ⊢
  have HCM := Aside0.mk (Kd.C_below HH.out.1 HB_4.out)
  have HS_4 := Aside0.mk (Below.refl w4.heap.size w4)
  refine (tensor_Check.calls (l.length + 3) r c wd A9 c9 l er w4 (Kd.C_below (C_front HCF.out.2.1) HS_4.out) (by have := HCF.out.1; omega) (by rw [check_eq _ r c wd l (by have := HL.out; omega) (by omega), HE.out.1])).mono ?_
  rintro e w5 ⟨rfl, hb⟩
  have H0_5 := Aside0.mk (blk_below H0_4.out hb)
  have H1_5 := Aside0.mk (blk_below H1_4.out hb)
  have HS_5 := Aside0.mk (below_step HS_4.out hb)
  clear hb H0_4 H1_4 HS_4
  have b0 := blk_cell H1_5.out 0
  have b1 := blk_cell H1_5.out 1
  have b2 := blk_cell H1_5.out 2
  have b3 := blk_cell H1_5.out 3
  simp only [List.getElem?_toArray, List.getElem?_cons_zero, List.getElem?_cons_succ] at b0 b1 b2 b3
  go_wp2_with fail
  refine (finite_bad r c wd A9 c9 l w5 er (Kd.C_below (C_front HCF.out.2.1) HS_5.out) (by have := HCF.out.1; omega) (by have := HL.out; omega) HE.out).mono ?_
  rintro e w6 ⟨rfl, hb⟩
  have H0_6 := Aside0.mk (blk_below H0_5.out hb)
  have H1_6 := Aside0.mk (blk_below H1_5.out hb)
  have HS_6 := Aside0.mk (below_step HS_5.out hb)
  clear hb H0_5 H1_5 HS_5
  clear b0 b1 b2 b3
  have b0 := blk_cell H1_6.out 0
  have b1 := blk_cell H1_6.out 1
  have b2 := blk_cell H1_6.out 2
  have b3 := blk_cell H1_6.out 3
  simp only [List.getElem?_toArray, List.getElem?_cons_zero, List.getElem?_cons_succ] at b0 b1 b2 b3
  go_wp2_with fail
  refine (tensor_At.calls (l.length + 3) r c wd A9 c9 l row col 0 er w6 (Kd.C_below (C_front HCF.out.2.1) HS_6.out) (by have := HCF.out.1; omega) (by rw [at_bad _ r c wd l row col (by have := HL.out; omega) (by omega) (by rw [HE.out.1]; exact HE.out.2), HE.out.1])).mono ?_
  rintro e w7 ⟨rfl, hb⟩
  have H0_7 := Aside0.mk (blk_below H0_6.out hb)
  have H1_7 := Aside0.mk (blk_below H1_6.out hb)
  have HS_7 := Aside0.mk (below_step HS_6.out hb)
  clear hb H0_6 H1_6 HS_6
  clear b0 b1 b2 b3
  have b0 := blk_cell H1_7.out 0
  have b1 := blk_cell H1_7.out 1
  have b2 := blk_cell H1_7.out 2
  have b3 := blk_cell H1_7.out 3
  simp only [List.getElem?_toArray, List.getElem?_cons_zero, List.getElem?_cons_succ] at b0 b1 b2 b3
  have a0 := blk_cell H0_7.out 0
  have a1 := blk_cell H0_7.out 1
  have a2 := blk_cell H0_7.out 2
  have a3 := blk_cell H0_7.out 3
  simp only [List.getElem?_toArray, List.getElem?_cons_zero, List.getElem?_cons_succ] at a0 a1 a2 a3
  go_wp2_with fail
  refine (stays_calls r c wd A A9 cA c9 l w7 (Kd.C_below HCM.out HS_7.out) HH.out.2.1 (by have := HL.out; omega) (Kd.C_below HCF.out.2.1 HS_7.out) HCF.out.1).mono ?_
  rintro e w8 ⟨rfl, hb⟩
  have H0_8 := Aside0.mk (blk_below H0_7.out hb)
  have H1_8 := Aside0.mk (blk_below H1_7.out hb)
  have HS_8 := Aside0.mk (below_step HS_7.out hb)
  clear hb H0_7 H1_7 HS_7
  clear b0 b1 b2 b3
  clear a0 a1 a2 a3
  have a0 := blk_cell H0_8.out 0
  have a1 := blk_cell H0_8.out 1
  have a2 := blk_cell H0_8.out 2
  have a3 := blk_cell H0_8.out 3
  simp only [List.getElem?_toArray, List.getElem?_cons_zero, List.getElem?_cons_succ] at a0 a1 a2 a3
  go_wp2_with fail
  refine (pupilref7_Check.calls (2 * (l.length + 1)) r c wd A cA l er w8 (Kd.C_below HCM.out HS_8.out) HH.out.2.1 (by rw [refCheck_eq _ r c wd l (by have := HL.out; omega) (by omega), HE.out.1])).mono ?_
  rintro e w9 ⟨rfl, hb⟩
  have H0_9 := Aside0.mk (blk_below H0_8.out hb)
  have H1_9 := Aside0.mk (blk_below H1_8.out hb)
  have HS_9 := Aside0.mk (below_step HS_8.out hb)
  clear hb H0_8 H1_8 HS_8
  clear a0 a1 a2 a3
  go_wp2_with fail
  refine (pupillaw7_num.calls er er w9 rfl).mono ?_
  rintro e w10 ⟨rfl, hb⟩
  replace hb := hb.below
  have H0_10 := Aside0.mk (blk_below H0_9.out hb)
  have H1_10 := Aside0.mk (blk_below H1_9.out hb)
  have HS_10 := Aside0.mk (below_step HS_9.out hb)
  clear hb H0_9 H1_9 HS_9
  go_wp2_with fail
  refine (pupillaw7_num.calls er er w10 rfl).mono ?_
  rintro e w11 ⟨rfl, hb⟩
  replace hb := hb.below
  have H0_11 := Aside0.mk (blk_below H0_10.out hb)
  have H1_11 := Aside0.mk (blk_below H1_10.out hb)
  have HS_11 := Aside0.mk (below_step HS_10.out hb)
  clear hb H0_10 H1_10 HS_10
  go_wp2_with fail
  refine (pupillaw7_num.calls er er w11 rfl).mono ?_
  rintro e w12 ⟨rfl, hb⟩
  replace hb := hb.below
  have H0_12 := Aside0.mk (blk_below H0_11.out hb)
  have H1_12 := Aside0.mk (blk_below H1_11.out hb)
  have HS_12 := Aside0.mk (below_step HS_11.out hb)
  clear hb H0_11 H1_11 HS_11
  go_wp2
  go_ret
  exact ⟨rfl, below_step HB_4.out HS_12.out⟩

set_option maxHeartbeats 2000000 in
set_option maxRecDepth 100000 in
theorem chk_out (r c wd : Int) (A : Option Addr) (cA : Nat) (l : List Int) (row col : Int) (w : World) (hC : (Kd.int .i64).C w A l.length l) (hcA : l.length ≤ cA) (hr : InR l) (hl : l.length ≤ 5000) (hE : checkV r c wd l = 0) (hO : row < 0 ∨ row ≥ r ∨ col < 0 ∨ col ≥ c) :
    Calls Try.prog 6 #[.agg #[.int .i64 r, .int .i64 c, .int .i64 wd, .slice A l.length cA], .int .i64 row, .int .i64 col] w fun e w' => e = .returned (.bool true) ∧ Below w.heap.size w w' := by
  have HE := Aside0.mk hE
  have HO := Aside0.mk hO
  clear hE hO
  have HL := Aside0.mk hl
  have d1 : decide ((5000 : Int) < (l.length : Int)) = false := decide_eq_false (by omega)
  clear hl
  have HH := Aside0.mk (And.intro hC (And.intro hcA hr))
  clear hC hcA hr
  go_enter Try.func6, Try.ntmps6
  go_wp2_with fail
  generalize hw1 : w.alloc (Obj.cells #[Value.int IntKind.i64 r, Value.int IntKind.i64 c, Value.int IntKind.i64 wd, Value.slice A l.length cA] 25) = w1
  have HB_1 : Aside0 (Below w.heap.size w w1) := ⟨by rw [← hw1]; exact below_alloc (Below.refl _ _) _⟩
  have H0_1 : Aside0 (IsB w1 w.heap.size (row4 r c wd (.slice A l.length cA)) 25) := ⟨by rw [← hw1]; exact blk_new _ _⟩
  clear hw1
  refine (alive_calls w1).mono ?_
  rintro e w2 ⟨rfl, hb⟩
  have H0_2 := Aside0.mk (blk_below H0_1.out hb)
  have HB_2 := Aside0.mk (below_step HB_1.out hb)
  clear hb H0_1 HB_1
  have a0 := blk_cell H0_2.out 0
  have a1 := blk_cell H0_2.out 1
  have a2 := blk_cell H0_2.out 2
  have a3 := blk_cell H0_2.out 3
  simp only [List.getElem?_toArray, List.getElem?_cons_zero, List.getElem?_cons_succ] at a0 a1 a2 a3
  go_wp2_with fail
  refine (lent_calls r c wd A cA l w2 (Kd.C_below HH.out.1 HB_2.out) HH.out.2.1 (by have := HL.out; omega)).mono ?_
  rintro e w3 ⟨A9, c9, rfl, hc9, hR9, hb⟩
  have H0_4 := Aside0.mk (blk_alloc (blk_below H0_2.out hb) (Obj.cells (row4 r c wd (.slice A9 l.length c9)) 25))
  have H1_4 := Aside0.mk (blk_new w3 (Obj.cells (row4 r c wd (.slice A9 l.length c9)) 25))
  have HB_4 := Aside0.mk (below_alloc (below_step HB_2.out hb) (Obj.cells (row4 r c wd (.slice A9 l.length c9)) 25))
  have hCf : (Kd.int .i64).C w3 A9 (l.length + 1) (l ++ [-71]) ∧ c9 ≤ 9223372036854775807 := by
    obtain ⟨A8, c8, hv, _, hC⟩ := Kd.R_reads hR9
    injection hv with e1 e2 e3
    subst e1
    have hll : (l ++ [(-71 : Int)]).length = l.length + 1 := by simp
    rw [hll] at hC
    exact ⟨hC, row_cap hR9⟩
  have HCF := Aside0.mk (And.intro hc9 (And.intro (Kd.C_alloc hCf.1 (Obj.cells (row4 r c wd (.slice A9 l.length c9)) 25)) hCf.2))
  clear hb hR9 hc9 hCf H0_2 HB_2
  clear a0 a1 a2 a3
  go_wp2_with fail
  generalize w3.alloc (Obj.cells (row4 r c wd (.slice A9 l.length c9)) 25) = w4 at H0_4 H1_4 HB_4 HCF ⊢
  generalize w3.heap.size = g1 at H1_4 ⊢
  have HCM := Aside0.mk (Kd.C_below HH.out.1 HB_4.out)
  have HS_4 := Aside0.mk (Below.refl w4.heap.size w4)
  refine (tensor_Check.calls (l.length + 3) r c wd A9 c9 l 0 w4 (Kd.C_below (C_front HCF.out.2.1) HS_4.out) (by have := HCF.out.1; omega) (by rw [check_eq _ r c wd l (by have := HL.out; omega) (by omega), HE.out])).mono ?_
  rintro e w5 ⟨rfl, hb⟩
  have H0_5 := Aside0.mk (blk_below H0_4.out hb)
  have H1_5 := Aside0.mk (blk_below H1_4.out hb)
  have HS_5 := Aside0.mk (below_step HS_4.out hb)
  clear hb H0_4 H1_4 HS_4
  have b0 := blk_cell H1_5.out 0
  have b1 := blk_cell H1_5.out 1
  have b2 := blk_cell H1_5.out 2
  have b3 := blk_cell H1_5.out 3
  simp only [List.getElem?_toArray, List.getElem?_cons_zero, List.getElem?_cons_succ] at b0 b1 b2 b3
  go_wp2_with fail
  refine (finite_calls r c wd A9 c9 l w5 (Kd.C_below (C_front HCF.out.2.1) HS_5.out) (by have := HCF.out.1; omega) HCF.out.2.2 (by have := HL.out; omega) HE.out).mono ?_
  rintro e w6 ⟨rfl, hb⟩
  have H0_6 := Aside0.mk (blk_below H0_5.out hb)
  have H1_6 := Aside0.mk (blk_below H1_5.out hb)
  have HS_6 := Aside0.mk (below_step HS_5.out hb)
  clear hb H0_5 H1_5 HS_5
  clear b0 b1 b2 b3
  have b0 := blk_cell H1_6.out 0
  have b1 := blk_cell H1_6.out 1
  have b2 := blk_cell H1_6.out 2
  have b3 := blk_cell H1_6.out 3
  simp only [List.getElem?_toArray, List.getElem?_cons_zero, List.getElem?_cons_succ] at b0 b1 b2 b3
  go_wp2_with fail
  refine (tensor_At.calls (l.length + 3) r c wd A9 c9 l row col 0 5 w6 (Kd.C_below (C_front HCF.out.2.1) HS_6.out) (by have := HCF.out.1; omega) (at_out _ r c wd l row col (by have := HL.out; omega) (by omega) HE.out HO.out)).mono ?_
  rintro e w7 ⟨rfl, hb⟩
  have H0_7 := Aside0.mk (blk_below H0_6.out hb)
  have H1_7 := Aside0.mk (blk_below H1_6.out hb)
  have HS_7 := Aside0.mk (below_step HS_6.out hb)
  clear hb H0_6 H1_6 HS_6
  clear b0 b1 b2 b3
  have b0 := blk_cell H1_7.out 0
  have b1 := blk_cell H1_7.out 1
  have b2 := blk_cell H1_7.out 2
  have b3 := blk_cell H1_7.out 3
  simp only [List.getElem?_toArray, List.getElem?_cons_zero, List.getElem?_cons_succ] at b0 b1 b2 b3
  have a0 := blk_cell H0_7.out 0
  have a1 := blk_cell H0_7.out 1
  have a2 := blk_cell H0_7.out 2
  have a3 := blk_cell H0_7.out 3
  simp only [List.getElem?_toArray, List.getElem?_cons_zero, List.getElem?_cons_succ] at a0 a1 a2 a3
  go_wp2_with fail
  refine (stays_calls r c wd A A9 cA c9 l w7 (Kd.C_below HCM.out HS_7.out) HH.out.2.1 (by have := HL.out; omega) (Kd.C_below HCF.out.2.1 HS_7.out) HCF.out.1).mono ?_
  rintro e w8 ⟨rfl, hb⟩
  have H0_8 := Aside0.mk (blk_below H0_7.out hb)
  have H1_8 := Aside0.mk (blk_below H1_7.out hb)
  have HS_8 := Aside0.mk (below_step HS_7.out hb)
  clear hb H0_7 H1_7 HS_7
  clear b0 b1 b2 b3
  clear a0 a1 a2 a3
  have a0 := blk_cell H0_8.out 0
  have a1 := blk_cell H0_8.out 1
  have a2 := blk_cell H0_8.out 2
  have a3 := blk_cell H0_8.out 3
  simp only [List.getElem?_toArray, List.getElem?_cons_zero, List.getElem?_cons_succ] at a0 a1 a2 a3
  go_wp2_with fail
  refine (pupilref7_Check.calls (2 * (l.length + 1)) r c wd A cA l 0 w8 (Kd.C_below HCM.out HS_8.out) HH.out.2.1 (by rw [refCheck_eq _ r c wd l (by have := HL.out; omega) (by omega), HE.out])).mono ?_
  rintro e w9 ⟨rfl, hb⟩
  have H0_9 := Aside0.mk (blk_below H0_8.out hb)
  have H1_9 := Aside0.mk (blk_below H1_8.out hb)
  have HS_9 := Aside0.mk (below_step HS_8.out hb)
  clear hb H0_8 H1_8 HS_8
  clear a0 a1 a2 a3
  go_wp2_with fail
  refine (pupillaw7_num.calls 0 0 w9 rfl).mono ?_
  rintro e w10 ⟨rfl, hb⟩
  replace hb := hb.below
  have H0_10 := Aside0.mk (blk_below H0_9.out hb)
  have H1_10 := Aside0.mk (blk_below H1_9.out hb)
  have HS_10 := Aside0.mk (below_step HS_9.out hb)
  clear hb H0_9 H1_9 HS_9
  have a0 := blk_cell H0_10.out 0
  have a1 := blk_cell H0_10.out 1
  have a2 := blk_cell H0_10.out 2
  have a3 := blk_cell H0_10.out 3
  simp only [List.getElem?_toArray, List.getElem?_cons_zero, List.getElem?_cons_succ] at a0 a1 a2 a3
  go_wp2_with fail
  refine (pupilref7_Stop.calls (l.length + 3) r c wd A cA l (stopV wd 0 l).1 (stopV wd 0 l).2 w10 (Kd.C_below HCM.out HS_10.out) HH.out.2.1 (stop_eq _ r c wd l (check_form HE.out).1 HH.out.2.2 (by have := HL.out; omega) (by omega))).mono ?_
  rintro e w11 ⟨rfl, hb⟩
  have H0_11 := Aside0.mk (blk_below H0_10.out hb)
  have H1_11 := Aside0.mk (blk_below H1_10.out hb)
  have HS_11 := Aside0.mk (below_step HS_10.out hb)
  clear hb H0_10 H1_10 HS_10
  clear a0 a1 a2 a3
  generalize (stopV wd 0 l).1 = s1
  generalize (stopV wd 0 l).2 = s2
  go_wp2_with fail
  refine (pupillaw7_num.calls s2 s2 w11 rfl).mono ?_
  rintro e w12 ⟨rfl, hb⟩
  replace hb := hb.below
  have H0_12 := Aside0.mk (blk_below H0_11.out hb)
  have H1_12 := Aside0.mk (blk_below H1_11.out hb)
  have HS_12 := Aside0.mk (below_step HS_11.out hb)
  clear hb H0_11 H1_11 HS_11
  have a0 := blk_cell H0_12.out 0
  have a1 := blk_cell H0_12.out 1
  have a2 := blk_cell H0_12.out 2
  have a3 := blk_cell H0_12.out 3
  simp only [List.getElem?_toArray, List.getElem?_cons_zero, List.getElem?_cons_succ] at a0 a1 a2 a3
  have ho := HO.out
  by_cases h1 : row < 0
  · go_wp2_with fail
    refine (pupillaw7_num.calls 5 5 w12 rfl).mono ?_
    rintro e w13 ⟨rfl, hb⟩
    replace hb := hb.below
    have H0_13 := Aside0.mk (blk_below H0_12.out hb)
    have H1_13 := Aside0.mk (blk_below H1_12.out hb)
    have HS_13 := Aside0.mk (below_step HS_12.out hb)
    clear hb H0_12 H1_12 HS_12
    go_wp2
    go_ret
    exact ⟨rfl, below_step HB_4.out HS_13.out⟩
  · by_cases h2 : row ≥ r
    · go_wp2_with fail
      refine (pupillaw7_num.calls 5 5 w12 rfl).mono ?_
      rintro e w13 ⟨rfl, hb⟩
      replace hb := hb.below
      have H0_13 := Aside0.mk (blk_below H0_12.out hb)
      have H1_13 := Aside0.mk (blk_below H1_12.out hb)
      have HS_13 := Aside0.mk (below_step HS_12.out hb)
      clear hb H0_12 H1_12 HS_12
      go_wp2
      go_ret
      exact ⟨rfl, below_step HB_4.out HS_13.out⟩
    · by_cases h3 : col < 0
      · go_wp2_with fail
        refine (pupillaw7_num.calls 5 5 w12 rfl).mono ?_
        rintro e w13 ⟨rfl, hb⟩
        replace hb := hb.below
        have H0_13 := Aside0.mk (blk_below H0_12.out hb)
        have H1_13 := Aside0.mk (blk_below H1_12.out hb)
        have HS_13 := Aside0.mk (below_step HS_12.out hb)
        clear hb H0_12 H1_12 HS_12
        go_wp2
        go_ret
        exact ⟨rfl, below_step HB_4.out HS_13.out⟩
      · have h4 : col ≥ c := by omega
        go_wp2_with fail
        refine (pupillaw7_num.calls 5 5 w12 rfl).mono ?_
        rintro e w13 ⟨rfl, hb⟩
        replace hb := hb.below
        have H0_13 := Aside0.mk (blk_below H0_12.out hb)
        have H1_13 := Aside0.mk (blk_below H1_12.out hb)
        have HS_13 := Aside0.mk (below_step HS_12.out hb)
        clear hb H0_12 H1_12 HS_12
        go_wp2
        go_ret
        exact ⟨rfl, below_step HB_4.out HS_13.out⟩


def F6RT19 : Bool × List (List Nat × List Nat) := (true, [([], []), ([0], [0]), ([1], [1]), ([2, 1], [2]), ([3], [3]), ([3], [3]), ([5, 3], [3, 5]), ([3], [3]), ([3], [3]), ([8, 3], [3, 8]), ([7, 9, 3], [3, 7, 9]), ([3], [3]), ([10, 11, 3], [3, 10, 11]), ([6, 12, 3], [3, 6, 12]), ([13, 3], [3, 13]), ([3], [3]), ([15, 3], [3, 15]), ([14, 16, 3, 3], [3, 14, 16]), ([4, 17, 3], [3, 4, 17]), ([3, 18], [3, 18]), ([19, 17, 0, 1, 2, 3, 4, 5, 6, 7, 8, 9, 10, 11, 12, 13, 14, 15, 16, 17, 18, 19], [19])])
def F6RB19 : List Nat := [0, 1, 3, 7, 15, 15, 47, 15, 15, 271, 911, 15, 3983, 8175, 16367, 15, 32783, 131055, 262143, 524287, 1048575]
theorem F6Rtab19 : rtab .any (opsOf Try.f6 19) = F6RT19 := by kernel_rfl
theorem F6Rbits19 : waitsOk F6RT19.2 F6RB19 = true := by kernel_rfl
set_option maxHeartbeats 2000000 in
set_option maxRecDepth 100000 in
theorem chk_in (r c wd : Int) (A : Option Addr) (cA : Nat) (l : List Int) (row col : Int) (w : World) (hC : (Kd.int .i64).C w A l.length l) (hcA : l.length ≤ cA) (hr : InR l) (hl : l.length ≤ 5000) (hE : checkV r c wd l = 0) (hO : 0 ≤ row ∧ row < r ∧ 0 ≤ col ∧ col < c) :
    Calls Try.prog 6 #[.agg #[.int .i64 r, .int .i64 c, .int .i64 wd, .slice A l.length cA], .int .i64 row, .int .i64 col] w fun e w' => e = .returned (.bool true) ∧ Below w.heap.size w w' := by
  have HE := Aside0.mk hE
  have HO := Aside0.mk hO
  clear hE hO
  have HL := Aside0.mk hl
  have d1 : decide ((5000 : Int) < (l.length : Int)) = false := decide_eq_false (by omega)
  clear hl
  have HH := Aside0.mk (And.intro hC (And.intro hcA hr))
  clear hC hcA hr
  go_enter Try.func6, Try.ntmps6
  go_wp2_with fail
  generalize hw1 : w.alloc (Obj.cells #[Value.int IntKind.i64 r, Value.int IntKind.i64 c, Value.int IntKind.i64 wd, Value.slice A l.length cA] 25) = w1
  have HB_1 : Aside0 (Below w.heap.size w w1) := ⟨by rw [← hw1]; exact below_alloc (Below.refl _ _) _⟩
  have H0_1 : Aside0 (IsB w1 w.heap.size (row4 r c wd (.slice A l.length cA)) 25) := ⟨by rw [← hw1]; exact blk_new _ _⟩
  clear hw1
  refine (alive_calls w1).mono ?_
  rintro e w2 ⟨rfl, hb⟩
  have H0_2 := Aside0.mk (blk_below H0_1.out hb)
  have HB_2 := Aside0.mk (below_step HB_1.out hb)
  clear hb H0_1 HB_1
  have a0 := blk_cell H0_2.out 0
  have a1 := blk_cell H0_2.out 1
  have a2 := blk_cell H0_2.out 2
  have a3 := blk_cell H0_2.out 3
  simp only [List.getElem?_toArray, List.getElem?_cons_zero, List.getElem?_cons_succ] at a0 a1 a2 a3
  go_wp2_with fail
  refine (lent_calls r c wd A cA l w2 (Kd.C_below HH.out.1 HB_2.out) HH.out.2.1 (by have := HL.out; omega)).mono ?_
  rintro e w3 ⟨A9, c9, rfl, hc9, hR9, hb⟩
  have H0_4 := Aside0.mk (blk_alloc (blk_below H0_2.out hb) (Obj.cells (row4 r c wd (.slice A9 l.length c9)) 25))
  have H1_4 := Aside0.mk (blk_new w3 (Obj.cells (row4 r c wd (.slice A9 l.length c9)) 25))
  have HB_4 := Aside0.mk (below_alloc (below_step HB_2.out hb) (Obj.cells (row4 r c wd (.slice A9 l.length c9)) 25))
  have hCf : (Kd.int .i64).C w3 A9 (l.length + 1) (l ++ [-71]) ∧ c9 ≤ 9223372036854775807 := by
    obtain ⟨A8, c8, hv, _, hC⟩ := Kd.R_reads hR9
    injection hv with e1 e2 e3
    subst e1
    have hll : (l ++ [(-71 : Int)]).length = l.length + 1 := by simp
    rw [hll] at hC
    exact ⟨hC, row_cap hR9⟩
  have HCF := Aside0.mk (And.intro hc9 (And.intro (Kd.C_alloc hCf.1 (Obj.cells (row4 r c wd (.slice A9 l.length c9)) 25)) hCf.2))
  clear hb hR9 hc9 hCf H0_2 HB_2
  clear a0 a1 a2 a3
  go_wp2_with fail
  generalize w3.alloc (Obj.cells (row4 r c wd (.slice A9 l.length c9)) 25) = w4 at H0_4 H1_4 HB_4 HCF ⊢
  generalize w3.heap.size = g1 at H1_4 ⊢
  have HCM := Aside0.mk (Kd.C_below HH.out.1 HB_4.out)
  have HS_4 := Aside0.mk (Below.refl w4.heap.size w4)
  refine (tensor_Check.calls (l.length + 3) r c wd A9 c9 l 0 w4 (Kd.C_below (C_front HCF.out.2.1) HS_4.out) (by have := HCF.out.1; omega) (by rw [check_eq _ r c wd l (by have := HL.out; omega) (by omega), HE.out])).mono ?_
  rintro e w5 ⟨rfl, hb⟩
  have H0_5 := Aside0.mk (blk_below H0_4.out hb)
  have H1_5 := Aside0.mk (blk_below H1_4.out hb)
  have HS_5 := Aside0.mk (below_step HS_4.out hb)
  clear hb H0_4 H1_4 HS_4
  have b0 := blk_cell H1_5.out 0
  have b1 := blk_cell H1_5.out 1
  have b2 := blk_cell H1_5.out 2
  have b3 := blk_cell H1_5.out 3
  simp only [List.getElem?_toArray, List.getElem?_cons_zero, List.getElem?_cons_succ] at b0 b1 b2 b3
  go_wp2_with fail
  refine (finite_calls r c wd A9 c9 l w5 (Kd.C_below (C_front HCF.out.2.1) HS_5.out) (by have := HCF.out.1; omega) HCF.out.2.2 (by have := HL.out; omega) HE.out).mono ?_
  rintro e w6 ⟨rfl, hb⟩
  have H0_6 := Aside0.mk (blk_below H0_5.out hb)
  have H1_6 := Aside0.mk (blk_below H1_5.out hb)
  have HS_6 := Aside0.mk (below_step HS_5.out hb)
  clear hb H0_5 H1_5 HS_5
  clear b0 b1 b2 b3
  have b0 := blk_cell H1_6.out 0
  have b1 := blk_cell H1_6.out 1
  have b2 := blk_cell H1_6.out 2
  have b3 := blk_cell H1_6.out 3
  simp only [List.getElem?_toArray, List.getElem?_cons_zero, List.getElem?_cons_succ] at b0 b1 b2 b3
  go_wp2_with fail
  refine (tensor_At.calls (l.length + 3) r c wd A9 c9 l row col (cleanV wd (rd l (row * c + col))) 0 w6 (Kd.C_below (C_front HCF.out.2.1) HS_6.out) (by have := HCF.out.1; omega) (at_good _ r c wd l row col (by have := HL.out; omega) (by omega) HE.out HO.out.1 HO.out.2.1 HO.out.2.2.1 HO.out.2.2.2)).mono ?_
  rintro e w7 ⟨rfl, hb⟩
  have H0_7 := Aside0.mk (blk_below H0_6.out hb)
  have H1_7 := Aside0.mk (blk_below H1_6.out hb)
  have HS_7 := Aside0.mk (below_step HS_6.out hb)
  clear hb H0_6 H1_6 HS_6
  clear b0 b1 b2 b3
  have b0 := blk_cell H1_7.out 0
  have b1 := blk_cell H1_7.out 1
  have b2 := blk_cell H1_7.out 2
  have b3 := blk_cell H1_7.out 3
  simp only [List.getElem?_toArray, List.getElem?_cons_zero, List.getElem?_cons_succ] at b0 b1 b2 b3
  have a0 := blk_cell H0_7.out 0
  have a1 := blk_cell H0_7.out 1
  have a2 := blk_cell H0_7.out 2
  have a3 := blk_cell H0_7.out 3
  simp only [List.getElem?_toArray, List.getElem?_cons_zero, List.getElem?_cons_succ] at a0 a1 a2 a3
  go_wp2_with fail
  refine (stays_calls r c wd A A9 cA c9 l w7 (Kd.C_below HCM.out HS_7.out) HH.out.2.1 (by have := HL.out; omega) (Kd.C_below HCF.out.2.1 HS_7.out) HCF.out.1).mono ?_
  rintro e w8 ⟨rfl, hb⟩
  have H0_8 := Aside0.mk (blk_below H0_7.out hb)
  have H1_8 := Aside0.mk (blk_below H1_7.out hb)
  have HS_8 := Aside0.mk (below_step HS_7.out hb)
  clear hb H0_7 H1_7 HS_7
  clear b0 b1 b2 b3
  clear a0 a1 a2 a3
  have a0 := blk_cell H0_8.out 0
  have a1 := blk_cell H0_8.out 1
  have a2 := blk_cell H0_8.out 2
  have a3 := blk_cell H0_8.out 3
  simp only [List.getElem?_toArray, List.getElem?_cons_zero, List.getElem?_cons_succ] at a0 a1 a2 a3
  go_wp2_with fail
  refine (pupilref7_Check.calls (2 * (l.length + 1)) r c wd A cA l 0 w8 (Kd.C_below HCM.out HS_8.out) HH.out.2.1 (by rw [refCheck_eq _ r c wd l (by have := HL.out; omega) (by omega), HE.out])).mono ?_
  rintro e w9 ⟨rfl, hb⟩
  have H0_9 := Aside0.mk (blk_below H0_8.out hb)
  have H1_9 := Aside0.mk (blk_below H1_8.out hb)
  have HS_9 := Aside0.mk (below_step HS_8.out hb)
  clear hb H0_8 H1_8 HS_8
  clear a0 a1 a2 a3
  go_wp2_with fail
  refine (pupillaw7_num.calls 0 0 w9 rfl).mono ?_
  rintro e w10 ⟨rfl, hb⟩
  replace hb := hb.below
  have H0_10 := Aside0.mk (blk_below H0_9.out hb)
  have H1_10 := Aside0.mk (blk_below H1_9.out hb)
  have HS_10 := Aside0.mk (below_step HS_9.out hb)
  clear hb H0_9 H1_9 HS_9
  have a0 := blk_cell H0_10.out 0
  have a1 := blk_cell H0_10.out 1
  have a2 := blk_cell H0_10.out 2
  have a3 := blk_cell H0_10.out 3
  simp only [List.getElem?_toArray, List.getElem?_cons_zero, List.getElem?_cons_succ] at a0 a1 a2 a3
  go_wp2_with fail
  refine (pupilref7_Stop.calls (l.length + 3) r c wd A cA l (stopV wd 0 l).1 (stopV wd 0 l).2 w10 (Kd.C_below HCM.out HS_10.out) HH.out.2.1 (stop_eq _ r c wd l (check_form HE.out).1 HH.out.2.2 (by have := HL.out; omega) (by omega))).mono ?_
  rintro e w11 ⟨rfl, hb⟩
  have H0_11 := Aside0.mk (blk_below H0_10.out hb)
  have H1_11 := Aside0.mk (blk_below H1_10.out hb)
  have HS_11 := Aside0.mk (below_step HS_10.out hb)
  clear hb H0_10 H1_10 HS_10
  clear a0 a1 a2 a3
  generalize (stopV wd 0 l).1 = s1
  generalize (stopV wd 0 l).2 = s2
  go_wp2_with fail
  refine (pupillaw7_num.calls s2 s2 w11 rfl).mono ?_
  rintro e w12 ⟨rfl, hb⟩
  replace hb := hb.below
  have H0_12 := Aside0.mk (blk_below H0_11.out hb)
  have H1_12 := Aside0.mk (blk_below H1_11.out hb)
  have HS_12 := Aside0.mk (below_step HS_11.out hb)
  clear hb H0_11 H1_11 HS_11
  have a0 := blk_cell H0_12.out 0
  have a1 := blk_cell H0_12.out 1
  have a2 := blk_cell H0_12.out 2
  have a3 := blk_cell H0_12.out 3
  simp only [List.getElem?_toArray, List.getElem?_cons_zero, List.getElem?_cons_succ] at a0 a1 a2 a3
  obtain ⟨h1, h2, h3, h4⟩ := HO.out
  have g1 : ¬ row < 0 := by omega
  have g2 : ¬ row ≥ r := by omega
  have g3 : ¬ col < 0 := by omega
  have g4 : ¬ col ≥ c := by omega
  obtain ⟨hw, c1, c2, c3, c4, c5, c6, c7⟩ := check_form HE.out
  obtain ⟨p1, p2, p3, p4⟩ := place_in c1 c2 c3 c4 c6 h1 h2 h3 h4
  have hrg := rd_range HH.out.2.2 (row * c + col)
  have HCL := Aside0.mk (refClean_eq 3 (rd l (row * c + col)) wd hw hrg.1 hrg.2)
  obtain ⟨P, hP⟩ : ∃ P, P = row * c + col := ⟨_, rfl⟩
  have q2 : wrap64 (row * c + col) = P := p2.trans hP.symm
  rw [← hP] at p3 p4 HCL ⊢
  clear p2 hP
  obtain ⟨ad, hA, hel⟩ := Kd.at_int (Kd.C_below HCM.out HS_12.out) P p3 p4
  subst hA
  have sl0 := eq_true p3
  have sl1 := eq_true p4
  generalize rd l P = x at hel HCL ⊢
  generalize cleanV wd x = y at HCL ⊢
  clear h1 h2 h3 h4 hw c1 c2 c3 c4 c5 c6 c7 p3 p4 hrg
  go_wp2
  refine start_ (n := 21) (S := fun w' => w'.cell? ⟨w.heap.size, 1, none⟩ = some (.int .i64 c) ∧ w'.cell? ⟨w.heap.size, 2, none⟩ = some (.int .i64 wd) ∧ w'.cell? ⟨w.heap.size, 3, none⟩ = some (.slice (some ad) l.length cA) ∧ w'.cell? (ad.add P.toNat) = some (.int .i64 x)) (ds := []) #[false, false, false, false, false, false, false, false, false, false, false, false, false, false, false, false, false, false, false, false, false] (by kernel_rfl) rfl rfl ⟨a1, a2, a3, hel⟩ (fun hHeld => ?_)
  refine with_tabW F6Rtab19 F6Rbits19 (fun HT_ HW_ => ?_)
  refine pure_ (i := 0) (N := some 116) (v := ?_) (a' := ?_) #[true, false, false, false, false, false, false, false, false, false, false, false, false, false, false, false, false, false, false, false, false] rfl rfl (any_of HT_.out (by kernel_rfl)) (fun _ _ _ h => h) (Or.inl ⟨by rfl, ?_⟩) ?_ ?_
  rotate_left
  · intro w'
    go_simp
    with_reducible rfl
  rotate_left
  · simp only [Act.put, List.setIfInBounds_toArray, List.set_cons_zero, List.set_cons_succ, i64_w, i32_w]
    rfl
  refine one_ (i := 1) (N := some 117) #[true, true, false, false, false, false, false, false, false, false, false, false, false, false, false, false, false, false, false, false, false] rfl rfl (one_of HT_.out (by kernel_rfl)) (by decide) (fun K hK => ?_)
  refine goes_ Try.func15 (by kernel_rfl) rfl #[.int .i64 0] (by rfl) rfl rfl (by simp only [List.map_toArray, List.map_cons, List.map_nil]; rfl) ?_
  with_reducible refine (pupillaw7_num.calls 0 0 _ rfl).mono ?_
  rintro e w13 ⟨rfl, hb⟩
  refine ⟨_, rfl, ?_⟩
  replace hb := hb.below
  have H0_13 := Aside0.mk (blk_below (blk_drew H0_12.out) hb)
  have HS_13 := Aside0.mk (below_step (Below.drew HS_12.out) hb)
  have hel13 := (hb.cell (World.block_lt_of_cell? _ _ hel)).trans hel
  have n0 := blk_cell H0_13.out 0
  have n1 := blk_cell H0_13.out 1
  have n2 := blk_cell H0_13.out 2
  have n3 := blk_cell H0_13.out 3
  simp only [List.getElem?_toArray, List.getElem?_cons_zero, List.getElem?_cons_succ] at n0 n1 n2 n3
  refine hK.out _ _ ⟨n1, n2, n3, hel13⟩ (fun hHeld => ?_)
  clear hK K
  refine norm_ (a' := ?_) ?_ ?_
  rotate_left
  · show Act.put _ (some 117) _ = _
    simp only [Act.put, List.setIfInBounds_toArray, List.set_cons_zero, List.set_cons_succ, i64_w, i32_w]
    rfl
  refine pure_ (i := 2) (N := some 118) (v := ?_) (a' := ?_) #[true, true, true, false, false, false, false, false, false, false, false, false, false, false, false, false, false, false, false, false, false] rfl rfl (any_of HT_.out (by kernel_rfl)) (fun _ _ _ h => h) (Or.inl ⟨by rfl, ?_⟩) ?_ ?_
  rotate_left
  · intro w'
    go_simp
    with_reducible rfl
  rotate_left
  · simp only [Act.put, List.setIfInBounds_toArray, List.set_cons_zero, List.set_cons_succ, i64_w, i32_w]
    rfl
  refine pure_ (i := 3) (N := some 119) (v := ?_) (a' := ?_) #[true, true, true, true, false, false, false, false, false, false, false, false, false, false, false, false, false, false, false, false, false] rfl rfl (any_of HT_.out (by kernel_rfl)) (fun _ _ _ h => h) (Or.inl ⟨by rfl, ?_⟩) ?_ ?_
  rotate_left
  · intro w'
    go_simp
    with_reducible rfl
  rotate_left
  · simp only [Act.put, List.setIfInBounds_toArray, List.set_cons_zero, List.set_cons_succ, i64_w, i32_w]
    rfl
  refine pure_ (i := 4) (N := some 120) (v := ?_) (a' := ?_) #[true, true, true, true, true, false, false, false, false, false, false, false, false, false, false, false, false, false, false, false, false] rfl rfl (any_of HT_.out (by kernel_rfl)) (fun _ _ _ h => h) (Or.inl ⟨by rfl, ?_⟩) ?_ ?_
  rotate_left
  · intro w'
    go_simp
    with_reducible rfl
  rotate_left
  · simp only [Act.put, List.setIfInBounds_toArray, List.set_cons_zero, List.set_cons_succ, i64_w, i32_w]
    rfl
  refine pure_ (i := 5) (N := some 121) (v := ?_) (a' := ?_) #[true, true, true, true, true, true, false, false, false, false, false, false, false, false, false, false, false, false, false, false, false] rfl rfl (any_of HT_.out (by kernel_rfl)) (fun _ _ _ h => h) (Or.inl ⟨by rfl, ?_⟩) ?_ ?_
  rotate_left
  · intro w'
    go_simp
    with_reducible rfl
  rotate_left
  · simp only [Act.put, List.setIfInBounds_toArray, List.set_cons_zero, List.set_cons_succ, i64_w, i32_w]
    rfl
  refine pure_ (i := 7) (N := some 123) (v := ?_) (a' := ?_) #[true, true, true, true, true, true, false, true, false, false, false, false, false, false, false, false, false, false, false, false, false] rfl rfl (any_of HT_.out (by kernel_rfl)) (fun _ _ _ h => h) (Or.inl ⟨by rfl, ?_⟩) ?_ ?_
  rotate_left
  · intro w'
    go_simp
    with_reducible rfl
  rotate_left
  · simp only [Act.put, List.setIfInBounds_toArray, List.set_cons_zero, List.set_cons_succ, i64_w, i32_w]
    rfl
  refine pure_ (i := 8) (N := some 124) (v := ?_) (a' := ?_) #[true, true, true, true, true, true, false, true, true, false, false, false, false, false, false, false, false, false, false, false, false] rfl rfl (any_of HT_.out (by kernel_rfl)) (fun _ _ _ h => h) (Or.inl ⟨by rfl, ?_⟩) ?_ ?_
  rotate_left
  · intro w'
    go_simp
    with_reducible rfl
  rotate_left
  · simp only [Act.put, List.setIfInBounds_toArray, List.set_cons_zero, List.set_cons_succ, i64_w, i32_w]
    rfl
  refine pure_ (i := 11) (N := some 127) (v := ?_) (a' := ?_) #[true, true, true, true, true, true, false, true, true, false, false, true, false, false, false, false, false, false, false, false, false] rfl rfl (any_of HT_.out (by kernel_rfl)) (fun _ _ _ h => h) (Or.inl ⟨by rfl, ?_⟩) ?_ ?_
  rotate_left
  · intro w'
    go_simp
    with_reducible rfl
  rotate_left
  · simp only [Act.put, List.setIfInBounds_toArray, List.set_cons_zero, List.set_cons_succ, i64_w, i32_w]
    rfl
  refine pure_ (i := 15) (N := some 131) (v := ?_) (a' := ?_) #[true, true, true, true, true, true, false, true, true, false, false, true, false, false, false, true, false, false, false, false, false] rfl rfl (any_of HT_.out (by kernel_rfl)) (fun _ _ _ h => h) (Or.inl ⟨by rfl, ?_⟩) ?_ ?_
  rotate_left
  · intro w'
    go_simp
    with_reducible rfl
  rotate_left
  · simp only [Act.put, List.setIfInBounds_toArray, List.set_cons_zero, List.set_cons_succ, i64_w, i32_w]
    rfl
  refine take_ (i := 6) (N := some 122) (v := ?_) (a' := ?_) #[true, true, true, true, true, true, true, true, true, false, false, true, false, false, false, true, false, false, false, false, false] rfl rfl (take_ofW HT_.out HW_.out (by kernel_rfl)) (fun _ _ _ h => h) (Or.inl ⟨by rfl, ?_⟩) hHeld ?_ ?_
  rotate_left
  · rintro w' ⟨s0, s1, s2, s3⟩
    go_simp
    with_reducible rfl
  rotate_left
  · simp only [Act.put, List.setIfInBounds_toArray, List.set_cons_zero, List.set_cons_succ, i64_w, i32_w]
    rfl
  refine take_ (i := 9) (N := some 125) (v := ?_) (a' := ?_) #[true, true, true, true, true, true, true, true, true, true, false, true, false, false, false, true, false, false, false, false, false] rfl rfl (take_ofW HT_.out HW_.out (by kernel_rfl)) (fun _ _ _ h => h) (Or.inl ⟨by rfl, ?_⟩) hHeld ?_ ?_
  rotate_left
  · rintro w' ⟨s0, s1, s2, s3⟩
    go_simp
    with_reducible rfl
  rotate_left
  · simp only [Act.put, List.setIfInBounds_toArray, List.set_cons_zero, List.set_cons_succ, i64_w, i32_w]
    rfl
  refine pure_ (i := 10) (N := some 126) (v := ?_) (a' := ?_) #[true, true, true, true, true, true, true, true, true, true, true, true, false, false, false, true, false, false, false, false, false] rfl rfl (any_of HT_.out (by kernel_rfl)) (fun _ _ _ h => h) (Or.inl ⟨by rfl, ?_⟩) ?_ ?_
  rotate_left
  · intro w'
    go_simp
    with_reducible rfl
  rotate_left
  · simp only [Act.put, List.setIfInBounds_toArray, List.set_cons_zero, List.set_cons_succ, i64_w, i32_w]
    rfl
  refine pure_ (i := 12) (N := some 128) (v := ?_) (a' := ?_) #[true, true, true, true, true, true, true, true, true, true, true, true, true, false, false, true, false, false, false, false, false] rfl rfl (any_of HT_.out (by kernel_rfl)) (fun _ _ _ h => h) (Or.inl ⟨by rfl, ?_⟩) ?_ ?_
  rotate_left
  · intro w'
    go_simp
    with_reducible rfl
  rotate_left
  · simp only [Act.put, List.setIfInBounds_toArray, List.set_cons_zero, List.set_cons_succ, i64_w, i32_w]
    rfl
  refine pure_ (i := 13) (N := some 129) (v := ?_) (a' := ?_) #[true, true, true, true, true, true, true, true, true, true, true, true, true, true, false, true, false, false, false, false, false] rfl rfl (any_of HT_.out (by kernel_rfl)) (fun _ _ _ h => h) (Or.inl ⟨by rfl, ?_⟩) ?_ ?_
  rotate_left
  · intro w'
    go_simp
    with_reducible rfl
  rotate_left
  · simp only [Act.put, List.setIfInBounds_toArray, List.set_cons_zero, List.set_cons_succ, i64_w, i32_w]
    rfl
  refine take_ (i := 14) (N := some 130) (v := ?_) (a' := ?_) #[true, true, true, true, true, true, true, true, true, true, true, true, true, true, true, true, false, false, false, false, false] rfl rfl (take_ofW HT_.out HW_.out (by kernel_rfl)) (fun _ _ _ h => h) (Or.inl ⟨by rfl, ?_⟩) hHeld ?_ ?_
  rotate_left
  · rintro w' ⟨s0, s1, s2, s3⟩
    go_simp
    with_reducible rfl
  rotate_left
  · simp only [Act.put, List.setIfInBounds_toArray, List.set_cons_zero, List.set_cons_succ, i64_w, i32_w]
    rfl
  refine take_ (i := 16) (N := some 132) (v := ?_) (a' := ?_) #[true, true, true, true, true, true, true, true, true, true, true, true, true, true, true, true, true, false, false, false, false] rfl rfl (take_ofW HT_.out HW_.out (by kernel_rfl)) (fun _ _ _ h => h) (Or.inl ⟨by rfl, ?_⟩) hHeld ?_ ?_
  rotate_left
  · rintro w' ⟨s0, s1, s2, s3⟩
    go_simp
    with_reducible rfl
  rotate_left
  · simp only [Act.put, List.setIfInBounds_toArray, List.set_cons_zero, List.set_cons_succ, i64_w, i32_w]
    rfl
  refine one_ (i := 17) (N := some 133) #[true, true, true, true, true, true, true, true, true, true, true, true, true, true, true, true, true, true, false, false, false] rfl rfl (one_of HT_.out (by kernel_rfl)) (by decide) (fun K hK => ?_)
  refine goes_ Try.func31 (by kernel_rfl) rfl #[.int .i64 x, .int .i64 wd] (by rfl) rfl rfl (by simp only [List.map_toArray, List.map_cons, List.map_nil]; rfl) ?_
  with_reducible refine (pupilref7_Clean.calls 4 x wd y w13 HCL.out).mono ?_
  rintro e w14 ⟨rfl, hb14⟩
  refine ⟨_, rfl, ?_⟩
  have H0_14 := Aside0.mk (blk_below H0_13.out hb14)
  have HS_14 := Aside0.mk (below_step HS_13.out hb14)
  have hel14 := (hb14.cell (World.block_lt_of_cell? _ _ hel13)).trans hel13
  have n0 := blk_cell H0_14.out 0
  have n1 := blk_cell H0_14.out 1
  have n2 := blk_cell H0_14.out 2
  have n3 := blk_cell H0_14.out 3
  simp only [List.getElem?_toArray, List.getElem?_cons_zero, List.getElem?_cons_succ] at n0 n1 n2 n3
  refine hK.out _ _ ⟨n1, n2, n3, hel14⟩ (fun hHeld => ?_)
  clear hK K
  refine norm_ (a' := ?_) ?_ ?_
  rotate_left
  · show Act.put _ (some 133) _ = _
    simp only [Act.put, List.setIfInBounds_toArray, List.set_cons_zero, List.set_cons_succ, i64_w, i32_w]
    rfl
  refine pure_ (i := 18) (N := some 134) (v := ?_) (a' := ?_) #[true, true, true, true, true, true, true, true, true, true, true, true, true, true, true, true, true, true, true, false, false] rfl rfl (any_of HT_.out (by kernel_rfl)) (fun _ _ _ h => h) (Or.inl ⟨by rfl, ?_⟩) ?_ ?_
  rotate_left
  · intro w'
    go_simp
    with_reducible rfl
  rotate_left
  · simp only [Act.put, List.setIfInBounds_toArray, List.set_cons_zero, List.set_cons_succ, i64_w, i32_w]
    rfl
  refine pure_ (i := 19) (N := some 135) (v := ?_) (a' := ?_) #[true, true, true, true, true, true, true, true, true, true, true, true, true, true, true, true, true, true, true, true, false] rfl rfl (any_of HT_.out (by kernel_rfl)) (fun _ _ _ h => h) (Or.inl ⟨by rfl, ?_⟩) ?_ ?_
  rotate_left
  · intro w'
    go_simp
    with_reducible rfl
  rotate_left
  · simp only [Act.put, List.setIfInBounds_toArray, List.set_cons_zero, List.set_cons_succ, i64_w, i32_w]
    rfl
  refine pure_ (i := 20) (N := some 6) (v := ?_) (a' := ?_) #[true, true, true, true, true, true, true, true, true, true, true, true, true, true, true, true, true, true, true, true, true] rfl rfl (any_of HT_.out (by kernel_rfl)) (fun _ _ _ h => h) (Or.inl ⟨by rfl, ?_⟩) ?_ ?_
  rotate_left
  · intro w'
    go_simp
    with_reducible rfl
  rotate_left
  · simp only [Act.put, List.setIfInBounds_toArray, List.set_cons_zero, List.set_cons_succ, i64_w, i32_w]
    rfl
  refine done_ (done_of HT_.out (by kernel_rfl)) ?_
  go_wp2
  go_ret
  exact ⟨rfl, below_step HB_4.out HS_14.out⟩

theorem chk_calls (r c wd : Int) (A : Option Addr) (cA : Nat) (l : List Int) (row col : Int) (w : World) (hC : (Kd.int .i64).C w A l.length l) (hcA : l.length ≤ cA) (hr : InR l) :
    Calls Try.prog 6 #[.agg #[.int .i64 r, .int .i64 c, .int .i64 wd, .slice A l.length cA], .int .i64 row, .int .i64 col] w fun e w' => e = .returned (.bool true) ∧ Below w.heap.size w w' := by
  by_cases hl : l.length > 5000
  · exact chk_long r c wd A cA l row col w hC hcA hr hl
  · by_cases hE : checkV r c wd l = 0
    · by_cases hO : row < 0 ∨ row ≥ r ∨ col < 0 ∨ col ≥ c
      · exact chk_out r c wd A cA l row col w hC hcA hr (by omega) hE hO
      · exact chk_in r c wd A cA l row col w hC hcA hr (by omega) hE (by omega)
    · exact chk_bad r c wd A cA l row col w hC hcA hr (by omega) _ ⟨rfl, hE⟩

end Go.Proofs.Ytklomikdihlcgaa
