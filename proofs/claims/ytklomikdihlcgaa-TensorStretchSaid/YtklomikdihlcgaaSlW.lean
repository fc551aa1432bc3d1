/- TensorStretch: the law comes to true. -/
import Derived.Test.YtklomikdihlcgaaRsW
namespace Go.Proofs.Ytklomikdihlcgaa
open Go.RowKit PBase
open Go.Proofs.YtklomikdihlcgaaW.PrintWords Go.Proofs.YtklomikdihlcgaaW.PrintLast Go.Proofs.YtklomikdihlcgaaW.PrintMore
set_option linter.unusedVariables false
set_option linter.unusedSimpArgs false

theorem C_front {w : World} {A : Option Addr} {l : List Int} {x : Int} (h : (Kd.int .i64).C w A (l.length + 1) (l ++ [x])) : (Kd.int .i64).C w A l.length l := by
  obtain ⟨h1, h2, h3⟩ := h
  refine ⟨rfl, by omega, fun hp => ?_⟩
  obtain ⟨ad, hA, hc⟩ := h3 (by omega)
  exact ⟨ad, hA, fun j p hj => hc j p (by rw [List.getElem?_append_left (by exact (List.getElem?_eq_some_iff.1 hj).1)]; exact hj)⟩

set_option maxHeartbeats 2000000 in
set_option maxRecDepth 100000 in
theorem str_long (r c wd : Int) (A : Option Addr) (cA : Nat) (l : List Int) (rows cols : Int) (w : World) (hC : (Kd.int .i64).C w A l.length l) (hcA : l.length ≤ cA) (hr : InR l) (hl : l.length > 5000) :
    Calls Try.prog 5 #[.agg #[.int .i64 r, .int .i64 c, .int .i64 wd, .slice A l.length cA], .int .i64 rows, .int .i64 cols] w fun e w' => e = .returned (.bool true) ∧ Below w.heap.size w w' := by
  have d1 : decide ((5000 : Int) < (l.length : Int)) = true := decide_eq_true (by omega)
  have HH := Aside0.mk (And.intro hC (And.intro hcA hr))
  clear hC hcA hr
  go_enter Try.func5, Try.ntmps5
  go_wp2_with fail
  generalize hw1 : w.alloc (Obj.cells #[Value.int IntKind.i64 r, Value.int IntKind.i64 c, Value.int IntKind.i64 wd, Value.slice A l.length cA] 25) = w1
  have HB_1 : Aside0 (Below w.heap.size w w1) := ⟨by rw [← hw1]; exact below_alloc (Below.refl _ _) _⟩
  have H0_1 : Aside0 (IsB w1 w.heap.size (row4 r c wd (.slice A l.length cA)) 25) := ⟨by rw [← hw1]; exact blk_new _ _⟩
  clear hw1
  refine (alive_calls w1).mono ?_
  rintro e w2 ⟨rfl, hb⟩
  have H0_2 := Aside0.mk (blk_below H0_1.out hb)
  have HB_2 := Aside0.mk (below_step HB_1.out hb)
  clear hb H0_1 HB_1
  have a0 := blk_cell H0_2.out 0
  have a1 := blk_cell H0_2.out 1
  have a2 := blk_cell H0_2.out 2
  have a3 := blk_cell H0_2.out 3
  simp only [List.getElem?_toArray, List.getElem?_cons_zero, List.getElem?_cons_succ] at a0 a1 a2 a3
  go_wp2
  go_ret
  exact ⟨rfl, HB_2.out⟩

set_option maxHeartbeats 2000000 in
set_option maxRecDepth 100000 in
theorem str_bad (r c wd : Int) (A : Option Addr) (cA : Nat) (l : List Int) (rows cols : Int) (w : World) (hC : (Kd.int .i64).C w A l.length l) (hcA : l.length ≤ cA) (hr : InR l) (hl : l.length ≤ 5000) (er : Int) (hE : stretchE r c wd l rows cols = er ∧ er ≠ 0) :
    Calls Try.prog 5 #[.agg #[.int .i64 r, .int .i64 c, .int .i64 wd, .slice A l.length cA], .int .i64 rows, .int .i64 cols] w fun e w' => e = .returned (.bool true) ∧ Below w.heap.size w w' := by
  have HE := Aside0.mk hE
  clear hE
  have HL := Aside0.mk hl
  have d1 : decide ((5000 : Int) < (l.length : Int)) = false := decide_eq_false (by omega)
  clear hl
  have HH := Aside0.mk (And.intro hC (And.intro hcA hr))
  clear hC hcA hr
  go_enter Try.func5, Try.ntmps5
  go_wp2_with fail
  generalize hw1 : w.alloc (Obj.cells #[Value.int IntKind.i64 r, Value.int IntKind.i64 c, Value.int IntKind.i64 wd, Value.slice A l.length cA] 25) = w1
  have HB_1 : Aside0 (Below w.heap.size w w1) := ⟨by rw [← hw1]; exact below_alloc (Below.refl _ _) _⟩
  have H0_1 : Aside0 (IsB w1 w.heap.size (row4 r c wd (.slice A l.length cA)) 25) := ⟨by rw [← hw1]; exact blk_new _ _⟩
  clear hw1
  refine (alive_calls w1).mono ?_
  rintro e w2 ⟨rfl, hb⟩
  have H0_2 := Aside0.mk (blk_below H0_1.out hb)
  have HB_2 := Aside0.mk (below_step HB_1.out hb)
  clear hb H0_1 HB_1
  have a0 := blk_cell H0_2.out 0
  have a1 := blk_cell H0_2.out 1
  have a2 := blk_cell H0_2.out 2
  have a3 := blk_cell H0_2.out 3
  simp only [List.getElem?_toArray, List.getElem?_cons_zero, List.getElem?_cons_succ] at a0 a1 a2 a3
  go_wp2_with fail
  refine (lent_calls r c wd A cA l w2 (Kd.C_below HH.out.1 HB_2.out) HH.out.2.1 (by have := HL.out; omega)).mono ?_
  rintro e w3 ⟨A9, c9, rfl, hc9, hR9, hb⟩
  have H0_4 := Aside0.mk (blk_alloc (blk_below H0_2.out hb) (Obj.cells (row4 r c wd (.slice A9 l.length c9)) 25))
  have H1_4 := Aside0.mk (blk_new w3 (Obj.cells (row4 r c wd (.slice A9 l.length c9)) 25))
  have HB_4 := Aside0.mk (below_alloc (below_step HB_2.out hb) (Obj.cells (row4 r c wd (.slice A9 l.length c9)) 25))
  have hCf : (Kd.int .i64).C w3 A9 (l.length + 1) (l ++ [-71]) := by
    obtain ⟨A8, c8, hv, _, hC⟩ := Kd.R_reads hR9
    injection hv with e1 e2 e3
    subst e1
    have hll : (l ++ [(-71 : Int)]).length = l.length + 1 := by simp
    rw [hll] at hC
    exact hC
  have HCF := Aside0.mk (And.intro hc9 (Kd.C_alloc hCf (Obj.cells (row4 r c wd (.slice A9 l.length c9)) 25)))
  clear hb hR9 hc9 hCf H0_2 HB_2
  clear a0 a1 a2 a3
  go_wp2_with fail
  generalize w3.alloc (Obj.cells (row4 r c wd (.slice A9 l.length c9)) 25) = w4 at H0_4 H1_4 HB_4 HCF ⊢
  generalize w3.heap.size = g1 at H1_4 ⊢
  have HCM := Aside0.mk (Kd.C_below HH.out.1 HB_4.out)
  refine (stretch_bad r c wd A9 c9 l rows cols w4 (C_front HCF.out.2) (by have := HCF.out.1; omega) (by have := HL.out; omega) er HE.out).mono ?_
  rintro e w5 ⟨rfl, hb⟩
  have HS_5 := Aside0.mk hb
  have H0_5 := Aside0.mk (blk_below H0_4.out hb)
  have H1_5 := Aside0.mk (blk_below H1_4.out hb)
  clear hb
  have H0_6 := Aside0.mk (blk_alloc H0_5.out (Obj.cells (row4 0 0 0 (.slice none 0 0)) 25))
  have H1_6 := Aside0.mk (blk_alloc H1_5.out (Obj.cells (row4 0 0 0 (.slice none 0 0)) 25))
  have H2_6 := Aside0.mk (blk_new w5 (Obj.cells (row4 0 0 0 (.slice none 0 0)) 25))
  have HS_6 := Aside0.mk (below_alloc HS_5.out (Obj.cells (row4 0 0 0 (.slice none 0 0)) 25))
  clear H0_5 H1_5 HS_5
  have a0 := blk_cell H0_6.out 0
  have a1 := blk_cell H0_6.out 1
  have a2 := blk_cell H0_6.out 2
  have a3 := blk_cell H0_6.out 3
  simp only [List.getElem?_toArray, List.getElem?_cons_zero, List.getElem?_cons_succ] at a0 a1 a2 a3
  have b0 := blk_cell H1_6.out 0
  have b1 := blk_cell H1_6.out 1
  have b2 := blk_cell H1_6.out 2
  have b3 := blk_cell H1_6.out 3
  simp only [List.getElem?_toArray, List.getElem?_cons_zero, List.getElem?_cons_succ] at b0 b1 b2 b3
  go_wp2_with fail
  generalize w5.alloc (Obj.cells (row4 0 0 0 (.slice none 0 0)) 25) = w6 at H0_6 H1_6 H2_6 HS_6 ⊢
  generalize w5.heap.size = g2 at H2_6 ⊢
  clear a0 a1 a2 a3 b0 b1 b2 b3
  refine (stays_calls r c wd A A9 cA c9 l w6 (Kd.C_below HCM.out HS_6.out) HH.out.2.1 (by have := HL.out; omega) (Kd.C_below HCF.out.2 HS_6.out) HCF.out.1).mono ?_
  rintro e w7 ⟨rfl, hb⟩
  have H0_7 := Aside0.mk (blk_below H0_6.out hb)
  have H2_7 := Aside0.mk (blk_below H2_6.out hb)
  have HS_7 := Aside0.mk (below_step HS_6.out hb)
  clear hb H0_6 H1_6 H2_6 HS_6
  have a0 := blk_cell H0_7.out 0
  have a1 := blk_cell H0_7.out 1
  have a2 := blk_cell H0_7.out 2
  have a3 := blk_cell H0_7.out 3
  simp only [List.getElem?_toArray, List.getElem?_cons_zero, List.getElem?_cons_succ] at a0 a1 a2 a3
  go_wp2_with fail
  refine (pupilref7_Check.calls (2 * (l.length + 1)) r c wd A cA l (checkV r c wd l) w7 (Kd.C_below HCM.out HS_7.out) HH.out.2.1 (refCheck_eq _ r c wd l (by have := HL.out; omega) (by omega))).mono ?_
  rintro e w8 ⟨rfl, hb⟩
  have H0_8 := Aside0.mk (blk_below H0_7.out hb)
  have H2_8 := Aside0.mk (blk_below H2_7.out hb)
  have HS_8 := Aside0.mk (below_step HS_7.out hb)
  clear hb H0_7 H2_7 HS_7 a0 a1 a2 a3
  have hE := HE.out.1
  have hne2 : (er != 0) = true := by simpa using HE.out.2
  unfold stretchE at hE
  by_cases hck : checkV r c wd l = 0
  · rw [hck]
    rw [if_pos hck] at hE
    have a0 := blk_cell H0_8.out 0
    have a1 := blk_cell H0_8.out 1
    have a2 := blk_cell H0_8.out 2
    have a3 := blk_cell H0_8.out 3
    simp only [List.getElem?_toArray, List.getElem?_cons_zero, List.getElem?_cons_succ] at a0 a1 a2 a3
    go_wp2_with fail
    refine (pupilref7_Stretched.calls 5 r c wd A cA l rows cols er w8 (Kd.C_below HCM.out HS_8.out) HH.out.2.1 (by rw [refStretched_eq, hE])).mono ?_
    rintro e w9 ⟨rfl, hb⟩
    have H2_9 := Aside0.mk (blk_below H2_8.out hb)
    have HS_9 := Aside0.mk (below_step HS_8.out hb)
    clear hb H0_8 H2_8 HS_8 a0 a1 a2 a3
    go_wp2_with fail
    refine (pupillaw7_num.calls er er w9 rfl).mono ?_
    rintro e w9a ⟨rfl, hb⟩
    replace hb := hb.below
    have H2_a := Aside0.mk (blk_below H2_9.out hb)
    have HS_a := Aside0.mk (below_step HS_9.out hb)
    clear hb H2_9 HS_9
    have c0 := blk_cell H2_a.out 0
    have c1 := blk_cell H2_a.out 1
    have c2 := blk_cell H2_a.out 2
    have c3 := blk_cell H2_a.out 3
    simp only [List.getElem?_toArray, List.getElem?_cons_zero, List.getElem?_cons_succ] at c0 c1 c2 c3
    go_wp2_with fail
    refine (pupillaw7_Exact.calls 3 0 0 0 none 0 [] 0 0 0 none 0 [] true w9a ⟨rfl, by simp, fun h => absurd h (by simp)⟩ (Nat.le_refl _) ⟨rfl, by simp, fun h => absurd h (by simp)⟩ (Nat.le_refl _) (exact_self 2 0 0 0 [] (by simp) (by simp))).mono ?_
    rintro e w9b ⟨rfl, hb⟩
    have HS_b := Aside0.mk (below_step HS_a.out hb)
    go_wp2
    go_ret
    exact ⟨rfl, below_step HB_4.out HS_b.out⟩
  · rw [if_neg hck] at hE
    rw [hE]
    go_wp2_with fail
    refine (pupillaw7_num.calls er er w8 rfl).mono ?_
    rintro e w8a ⟨rfl, hb⟩
    replace hb := hb.below
    have H2_a := Aside0.mk (blk_below H2_8.out hb)
    have HS_a := Aside0.mk (below_step HS_8.out hb)
    clear hb H2_8 HS_8
    have c0 := blk_cell H2_a.out 0
    have c1 := blk_cell H2_a.out 1
    have c2 := blk_cell H2_a.out 2
    have c3 := blk_cell H2_a.out 3
    simp only [List.getElem?_toArray, List.getElem?_cons_zero, List.getElem?_cons_succ] at c0 c1 c2 c3
    go_wp2_with fail
    refine (pupillaw7_Exact.calls 3 0 0 0 none 0 [] 0 0 0 none 0 [] true w8a ⟨rfl, by simp, fun h => absurd h (by simp)⟩ (Nat.le_refl _) ⟨rfl, by simp, fun h => absurd h (by simp)⟩ (Nat.le_refl _) (exact_self 2 0 0 0 [] (by simp) (by simp))).mono ?_
    rintro e w8b ⟨rfl, hb⟩
    have HS_b := Aside0.mk (below_step HS_a.out hb)
    go_wp2
    go_ret
    exact ⟨rfl, below_step HB_4.out HS_b.out⟩

theorem stretchE_form {r c wd : Int} {l : List Int} {rows cols : Int} (h : stretchE r c wd l rows cols = 0) : checkV r c wd l = 0 ∧ fitsV rows r = true ∧ fitsV cols c = true ∧ sizedV rows cols wd = 0 := by
  unfold stretchE at h
  by_cases h1 : checkV r c wd l = 0
  · rw [if_pos h1] at h
    by_cases h2 : fitsV rows r = true ∧ fitsV cols c = true
    · rw [if_pos h2] at h; exact ⟨h1, h2.1, h2.2, h⟩
    · rw [if_neg h2] at h; omega
  · rw [if_neg h1] at h; exact absurd h h1
theorem R_content {w W : World} {A : Option Addr} {n c : Nat} {l : List Int} (h : Ints w W (.slice A n c) l) (hn : n = l.length) : (Kd.int .i64).C W A l.length l := by
  obtain ⟨A8, c8, hv, _, hC⟩ := Kd.R_reads h
  injection hv with e1 e2 e3
  subst e1
  exact hC

def F5RT12 : Bool × List (List Nat × List Nat) := (true, [([], []), ([], []), ([], []), ([], []), ([1, 2, 3], [1, 2, 3]), ([0, 4, 4], [0, 4]), ([5, 5, 0, 1, 2, 3, 4, 5], [5])])
def F5RB12 : List Nat := [0, 0, 0, 0, 14, 31, 63]
theorem F5Rtab12 : rtab .any (opsOf Try.f5 12) = F5RT12 := by kernel_rfl
theorem F5Rbits12 : waitsOk F5RT12.2 F5RB12 = true := by kernel_rfl
def F5RT15 : Bool × List (List Nat × List Nat) := (true, [([], []), ([0], [0]), ([1], [1]), ([2, 1, 1], [1, 2]), ([3, 1], [1, 3]), ([1, 4], [1, 4]), ([5, 3], [5]), ([6], [6]), ([6, 7], [6, 7]), ([8, 6], [8]), ([9], [9]), ([9], [9]), ([9], [9]), ([9], [9]), ([11, 12, 13, 9, 9], [9, 11, 12, 13]), ([10, 14, 14, 9], [9, 10, 14]), ([9, 15], [9, 15]), ([16, 15], [16]), ([17], [17]), ([17], [17]), ([18, 19, 17, 17], [17, 18, 19]), ([17, 20], [17, 20]), ([21, 20, 0, 1, 2, 3, 4, 5, 6, 7, 8, 9, 10, 11, 12, 13, 14, 15, 16, 17, 18, 19, 20, 21], [21])])
def F5RB15 : List Nat := [0, 1, 3, 7, 15, 31, 63, 127, 255, 511, 1023, 1023, 1023, 1023, 15359, 32767, 65535, 131071, 262143, 262143, 1048575, 2097151, 4194303]
theorem F5Rtab15 : rtab .any (opsOf Try.f5 15) = F5RT15 := by kernel_rfl
theorem F5Rbits15 : waitsOk F5RT15.2 F5RB15 = true := by kernel_rfl
set_option maxHeartbeats 2000000 in
set_option maxRecDepth 100000 in
theorem str_good (r c wd : Int) (A : Option Addr) (cA : Nat) (l : List Int) (rows cols : Nat) (w : World) (hC : (Kd.int .i64).C w A l.length l) (hcA : l.length ≤ cA) (hr : InR l) (hl : l.length ≤ 5000) (hE : stretchE r c wd l rows cols = 0) :
    Calls Try.prog 5 #[.agg #[.int .i64 r, .int .i64 c, .int .i64 wd, .slice A l.length cA], .int .i64 rows, .int .i64 cols] w fun e w' => e = .returned (.bool true) ∧ Below w.heap.size w w' := by
  have HE := Aside0.mk hE
  clear hE
  have HL := Aside0.mk hl
  have d1 : decide ((5000 : Int) < (l.length : Int)) = false := decide_eq_false (by omega)
  clear hl
  have HH := Aside0.mk (And.intro hC (And.intro hcA hr))
  clear hC hcA hr
  go_enter Try.func5, Try.ntmps5
  go_wp2_with fail
  generalize hw1 : w.alloc (Obj.cells #[Value.int IntKind.i64 r, Value.int IntKind.i64 c, Value.int IntKind.i64 wd, Value.slice A l.length cA] 25) = w1
  have HB_1 : Aside0 (Below w.heap.size w w1) := ⟨by rw [← hw1]; exact below_alloc (Below.refl _ _) _⟩
  have H0_1 : Aside0 (IsB w1 w.heap.size (row4 r c wd (.slice A l.length cA)) 25) := ⟨by rw [← hw1]; exact blk_new _ _⟩
  clear hw1
  refine (alive_calls w1).mono ?_
  rintro e w2 ⟨rfl, hb⟩
  have H0_2 := Aside0.mk (blk_below H0_1.out hb)
  have HB_2 := Aside0.mk (below_step HB_1.out hb)
  clear hb H0_1 HB_1
  have a0 := blk_cell H0_2.out 0
  have a1 := blk_cell H0_2.out 1
  have a2 := blk_cell H0_2.out 2
  have a3 := blk_cell H0_2.out 3
  simp only [List.getElem?_toArray, List.getElem?_cons_zero, List.getElem?_cons_succ] at a0 a1 a2 a3
  go_wp2_with fail
  refine (lent_calls r c wd A cA l w2 (Kd.C_below HH.out.1 HB_2.out) HH.out.2.1 (by have := HL.out; omega)).mono ?_
  rintro e w3 ⟨A9, c9, rfl, hc9, hR9, hb⟩
  have H0_4 := Aside0.mk (blk_alloc (blk_below H0_2.out hb) (Obj.cells (row4 r c wd (.slice A9 l.length c9)) 25))
  have H1_4 := Aside0.mk (blk_new w3 (Obj.cells (row4 r c wd (.slice A9 l.length c9)) 25))
  have HB_4 := Aside0.mk (below_alloc (below_step HB_2.out hb) (Obj.cells (row4 r c wd (.slice A9 l.length c9)) 25))
  have hCf : (Kd.int .i64).C w3 A9 (l.length + 1) (l ++ [-71]) := by
    obtain ⟨A8, c8, hv, _, hC⟩ := Kd.R_reads hR9
    injection hv with e1 e2 e3
    subst e1
    have hll : (l ++ [(-71 : Int)]).length = l.length + 1 := by simp
    rw [hll] at hC
    exact hC
  have HCF := Aside0.mk (And.intro hc9 (Kd.C_alloc hCf (Obj.cells (row4 r c wd (.slice A9 l.length c9)) 25)))
  clear hb hR9 hc9 hCf H0_2 HB_2
  clear a0 a1 a2 a3
  go_wp2_with fail
  generalize w3.alloc (Obj.cells (row4 r c wd (.slice A9 l.length c9)) 25) = w4 at H0_4 H1_4 HB_4 HCF ⊢
  generalize w3.heap.size = g1 at H1_4 ⊢
  have HCM := Aside0.mk (Kd.C_below HH.out.1 HB_4.out)
  refine (stretch_good 8 r c wd A9 c9 l rows cols w4 (C_front HCF.out.2) (by have := HCF.out.1; omega) (by have := HL.out; omega) HE.out).mono ?_
  rintro e w5 ⟨v, rfl, hP, hb⟩
  have HP_5 := Aside0.mk hP
  have HS_5 := Aside0.mk hb
  have H0_5 := Aside0.mk (blk_below H0_4.out hb)
  have H1_5 := Aside0.mk (blk_below H1_4.out hb)
  clear hb
  obtain ⟨AG, cG, hv, hleG, hCG⟩ := Kd.R_reads hP
  have HLG := Aside0.mk hleG
  clear hP hleG hCG
  have hlen : (stretchL r c l (cleanV wd) cols rows).length ≤ 4096 := stretch_len (stretchE_form HE.out).2.2.2
  have HLN := Aside0.mk hlen
  clear hlen
  obtain ⟨LG, hLG⟩ : ∃ LG, LG = stretchL r c l (cleanV wd) cols rows := ⟨_, rfl⟩
  rw [← hLG] at HP_5 hv HLG HLN
  have HEQ := Aside0.mk hLG
  clear hLG
  obtain ⟨ln, hln⟩ : ∃ ln, ln = LG.length := ⟨_, rfl⟩
  rw [← hln] at hv
  have HNG := Aside0.mk hln
  clear hln
  subst hv
  have H0_6 := Aside0.mk (blk_alloc H0_5.out (Obj.cells (row4 rows cols wd (.slice AG ln cG)) 25))
  have H1_6 := Aside0.mk (blk_alloc H1_5.out (Obj.cells (row4 rows cols wd (.slice AG ln cG)) 25))
  have H2_6 := Aside0.mk (blk_new w5 (Obj.cells (row4 rows cols wd (.slice AG ln cG)) 25))
  have HP_6 := Aside0.mk (Kd.R_alloc HP_5.out (Obj.cells (row4 rows cols wd (.slice AG ln cG)) 25))
  have HS_6 := Aside0.mk (below_alloc HS_5.out (Obj.cells (row4 rows cols wd (.slice AG ln cG)) 25))
  clear H0_5 H1_5 HS_5 HP_5
  have a0 := blk_cell H0_6.out 0
  have a1 := blk_cell H0_6.out 1
  have a2 := blk_cell H0_6.out 2
  have a3 := blk_cell H0_6.out 3
  simp only [List.getElem?_toArray, List.getElem?_cons_zero, List.getElem?_cons_succ] at a0 a1 a2 a3
  have b0 := blk_cell H1_6.out 0
  have b1 := blk_cell H1_6.out 1
  have b2 := blk_cell H1_6.out 2
  have b3 := blk_cell H1_6.out 3
  simp only [List.getElem?_toArray, List.getElem?_cons_zero, List.getElem?_cons_succ] at b0 b1 b2 b3
  go_wp2_with fail
  generalize w5.alloc (Obj.cells (row4 rows cols wd (.slice AG ln cG)) 25) = w6 at H0_6 H1_6 H2_6 HP_6 HS_6 ⊢
  generalize w5.heap.size = g2 at H2_6 ⊢
  clear a0 a1 a2 a3 b0 b1 b2 b3
  refine (stays_calls r c wd A A9 cA c9 l w6 (Kd.C_below HCM.out HS_6.out) HH.out.2.1 (by have := HL.out; omega) (Kd.C_below HCF.out.2 HS_6.out) HCF.out.1).mono ?_
  rintro e w7 ⟨rfl, hb⟩
  have H0_7 := Aside0.mk (blk_below H0_6.out hb)
  have H1_7 := Aside0.mk (blk_below H1_6.out hb)
  have H2_7 := Aside0.mk (blk_below H2_6.out hb)
  have HP_7 := Aside0.mk (Kd.R_below HP_6.out hb)
  have HS_7 := Aside0.mk (below_step HS_6.out hb)
  clear hb H0_6 H1_6 H2_6 HP_6 HS_6
  have a0 := blk_cell H0_7.out 0
  have a1 := blk_cell H0_7.out 1
  have a2 := blk_cell H0_7.out 2
  have a3 := blk_cell H0_7.out 3
  simp only [List.getElem?_toArray, List.getElem?_cons_zero, List.getElem?_cons_succ] at a0 a1 a2 a3
  go_wp2_with fail
  refine (pupilref7_Check.calls (2 * (l.length + 1)) r c wd A cA l 0 w7 (Kd.C_below HCM.out HS_7.out) HH.out.2.1 (by rw [refCheck_eq _ r c wd l (by have := HL.out; omega) (by omega), (stretchE_form HE.out).1])).mono ?_
  rintro e w8 ⟨rfl, hb⟩
  have H0_8 := Aside0.mk (blk_below H0_7.out hb)
  have H1_8 := Aside0.mk (blk_below H1_7.out hb)
  have H2_8 := Aside0.mk (blk_below H2_7.out hb)
  have HP_8 := Aside0.mk (Kd.R_below HP_7.out hb)
  have HS_8 := Aside0.mk (below_step HS_7.out hb)
  clear hb H0_7 H1_7 H2_7 HP_7 HS_7 a0 a1 a2 a3
  have a0 := blk_cell H0_8.out 0
  have a1 := blk_cell H0_8.out 1
  have a2 := blk_cell H0_8.out 2
  have a3 := blk_cell H0_8.out 3
  simp only [List.getElem?_toArray, List.getElem?_cons_zero, List.getElem?_cons_succ] at a0 a1 a2 a3
  go_wp2_with fail
  refine (pupilref7_Stretched.calls 5 r c wd A cA l rows cols 0 w8 (Kd.C_below HCM.out HS_8.out) HH.out.2.1 (by rw [refStretched_eq, if_pos (And.intro (stretchE_form HE.out).2.1 (stretchE_form HE.out).2.2.1), (stretchE_form HE.out).2.2.2])).mono ?_
  rintro e w9 ⟨rfl, hb⟩
  have H0_9 := Aside0.mk (blk_below H0_8.out hb)
  have H1_9 := Aside0.mk (blk_below H1_8.out hb)
  have H2_9 := Aside0.mk (blk_below H2_8.out hb)
  have HP_9 := Aside0.mk (Kd.R_below HP_8.out hb)
  have HS_9 := Aside0.mk (below_step HS_8.out hb)
  clear hb H0_8 H1_8 H2_8 HP_8 HS_8 a0 a1 a2 a3
  have a0 := blk_cell H0_9.out 0
  have a1 := blk_cell H0_9.out 1
  have a2 := blk_cell H0_9.out 2
  have a3 := blk_cell H0_9.out 3
  simp only [List.getElem?_toArray, List.getElem?_cons_zero, List.getElem?_cons_succ] at a0 a1 a2 a3
  have b0 := blk_cell H2_9.out 0
  have b1 := blk_cell H2_9.out 1
  have b2 := blk_cell H2_9.out 2
  have b3 := blk_cell H2_9.out 3
  simp only [List.getElem?_toArray, List.getElem?_cons_zero, List.getElem?_cons_succ] at b0 b1 b2 b3
  go_wp2
  refine start_ (n := 7) (S := fun w' => w'.cell? ⟨w.heap.size, 0, none⟩ = some (.int .i64 r) ∧ w'.cell? ⟨w.heap.size, 1, none⟩ = some (.int .i64 c) ∧ w'.cell? ⟨w.heap.size, 2, none⟩ = some (.int .i64 wd) ∧ w'.cell? ⟨w.heap.size, 3, none⟩ = some (.slice A l.length cA) ∧ w'.cell? ⟨g2, 0, none⟩ = some (.int .i64 rows) ∧ w'.cell? ⟨g2, 1, none⟩ = some (.int .i64 cols) ∧ w'.cell? ⟨g2, 2, none⟩ = some (.int .i64 wd) ∧ w'.cell? ⟨g2, 3, none⟩ = some (.slice AG ln cG)) (ds := []) #[false, false, false, false, false, false, false] (by kernel_rfl) rfl rfl ⟨a0, a1, a2, a3, b0, b1, b2, b3⟩ (fun hHeld => ?_)
  refine with_tabW F5Rtab12 F5Rbits12 (fun HT_ HW_ => ?_)
  refine pure_ (i := 2) (N := some 62) (v := ?_) (a' := ?_) #[false, false, true, false, false, false, false] rfl rfl (any_of HT_.out (by kernel_rfl)) (fun _ _ _ h => h) (Or.inl ⟨by rfl, ?_⟩) ?_ ?_
  rotate_left
  · intro w'
    go_simp
    with_reducible rfl
  rotate_left
  · simp only [Act.put, List.setIfInBounds_toArray, List.set_cons_zero, List.set_cons_succ, i64_w, i32_w]
    rfl
  refine pure_ (i := 3) (N := some 63) (v := ?_) (a' := ?_) #[false, false, true, true, false, false, false] rfl rfl (any_of HT_.out (by kernel_rfl)) (fun _ _ _ h => h) (Or.inl ⟨by rfl, ?_⟩) ?_ ?_
  rotate_left
  · intro w'
    go_simp
    with_reducible rfl
  rotate_left
  · simp only [Act.put, List.setIfInBounds_toArray, List.set_cons_zero, List.set_cons_succ, i64_w, i32_w]
    rfl
  refine take_ (i := 0) (N := some 60) (v := ?_) (a' := ?_) #[true, false, true, true, false, false, false] rfl rfl (take_ofW HT_.out HW_.out (by kernel_rfl)) (fun _ _ _ h => h) (Or.inl ⟨by rfl, ?_⟩) hHeld ?_ ?_
  rotate_left
  · rintro w' ⟨s0, s1, s2, s3, s4, s5, s6, s7⟩
    go_simp
    with_reducible rfl
  rotate_left
  · simp only [Act.put, List.setIfInBounds_toArray, List.set_cons_zero, List.set_cons_succ, i64_w, i32_w]
    rfl
  refine take_ (i := 1) (N := some 61) (v := ?_) (a' := ?_) #[true, true, true, true, false, false, false] rfl rfl (take_ofW HT_.out HW_.out (by kernel_rfl)) (fun _ _ _ h => h) (Or.inl ⟨by rfl, ?_⟩) hHeld ?_ ?_
  rotate_left
  · rintro w' ⟨s0, s1, s2, s3, s4, s5, s6, s7⟩
    go_simp
    with_reducible rfl
  rotate_left
  · simp only [Act.put, List.setIfInBounds_toArray, List.set_cons_zero, List.set_cons_succ, i64_w, i32_w]
    rfl
  refine one_ (i := 4) (N := some 64) #[true, true, true, true, true, false, false] rfl rfl (one_of HT_.out (by kernel_rfl)) (by decide) (fun K hK => ?_)
  refine goes_ Try.func25 (by kernel_rfl) rfl #[.agg #[.int .i64 r, .int .i64 c, .int .i64 wd, .slice A l.length cA], .int .i64 rows, .int .i64 cols] (by rfl) rfl rfl (by simp only [List.map_toArray, List.map_cons, List.map_nil]; rfl) ?_
  with_reducible refine (refStretch_calls r c wd A cA l rows cols _ (Kd.C_below HCM.out (Below.drew HS_9.out)) HH.out.2.1 (by have := HL.out; omega) HE.out HH.out.2.2).mono ?_
  rintro e w10 ⟨v10, rfl, hP10, hb⟩
  refine ⟨_, rfl, ?_⟩
  have H0_10 := Aside0.mk (blk_below (blk_drew H0_9.out) hb)
  have H1_10 := Aside0.mk (blk_below (blk_drew H1_9.out) hb)
  have H2_10 := Aside0.mk (blk_below (blk_drew H2_9.out) hb)
  have HP_10 := Aside0.mk (Kd.R_below (Kd.R_drew HP_9.out) hb)
  have HS_10 := Aside0.mk (below_step (Below.drew HS_9.out) hb)
  obtain ⟨AQ, cQ, hvQ, hleQ, hCQ⟩ := Kd.R_reads hP10
  rw [← HEQ.out] at hvQ hleQ hCQ
  rw [← HNG.out] at hvQ
  subst hvQ
  have a0 := blk_cell H0_10.out 0
  have a1 := blk_cell H0_10.out 1
  have a2 := blk_cell H0_10.out 2
  have a3 := blk_cell H0_10.out 3
  simp only [List.getElem?_toArray, List.getElem?_cons_zero, List.getElem?_cons_succ] at a0 a1 a2 a3
  have b0 := blk_cell H2_10.out 0
  have b1 := blk_cell H2_10.out 1
  have b2 := blk_cell H2_10.out 2
  have b3 := blk_cell H2_10.out 3
  simp only [List.getElem?_toArray, List.getElem?_cons_zero, List.getElem?_cons_succ] at b0 b1 b2 b3
  refine hK.out _ _ ⟨a0, a1, a2, a3, b0, b1, b2, b3⟩ (fun hHeld => ?_)
  clear hK K
  refine norm_ (a' := ?_) ?_ ?_
  rotate_left
  · show Act.put _ (some 64) _ = _
    simp only [Act.put, List.setIfInBounds_toArray, List.set_cons_zero, List.set_cons_succ, i64_w, i32_w]
    rfl
  refine one_ (i := 5) (N := some 65) #[true, true, true, true, true, true, false] rfl rfl (one_of HT_.out (by kernel_rfl)) (by decide) (fun K hK => ?_)
  have HX := pupillaw7_Exact.calls (LG.length.succ + 1) rows cols wd AG cG LG rows cols wd AQ cQ LG true w10 (R_content HP_10.out HNG.out) HLG.out hCQ hleQ (exact_self LG.length.succ _ _ _ LG (by have := HLN.out; omega) (by omega))
  rw [← HNG.out] at HX
  refine goes_ Try.func16 (by kernel_rfl) rfl #[.agg #[.int .i64 rows, .int .i64 cols, .int .i64 wd, .slice AG ln cG], .agg #[.int .i64 rows, .int .i64 cols, .int .i64 wd, .slice AQ ln cQ]] (by rfl) rfl rfl (by simp only [List.map_toArray, List.map_cons, List.map_nil]; rfl) ?_
  refine HX.mono ?_
  rintro e w11 ⟨rfl, hb11⟩
  refine ⟨_, rfl, ?_⟩
  have H0_11 := Aside0.mk (blk_below H0_10.out hb11)
  have H1_11 := Aside0.mk (blk_below H1_10.out hb11)
  have H2_11 := Aside0.mk (blk_below H2_10.out hb11)
  have HP_11 := Aside0.mk (Kd.R_below HP_10.out hb11)
  have HS_11 := Aside0.mk (below_step HS_10.out hb11)
  have a0 := blk_cell H0_11.out 0
  have a1 := blk_cell H0_11.out 1
  have a2 := blk_cell H0_11.out 2
  have a3 := blk_cell H0_11.out 3
  simp only [List.getElem?_toArray, List.getElem?_cons_zero, List.getElem?_cons_succ] at a0 a1 a2 a3
  have b0 := blk_cell H2_11.out 0
  have b1 := blk_cell H2_11.out 1
  have b2 := blk_cell H2_11.out 2
  have b3 := blk_cell H2_11.out 3
  simp only [List.getElem?_toArray, List.getElem?_cons_zero, List.getElem?_cons_succ] at b0 b1 b2 b3
  refine hK.out _ _ ⟨a0, a1, a2, a3, b0, b1, b2, b3⟩ (fun hHeld => ?_)
  clear hK K
  refine norm_ (a' := ?_) ?_ ?_
  rotate_left
  · show Act.put _ (some 65) _ = _
    simp only [Act.put, List.setIfInBounds_toArray, List.set_cons_zero, List.set_cons_succ, i64_w, i32_w]
    rfl
  refine pure_ (i := 6) (N := some 13) (v := ?_) (a' := ?_) #[true, true, true, true, true, true, true] rfl rfl (any_of HT_.out (by kernel_rfl)) (fun _ _ _ h => h) (Or.inl ⟨by rfl, ?_⟩) ?_ ?_
  rotate_left
  · intro w'
    go_simp
    with_reducible rfl
  rotate_left
  · simp only [Act.put, List.setIfInBounds_toArray, List.set_cons_zero, List.set_cons_succ, i64_w, i32_w]
    rfl
  refine done_ (done_of HT_.out (by kernel_rfl)) ?_
  go_wp2_with fail
  have hsp := spoil_calls rows cols wd AG cG LG w4 w11 (by rw [← HNG.out]; exact HP_11.out) HS_11.out (by have := HLN.out; omega)
  rw [← HNG.out] at hsp
  refine hsp.mono ?_
  rintro e w12 ⟨u12, rfl, hS12, hk12⟩
  clear hsp
  have H0_12 := Aside0.mk (blk_below H0_4.out hS12)
  have H1_12 := Aside0.mk (blk_below H1_4.out hS12)
  have HS_12 := Aside0.mk hS12
  clear hS12 hk12
  clear a0 a1 a2 a3 b0 b1 b2 b3
  have a0 := blk_cell H0_12.out 0
  have a1 := blk_cell H0_12.out 1
  have a2 := blk_cell H0_12.out 2
  have a3 := blk_cell H0_12.out 3
  simp only [List.getElem?_toArray, List.getElem?_cons_zero, List.getElem?_cons_succ] at a0 a1 a2 a3
  go_wp2_with fail
  refine (stretch_good 8 r c wd A cA l rows cols w12 (Kd.C_below HCM.out HS_12.out) HH.out.2.1 (by have := HL.out; omega) HE.out).mono ?_
  rintro e w13 ⟨v13, rfl, hP13, hb⟩
  have HS_13 := Aside0.mk (below_step HS_12.out hb)
  have H0_13 := Aside0.mk (blk_below H0_12.out hb)
  have H1_13 := Aside0.mk (blk_below H1_12.out hb)
  rw [← HEQ.out] at hP13
  have HP_13 := Aside0.mk hP13
  obtain ⟨AN, cN, hvN, hleN, hCN⟩ := Kd.R_reads hP13
  rw [← HNG.out] at hvN
  subst hvN
  have HCN := Aside0.mk (And.intro hleN hCN)
  clear hP13 hleN hCN hb H0_12 H1_12 HS_12 a0 a1 a2 a3
  have H0_14 := Aside0.mk (blk_alloc H0_13.out (Obj.cells (row4 rows cols wd (.slice AN ln cN)) 25))
  have H1_14 := Aside0.mk (blk_alloc H1_13.out (Obj.cells (row4 rows cols wd (.slice AN ln cN)) 25))
  have H2_14 := Aside0.mk (blk_new w13 (Obj.cells (row4 rows cols wd (.slice AN ln cN)) 25))
  have HC_14 := Aside0.mk (Kd.C_alloc HCN.out.2 (Obj.cells (row4 rows cols wd (.slice AN ln cN)) 25))
  have HS_14 := Aside0.mk (below_alloc HS_13.out (Obj.cells (row4 rows cols wd (.slice AN ln cN)) 25))
  clear H0_13 H1_13 HS_13 HP_13
  go_wp2
  generalize w13.alloc (Obj.cells (row4 rows cols wd (.slice AN ln cN)) 25) = w14 at H0_14 H1_14 H2_14 HC_14 HS_14 ⊢
  generalize w13.heap.size = g3 at H2_14 ⊢
  have a0 := blk_cell H0_14.out 0
  have a1 := blk_cell H0_14.out 1
  have a2 := blk_cell H0_14.out 2
  have a3 := blk_cell H0_14.out 3
  simp only [List.getElem?_toArray, List.getElem?_cons_zero, List.getElem?_cons_succ] at a0 a1 a2 a3
  have b0 := blk_cell H1_14.out 0
  have b1 := blk_cell H1_14.out 1
  have b2 := blk_cell H1_14.out 2
  have b3 := blk_cell H1_14.out 3
  simp only [List.getElem?_toArray, List.getElem?_cons_zero, List.getElem?_cons_succ] at b0 b1 b2 b3
  have n0 := blk_cell H2_14.out 0
  have n1 := blk_cell H2_14.out 1
  have n2 := blk_cell H2_14.out 2
  have n3 := blk_cell H2_14.out 3
  simp only [List.getElem?_toArray, List.getElem?_cons_zero, List.getElem?_cons_succ] at n0 n1 n2 n3
  refine start_ (n := 23) (S := fun w' => w'.cell? ⟨w.heap.size, 0, none⟩ = some (.int .i64 r) ∧ w'.cell? ⟨w.heap.size, 1, none⟩ = some (.int .i64 c) ∧ w'.cell? ⟨w.heap.size, 2, none⟩ = some (.int .i64 wd) ∧ w'.cell? ⟨w.heap.size, 3, none⟩ = some (.slice A l.length cA) ∧ w'.cell? ⟨g1, 0, none⟩ = some (.int .i64 r) ∧ w'.cell? ⟨g1, 1, none⟩ = some (.int .i64 c) ∧ w'.cell? ⟨g1, 2, none⟩ = some (.int .i64 wd) ∧ w'.cell? ⟨g1, 3, none⟩ = some (.slice A9 l.length c9) ∧ w'.cell? ⟨g3, 0, none⟩ = some (.int .i64 rows) ∧ w'.cell? ⟨g3, 1, none⟩ = some (.int .i64 cols) ∧ w'.cell? ⟨g3, 2, none⟩ = some (.int .i64 wd) ∧ w'.cell? ⟨g3, 3, none⟩ = some (.slice AN ln cN)) (ds := []) #[false, false, false, false, false, false, false, false, false, false, false, false, false, false, false, false, false, false, false, false, false, false, false] (by kernel_rfl) rfl rfl ⟨a0, a1, a2, a3, b0, b1, b2, b3, n0, n1, n2, n3⟩ (fun hHeld => ?_)
  refine with_tabW F5Rtab15 F5Rbits15 (fun HT_ HW_ => ?_)
  refine pure_ (i := 0) (N := some 75) (v := ?_) (a' := ?_) #[true, false, false, false, false, false, false, false, false, false, false, false, false, false, false, false, false, false, false, false, false, false, false] rfl rfl (any_of HT_.out (by kernel_rfl)) (fun _ _ _ h => h) (Or.inl ⟨by rfl, ?_⟩) ?_ ?_
  rotate_left
  · intro w'
    go_simp
    with_reducible rfl
  rotate_left
  · simp only [Act.put, List.setIfInBounds_toArray, List.set_cons_zero, List.set_cons_succ, i64_w, i32_w]
    rfl
  refine pure_ (i := 1) (N := some 76) (v := ?_) (a' := ?_) #[true, true, false, false, false, false, false, false, false, false, false, false, false, false, false, false, false, false, false, false, false, false, false] rfl rfl (any_of HT_.out (by kernel_rfl)) (fun _ _ _ h => h) (Or.inl ⟨by rfl, ?_⟩) ?_ ?_
  rotate_left
  · intro w'
    go_simp
    with_reducible rfl
  rotate_left
  · simp only [Act.put, List.setIfInBounds_toArray, List.set_cons_zero, List.set_cons_succ, i64_w, i32_w]
    rfl
  refine pure_ (i := 2) (N := some 77) (v := ?_) (a' := ?_) #[true, true, true, false, false, false, false, false, false, false, false, false, false, false, false, false, false, false, false, false, false, false, false] rfl rfl (any_of HT_.out (by kernel_rfl)) (fun _ _ _ h => h) (Or.inl ⟨by rfl, ?_⟩) ?_ ?_
  rotate_left
  · intro w'
    go_simp
    with_reducible rfl
  rotate_left
  · simp only [Act.put, List.setIfInBounds_toArray, List.set_cons_zero, List.set_cons_succ, i64_w, i32_w]
    rfl
  refine one_ (i := 3) (N := some 78) #[true, true, true, true, false, false, false, false, false, false, false, false, false, false, false, false, false, false, false, false, false, false, false] rfl rfl (one_of HT_.out (by kernel_rfl)) (by decide) (fun K hK => ?_)
  refine goes_ Try.func15 (by kernel_rfl) rfl #[.int .i64 0] (by rfl) rfl rfl (by simp only [List.map_toArray, List.map_cons, List.map_nil]; rfl) ?_
  with_reducible refine (pupillaw7_num.calls 0 0 _ rfl).mono ?_
  rintro e w15 ⟨rfl, hb⟩
  refine ⟨_, rfl, ?_⟩
  replace hb := hb.below
  have H0_15 := Aside0.mk (blk_below (blk_drew H0_14.out) hb)
  have H1_15 := Aside0.mk (blk_below (blk_drew H1_14.out) hb)
  have H2_15 := Aside0.mk (blk_below (blk_drew H2_14.out) hb)
  have HC_15 := Aside0.mk (Kd.C_below (Kd.C_drew HC_14.out) hb)
  have HS_15 := Aside0.mk (below_step (Below.drew HS_14.out) hb)
  have a0 := blk_cell H0_15.out 0
  have a1 := blk_cell H0_15.out 1
  have a2 := blk_cell H0_15.out 2
  have a3 := blk_cell H0_15.out 3
  simp only [List.getElem?_toArray, List.getElem?_cons_zero, List.getElem?_cons_succ] at a0 a1 a2 a3
  have b0 := blk_cell H1_15.out 0
  have b1 := blk_cell H1_15.out 1
  have b2 := blk_cell H1_15.out 2
  have b3 := blk_cell H1_15.out 3
  simp only [List.getElem?_toArray, List.getElem?_cons_zero, List.getElem?_cons_succ] at b0 b1 b2 b3
  have n0 := blk_cell H2_15.out 0
  have n1 := blk_cell H2_15.out 1
  have n2 := blk_cell H2_15.out 2
  have n3 := blk_cell H2_15.out 3
  simp only [List.getElem?_toArray, List.getElem?_cons_zero, List.getElem?_cons_succ] at n0 n1 n2 n3
  refine hK.out _ _ ⟨a0, a1, a2, a3, b0, b1, b2, b3, n0, n1, n2, n3⟩ (fun hHeld => ?_)
  clear hK K
  refine norm_ (a' := ?_) ?_ ?_
  rotate_left
  · show Act.put _ (some 78) _ = _
    simp only [Act.put, List.setIfInBounds_toArray, List.set_cons_zero, List.set_cons_succ, i64_w, i32_w]
    rfl
  refine pure_ (i := 4) (N := some 79) (v := ?_) (a' := ?_) #[true, true, true, true, true, false, false, false, false, false, false, false, false, false, false, false, false, false, false, false, false, false, false] rfl rfl (any_of HT_.out (by kernel_rfl)) (fun _ _ _ h => h) (Or.inl ⟨by rfl, ?_⟩) ?_ ?_
  rotate_left
  · intro w'
    go_simp
    with_reducible rfl
  rotate_left
  · simp only [Act.put, List.setIfInBounds_toArray, List.set_cons_zero, List.set_cons_succ, i64_w, i32_w]
    rfl
  refine pure_ (i := 5) (N := some 80) (v := ?_) (a' := ?_) #[true, true, true, true, true, true, false, false, false, false, false, false, false, false, false, false, false, false, false, false, false, false, false] rfl rfl (any_of HT_.out (by kernel_rfl)) (fun _ _ _ h => h) (Or.inl ⟨by rfl, ?_⟩) ?_ ?_
  rotate_left
  · intro w'
    go_simp
    with_reducible rfl
  rotate_left
  · simp only [Act.put, List.setIfInBounds_toArray, List.set_cons_zero, List.set_cons_succ, i64_w, i32_w]
    rfl
  refine pure_ (i := 6) (N := some 81) (v := ?_) (a' := ?_) #[true, true, true, true, true, true, true, false, false, false, false, false, false, false, false, false, false, false, false, false, false, false, false] rfl rfl (any_of HT_.out (by kernel_rfl)) (fun _ _ _ h => h) (Or.inl ⟨by rfl, ?_⟩) ?_ ?_
  rotate_left
  · intro w'
    go_simp
    with_reducible rfl
  rotate_left
  · simp only [Act.put, List.setIfInBounds_toArray, List.set_cons_zero, List.set_cons_succ, i64_w, i32_w]
    rfl
  refine pure_ (i := 7) (N := some 82) (v := ?_) (a' := ?_) #[true, true, true, true, true, true, true, true, false, false, false, false, false, false, false, false, false, false, false, false, false, false, false] rfl rfl (any_of HT_.out (by kernel_rfl)) (fun _ _ _ h => h) (Or.inl ⟨by rfl, ?_⟩) ?_ ?_
  rotate_left
  · intro w'
    go_simp
    with_reducible rfl
  rotate_left
  · simp only [Act.put, List.setIfInBounds_toArray, List.set_cons_zero, List.set_cons_succ, i64_w, i32_w]
    rfl
  refine pure_ (i := 8) (N := some 83) (v := ?_) (a' := ?_) #[true, true, true, true, true, true, true, true, true, false, false, false, false, false, false, false, false, false, false, false, false, false, false] rfl rfl (any_of HT_.out (by kernel_rfl)) (fun _ _ _ h => h) (Or.inl ⟨by rfl, ?_⟩) ?_ ?_
  rotate_left
  · intro w'
    go_simp
    with_reducible rfl
  rotate_left
  · simp only [Act.put, List.setIfInBounds_toArray, List.set_cons_zero, List.set_cons_succ, i64_w, i32_w]
    rfl
  refine pure_ (i := 9) (N := some 84) (v := ?_) (a' := ?_) #[true, true, true, true, true, true, true, true, true, true, false, false, false, false, false, false, false, false, false, false, false, false, false] rfl rfl (any_of HT_.out (by kernel_rfl)) (fun _ _ _ h => h) (Or.inl ⟨by rfl, ?_⟩) ?_ ?_
  rotate_left
  · intro w'
    go_simp
    with_reducible rfl
  rotate_left
  · simp only [Act.put, List.setIfInBounds_toArray, List.set_cons_zero, List.set_cons_succ, i64_w, i32_w]
    rfl
  refine pure_ (i := 12) (N := some 87) (v := ?_) (a' := ?_) #[true, true, true, true, true, true, true, true, true, true, false, false, true, false, false, false, false, false, false, false, false, false, false] rfl rfl (any_of HT_.out (by kernel_rfl)) (fun _ _ _ h => h) (Or.inl ⟨by rfl, ?_⟩) ?_ ?_
  rotate_left
  · intro w'
    go_simp
    with_reducible rfl
  rotate_left
  · simp only [Act.put, List.setIfInBounds_toArray, List.set_cons_zero, List.set_cons_succ, i64_w, i32_w]
    rfl
  refine pure_ (i := 13) (N := some 88) (v := ?_) (a' := ?_) #[true, true, true, true, true, true, true, true, true, true, false, false, true, true, false, false, false, false, false, false, false, false, false] rfl rfl (any_of HT_.out (by kernel_rfl)) (fun _ _ _ h => h) (Or.inl ⟨by rfl, ?_⟩) ?_ ?_
  rotate_left
  · intro w'
    go_simp
    with_reducible rfl
  rotate_left
  · simp only [Act.put, List.setIfInBounds_toArray, List.set_cons_zero, List.set_cons_succ, i64_w, i32_w]
    rfl
  refine take_ (i := 10) (N := some 85) (v := ?_) (a' := ?_) #[true, true, true, true, true, true, true, true, true, true, true, false, true, true, false, false, false, false, false, false, false, false, false] rfl rfl (take_ofW HT_.out HW_.out (by kernel_rfl)) (fun _ _ _ h => h) (Or.inl ⟨by rfl, ?_⟩) hHeld ?_ ?_
  rotate_left
  · rintro w' ⟨s0, s1, s2, s3, s4, s5, s6, s7, s8, s9, s10, s11⟩
    go_simp
    with_reducible rfl
  rotate_left
  · simp only [Act.put, List.setIfInBounds_toArray, List.set_cons_zero, List.set_cons_succ, i64_w, i32_w]
    rfl
  refine take_ (i := 11) (N := some 86) (v := ?_) (a' := ?_) #[true, true, true, true, true, true, true, true, true, true, true, true, true, true, false, false, false, false, false, false, false, false, false] rfl rfl (take_ofW HT_.out HW_.out (by kernel_rfl)) (fun _ _ _ h => h) (Or.inl ⟨by rfl, ?_⟩) hHeld ?_ ?_
  rotate_left
  · rintro w' ⟨s0, s1, s2, s3, s4, s5, s6, s7, s8, s9, s10, s11⟩
    go_simp
    with_reducible rfl
  rotate_left
  · simp only [Act.put, List.setIfInBounds_toArray, List.set_cons_zero, List.set_cons_succ, i64_w, i32_w]
    rfl
  refine one_ (i := 14) (N := some 89) #[true, true, true, true, true, true, true, true, true, true, true, true, true, true, true, false, false, false, false, false, false, false, false] rfl rfl (one_of HT_.out (by kernel_rfl)) (by decide) (fun K hK => ?_)
  refine goes_ Try.func25 (by kernel_rfl) rfl #[.agg #[.int .i64 r, .int .i64 c, .int .i64 wd, .slice A l.length cA], .int .i64 rows, .int .i64 cols] (by rfl) rfl rfl (by simp only [List.map_toArray, List.map_cons, List.map_nil]; rfl) ?_
  with_reducible refine (refStretch_calls r c wd A cA l rows cols _ (Kd.C_below HCM.out HS_15.out) HH.out.2.1 (by have := HL.out; omega) HE.out HH.out.2.2).mono ?_
  rintro e w16 ⟨v16, rfl, hP16, hb16⟩
  refine ⟨_, rfl, ?_⟩
  have H0_16 := Aside0.mk (blk_below H0_15.out hb16)
  have H1_16 := Aside0.mk (blk_below H1_15.out hb16)
  have H2_16 := Aside0.mk (blk_below H2_15.out hb16)
  have HC_16 := Aside0.mk (Kd.C_below HC_15.out hb16)
  have HS_16 := Aside0.mk (below_step HS_15.out hb16)
  obtain ⟨AQ, cQ, hvQ, hleQ, hCQ⟩ := Kd.R_reads hP16
  rw [← HEQ.out] at hvQ hleQ hCQ
  rw [← HNG.out] at hvQ
  subst hvQ
  have a0 := blk_cell H0_16.out 0
  have a1 := blk_cell H0_16.out 1
  have a2 := blk_cell H0_16.out 2
  have a3 := blk_cell H0_16.out 3
  simp only [List.getElem?_toArray, List.getElem?_cons_zero, List.getElem?_cons_succ] at a0 a1 a2 a3
  have b0 := blk_cell H1_16.out 0
  have b1 := blk_cell H1_16.out 1
  have b2 := blk_cell H1_16.out 2
  have b3 := blk_cell H1_16.out 3
  simp only [List.getElem?_toArray, List.getElem?_cons_zero, List.getElem?_cons_succ] at b0 b1 b2 b3
  have n0 := blk_cell H2_16.out 0
  have n1 := blk_cell H2_16.out 1
  have n2 := blk_cell H2_16.out 2
  have n3 := blk_cell H2_16.out 3
  simp only [List.getElem?_toArray, List.getElem?_cons_zero, List.getElem?_cons_succ] at n0 n1 n2 n3
  refine hK.out _ _ ⟨a0, a1, a2, a3, b0, b1, b2, b3, n0, n1, n2, n3⟩ (fun hHeld => ?_)
  clear hK K
  refine norm_ (a' := ?_) ?_ ?_
  rotate_left
  · show Act.put _ (some 89) _ = _
    simp only [Act.put, List.setIfInBounds_toArray, List.set_cons_zero, List.set_cons_succ, i64_w, i32_w]
    rfl
  refine one_ (i := 15) (N := some 90) #[true, true, true, true, true, true, true, true, true, true, true, true, true, true, true, true, false, false, false, false, false, false, false] rfl rfl (one_of HT_.out (by kernel_rfl)) (by decide) (fun K hK => ?_)
  have HX := pupillaw7_Exact.calls (LG.length.succ + 1) rows cols wd AN cN LG rows cols wd AQ cQ LG true w16 HC_16.out HCN.out.1 hCQ hleQ (exact_self LG.length.succ _ _ _ LG (by have := HLN.out; omega) (by omega))
  rw [← HNG.out] at HX
  refine goes_ Try.func16 (by kernel_rfl) rfl #[.agg #[.int .i64 rows, .int .i64 cols, .int .i64 wd, .slice AN ln cN], .agg #[.int .i64 rows, .int .i64 cols, .int .i64 wd, .slice AQ ln cQ]] (by rfl) rfl rfl (by simp only [List.map_toArray, List.map_cons, List.map_nil]; rfl) ?_
  refine HX.mono ?_
  rintro e w17 ⟨rfl, hb17⟩
  refine ⟨_, rfl, ?_⟩
  have H0_17 := Aside0.mk (blk_below H0_16.out hb17)
  have H1_17 := Aside0.mk (blk_below H1_16.out hb17)
  have H2_17 := Aside0.mk (blk_below H2_16.out hb17)
  have HS_17 := Aside0.mk (below_step HS_16.out hb17)
  have a0 := blk_cell H0_17.out 0
  have a1 := blk_cell H0_17.out 1
  have a2 := blk_cell H0_17.out 2
  have a3 := blk_cell H0_17.out 3
  simp only [List.getElem?_toArray, List.getElem?_cons_zero, List.getElem?_cons_succ] at a0 a1 a2 a3
  have b0 := blk_cell H1_17.out 0
  have b1 := blk_cell H1_17.out 1
  have b2 := blk_cell H1_17.out 2
  have b3 := blk_cell H1_17.out 3
  simp only [List.getElem?_toArray, List.getElem?_cons_zero, List.getElem?_cons_succ] at b0 b1 b2 b3
  have n0 := blk_cell H2_17.out 0
  have n1 := blk_cell H2_17.out 1
  have n2 := blk_cell H2_17.out 2
  have n3 := blk_cell H2_17.out 3
  simp only [List.getElem?_toArray, List.getElem?_cons_zero, List.getElem?_cons_succ] at n0 n1 n2 n3
  refine hK.out _ _ ⟨a0, a1, a2, a3, b0, b1, b2, b3, n0, n1, n2, n3⟩ (fun hHeld => ?_)
  clear hK K
  refine norm_ (a' := ?_) ?_ ?_
  rotate_left
  · show Act.put _ (some 90) _ = _
    simp only [Act.put, List.setIfInBounds_toArray, List.set_cons_zero, List.set_cons_succ, i64_w, i32_w]
    rfl
  refine pure_ (i := 16) (N := some 91) (v := ?_) (a' := ?_) #[true, true, true, true, true, true, true, true, true, true, true, true, true, true, true, true, true, false, false, false, false, false, false] rfl rfl (any_of HT_.out (by kernel_rfl)) (fun _ _ _ h => h) (Or.inl ⟨by rfl, ?_⟩) ?_ ?_
  rotate_left
  · intro w'
    go_simp
    with_reducible rfl
  rotate_left
  · simp only [Act.put, List.setIfInBounds_toArray, List.set_cons_zero, List.set_cons_succ, i64_w, i32_w]
    rfl
  refine pure_ (i := 17) (N := some 92) (v := ?_) (a' := ?_) #[true, true, true, true, true, true, true, true, true, true, true, true, true, true, true, true, true, true, false, false, false, false, false] rfl rfl (any_of HT_.out (by kernel_rfl)) (fun _ _ _ h => h) (Or.inl ⟨by rfl, ?_⟩) ?_ ?_
  rotate_left
  · intro w'
    go_simp
    with_reducible rfl
  rotate_left
  · simp only [Act.put, List.setIfInBounds_toArray, List.set_cons_zero, List.set_cons_succ, i64_w, i32_w]
    rfl
  refine take_ (i := 18) (N := some 93) (v := ?_) (a' := ?_) #[true, true, true, true, true, true, true, true, true, true, true, true, true, true, true, true, true, true, true, false, false, false, false] rfl rfl (take_ofW HT_.out HW_.out (by kernel_rfl)) (fun _ _ _ h => h) (Or.inl ⟨by rfl, ?_⟩) hHeld ?_ ?_
  rotate_left
  · rintro w' ⟨s0, s1, s2, s3, s4, s5, s6, s7, s8, s9, s10, s11⟩
    go_simp
    with_reducible rfl
  rotate_left
  · simp only [Act.put, List.setIfInBounds_toArray, List.set_cons_zero, List.set_cons_succ, i64_w, i32_w]
    rfl
  refine take_ (i := 19) (N := some 94) (v := ?_) (a' := ?_) #[true, true, true, true, true, true, true, true, true, true, true, true, true, true, true, true, true, true, true, true, false, false, false] rfl rfl (take_ofW HT_.out HW_.out (by kernel_rfl)) (fun _ _ _ h => h) (Or.inl ⟨by rfl, ?_⟩) hHeld ?_ ?_
  rotate_left
  · rintro w' ⟨s0, s1, s2, s3, s4, s5, s6, s7, s8, s9, s10, s11⟩
    go_simp
    with_reducible rfl
  rotate_left
  · simp only [Act.put, List.setIfInBounds_toArray, List.set_cons_zero, List.set_cons_succ, i64_w, i32_w]
    rfl
  refine one_ (i := 20) (N := some 95) #[true, true, true, true, true, true, true, true, true, true, true, true, true, true, true, true, true, true, true, true, true, false, false] rfl rfl (one_of HT_.out (by kernel_rfl)) (by decide) (fun K hK => ?_)
  refine goes_ Try.func22 (by kernel_rfl) rfl #[.agg #[.int .i64 r, .int .i64 c, .int .i64 wd, .slice A9 l.length c9], .agg #[.int .i64 r, .int .i64 c, .int .i64 wd, .slice A l.length cA]] (by rfl) rfl rfl (by simp only [List.map_toArray, List.map_cons, List.map_nil]; rfl) ?_
  with_reducible refine (stays_calls r c wd A A9 cA c9 l w17 (Kd.C_below HCM.out HS_17.out) HH.out.2.1 (by have := HL.out; omega) (Kd.C_below HCF.out.2 HS_17.out) HCF.out.1).mono ?_
  rintro e w18 ⟨rfl, hb18⟩
  refine ⟨_, rfl, ?_⟩
  have H0_18 := Aside0.mk (blk_below H0_17.out hb18)
  have H1_18 := Aside0.mk (blk_below H1_17.out hb18)
  have H2_18 := Aside0.mk (blk_below H2_17.out hb18)
  have HS_18 := Aside0.mk (below_step HS_17.out hb18)
  have a0 := blk_cell H0_18.out 0
  have a1 := blk_cell H0_18.out 1
  have a2 := blk_cell H0_18.out 2
  have a3 := blk_cell H0_18.out 3
  simp only [List.getElem?_toArray, List.getElem?_cons_zero, List.getElem?_cons_succ] at a0 a1 a2 a3
  have b0 := blk_cell H1_18.out 0
  have b1 := blk_cell H1_18.out 1
  have b2 := blk_cell H1_18.out 2
  have b3 := blk_cell H1_18.out 3
  simp only [List.getElem?_toArray, List.getElem?_cons_zero, List.getElem?_cons_succ] at b0 b1 b2 b3
  have n0 := blk_cell H2_18.out 0
  have n1 := blk_cell H2_18.out 1
  have n2 := blk_cell H2_18.out 2
  have n3 := blk_cell H2_18.out 3
  simp only [List.getElem?_toArray, List.getElem?_cons_zero, List.getElem?_cons_succ] at n0 n1 n2 n3
  refine hK.out _ _ ⟨a0, a1, a2, a3, b0, b1, b2, b3, n0, n1, n2, n3⟩ (fun hHeld => ?_)
  clear hK K
  refine norm_ (a' := ?_) ?_ ?_
  rotate_left
  · show Act.put _ (some 95) _ = _
    simp only [Act.put, List.setIfInBounds_toArray, List.set_cons_zero, List.set_cons_succ, i64_w, i32_w]
    rfl
  refine pure_ (i := 21) (N := some 96) (v := ?_) (a' := ?_) #[true, true, true, true, true, true, true, true, true, true, true, true, true, true, true, true, true, true, true, true, true, true, false] rfl rfl (any_of HT_.out (by kernel_rfl)) (fun _ _ _ h => h) (Or.inl ⟨by rfl, ?_⟩) ?_ ?_
  rotate_left
  · intro w'
    go_simp
    with_reducible rfl
  rotate_left
  · simp only [Act.put, List.setIfInBounds_toArray, List.set_cons_zero, List.set_cons_succ, i64_w, i32_w]
    rfl
  refine pure_ (i := 22) (N := some 6) (v := ?_) (a' := ?_) #[true, true, true, true, true, true, true, true, true, true, true, true, true, true, true, true, true, true, true, true, true, true, true] rfl rfl (any_of HT_.out (by kernel_rfl)) (fun _ _ _ h => h) (Or.inl ⟨by rfl, ?_⟩) ?_ ?_
  rotate_left
  · intro w'
    go_simp
    with_reducible rfl
  rotate_left
  · simp only [Act.put, List.setIfInBounds_toArray, List.set_cons_zero, List.set_cons_succ, i64_w, i32_w]
    rfl
  refine done_ (done_of HT_.out (by kernel_rfl)) ?_
  go_wp2
  go_ret
  exact ⟨rfl, below_step HB_4.out HS_18.out⟩

theorem str_calls (r c wd : Int) (A : Option Addr) (cA : Nat) (l : List Int) (rows cols : Int) (w : World) (hC : (Kd.int .i64).C w A l.length l) (hcA : l.length ≤ cA) (hr : InR l) :
    Calls Try.prog 5 #[.agg #[.int .i64 r, .int .i64 c, .int .i64 wd, .slice A l.length cA], .int .i64 rows, .int .i64 cols] w fun e w' => e = .returned (.bool true) ∧ Below w.heap.size w w' := by
  by_cases hl : l.length > 5000
  · exact str_long r c wd A cA l rows cols w hC hcA hr hl
  · by_cases hE : stretchE r c wd l rows cols = 0
    · have hz := sized_form (stretchE_form hE).2.2.2
      obtain ⟨nr, rfl⟩ : ∃ n : Nat, rows = n := ⟨rows.toNat, by omega⟩
      obtain ⟨nc, rfl⟩ : ∃ n : Nat, cols = n := ⟨cols.toNat, by omega⟩
      exact str_good r c wd A cA l nr nc w hC hcA hr (by omega) hE
    · exact str_bad r c wd A cA l rows cols w hC hcA hr (by omega) _ ⟨rfl, hE⟩

end Go.Proofs.Ytklomikdihlcgaa
