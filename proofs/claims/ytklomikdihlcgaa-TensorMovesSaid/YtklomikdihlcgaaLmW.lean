/- pupillaw7.moved: what a move of a matrix answers, by the document. -/
import Derived.Test.YtklomikdihlcgaaRmW
namespace Go.Proofs.Ytklomikdihlcgaa
open Go.RowKit PBase
open Go.Proofs.YtklomikdihlcgaaW.PrintWords Go.Proofs.YtklomikdihlcgaaW.PrintLast Go.Proofs.YtklomikdihlcgaaW.PrintMore
set_option linter.unusedVariables false
set_option linter.unusedSimpArgs false

set_option maxHeartbeats 1000000 in
set_option maxRecDepth 100000 in
theorem lm_badC (x0 x1 wd : Int) (A : Option Addr) (cA : Nat) (l : List Int) (r0 r1 r2 f : Int) (B : Option Addr) (cF : Nat) (pl : List (Int × Int)) (w : World) (hC : (Kd.int .i64).C w A l.length l) (hcA : l.length ≤ cA) (hl : l.length ≤ 1000000) (er : Int) (hk : checkV x0 x1 wd l = er ∧ er ≠ 0) :
    Calls Try.prog 42 #[.agg #[.int .i64 x0, .int .i64 x1, .int .i64 wd, .slice A l.length cA], .agg #[.int .i64 r0, .int .i64 r1, .int .i64 r2, .slice B pl.length cF], .int .i64 f] w (AnsP w er 0 0 0 []) := by
  unfold AnsP
  have HH := Aside0.mk (And.intro hC (And.intro hcA (And.intro hl hk)))
  clear hC hcA hl hk
  go_enter Try.func42, Try.ntmps42
  go_wp2_with fail
  generalize hw1 : (((w.alloc (Obj.cells #[Value.int IntKind.i64 x0, Value.int IntKind.i64 x1, Value.int IntKind.i64 wd, Value.slice A l.length cA] 25)).alloc (Obj.cells #[Value.int IntKind.i64 r0, Value.int IntKind.i64 r1, Value.int IntKind.i64 r2, Value.slice B pl.length cF] 60)).alloc (Obj.cells #[Value.int IntKind.i64 0, Value.int IntKind.i64 0, Value.int IntKind.i64 0, Value.slice none 0 0] 25)) = w1
  have HB : Aside0 (Below w.heap.size w w1) := ⟨by rw [← hw1]; exact below_alloc (below_alloc (below_alloc (Below.refl _ _) _) _) _⟩
  have H0 : Aside0 (IsB w1 w.heap.size (row4 x0 x1 wd (.slice A l.length cA)) 25) := ⟨by rw [← hw1]; exact blk_alloc (blk_alloc (blk_new _ _) _) _⟩
  have HV : Aside0 (IsB w1 (w.heap.size + 1) (row4 r0 r1 r2 (.slice B pl.length cF)) 60) := ⟨by rw [← hw1]; exact blk_alloc (new1 w _ _ 25 60) _⟩
  have H1 : Aside0 (IsB w1 (w.heap.size + 1 + 1) (row4 0 0 0 (.slice none 0 0)) 25) := ⟨by rw [← hw1]; have h := blk_new ((w.alloc (Obj.cells #[Value.int IntKind.i64 x0, Value.int IntKind.i64 x1, Value.int IntKind.i64 wd, Value.slice A l.length cA] 25)).alloc (Obj.cells #[Value.int IntKind.i64 r0, Value.int IntKind.i64 r1, Value.int IntKind.i64 r2, Value.slice B pl.length cF] 60)) (Obj.cells #[Value.int IntKind.i64 0, Value.int IntKind.i64 0, Value.int IntKind.i64 0, Value.slice none 0 0] 25); simp only [World.size_alloc] at h; exact h⟩
  clear hw1
  refine (pupilref7_Check.calls (2 * (l.length + 1)) x0 x1 wd A cA l er w1 (Kd.C_below HH.out.1 HB.out) HH.out.2.1 (by rw [refCheck_eq _ x0 x1 wd l (by have := HH.out.2.2.1; omega) (by omega), HH.out.2.2.2.1])).mono ?_
  rintro e w2 ⟨rfl, hb⟩
  have HB2 := Aside0.mk (below_step HB.out hb)
  have H02 := Aside0.mk (blk_below H0.out hb)
  have HV2 := Aside0.mk (blk_below HV.out hb)
  have H12 := Aside0.mk (blk_below H1.out hb)
  clear hb H0 H1 HB HV
  have hne2 : (er != 0) = true := by simpa using HH.out.2.2.2.2
  have b0 := blk_cell H12.out 0
  have b1 := blk_cell H12.out 1
  have b2 := blk_cell H12.out 2
  have b3 := blk_cell H12.out 3
  simp only [List.getElem?_toArray, List.getElem?_cons_zero, List.getElem?_cons_succ] at b0 b1 b2 b3
  have bf0 := blk_frozen H12.out 0
  have bf1 := blk_frozen H12.out 1
  have bf2 := blk_frozen H12.out 2
  have bf3 := blk_frozen H12.out 3
  go_wp2
  have HE := isB_set4 H12.out (.int .i64 0) (.int .i64 0) (.int .i64 0) (.slice none 0 0)
  have e0 := blk_cell (Aside0.mk HE).out 0
  have e1 := blk_cell (Aside0.mk HE).out 1
  have e2 := blk_cell (Aside0.mk HE).out 2
  have e3 := blk_cell (Aside0.mk HE).out 3
  simp only [List.getElem?_toArray, List.getElem?_cons_zero, List.getElem?_cons_succ] at e0 e1 e2 e3
  refine bodyPost_ret (v := .tuple #[.agg (row4 0 0 0 (.slice none 0 0)), .int .i64 er]) (by simp [results, Try.results42, go_sem, e0, e1, e2, e3]) rfl ?_
  exact ⟨_, rfl, Kd.R_nil _ _ _ _ _, below_set4 HB2.out (by omega) _ _ _ _⟩

set_option maxHeartbeats 1000000 in
set_option maxRecDepth 100000 in
theorem lm_badF (x0 x1 wd : Int) (A : Option Addr) (cA : Nat) (l : List Int) (r0 r1 r2 f : Int) (B : Option Addr) (cF : Nat) (pl : List (Int × Int)) (w : World) (hC : (Kd.int .i64).C w A l.length l) (hcA : l.length ≤ cA) (hl : l.length ≤ 1000000) (hk : checkV x0 x1 wd l = 0) (hf : f ≠ 0) :
    Calls Try.prog 42 #[.agg #[.int .i64 x0, .int .i64 x1, .int .i64 wd, .slice A l.length cA], .agg #[.int .i64 r0, .int .i64 r1, .int .i64 r2, .slice B pl.length cF], .int .i64 f] w (AnsP w f 0 0 0 []) := by
  unfold AnsP
  have HH := Aside0.mk (And.intro hC (And.intro hcA (And.intro hl (And.intro hk hf))))
  clear hC hcA hl hk hf
  go_enter Try.func42, Try.ntmps42
  go_wp2_with fail
  generalize hw1 : (((w.alloc (Obj.cells #[Value.int IntKind.i64 x0, Value.int IntKind.i64 x1, Value.int IntKind.i64 wd, Value.slice A l.length cA] 25)).alloc (Obj.cells #[Value.int IntKind.i64 r0, Value.int IntKind.i64 r1, Value.int IntKind.i64 r2, Value.slice B pl.length cF] 60)).alloc (Obj.cells #[Value.int IntKind.i64 0, Value.int IntKind.i64 0, Value.int IntKind.i64 0, Value.slice none 0 0] 25)) = w1
  have HB : Aside0 (Below w.heap.size w w1) := ⟨by rw [← hw1]; exact below_alloc (below_alloc (below_alloc (Below.refl _ _) _) _) _⟩
  have H0 : Aside0 (IsB w1 w.heap.size (row4 x0 x1 wd (.slice A l.length cA)) 25) := ⟨by rw [← hw1]; exact blk_alloc (blk_alloc (blk_new _ _) _) _⟩
  have HV : Aside0 (IsB w1 (w.heap.size + 1) (row4 r0 r1 r2 (.slice B pl.length cF)) 60) := ⟨by rw [← hw1]; exact blk_alloc (new1 w _ _ 25 60) _⟩
  have H1 : Aside0 (IsB w1 (w.heap.size + 1 + 1) (row4 0 0 0 (.slice none 0 0)) 25) := ⟨by rw [← hw1]; have h := blk_new ((w.alloc (Obj.cells #[Value.int IntKind.i64 x0, Value.int IntKind.i64 x1, Value.int IntKind.i64 wd, Value.slice A l.length cA] 25)).alloc (Obj.cells #[Value.int IntKind.i64 r0, Value.int IntKind.i64 r1, Value.int IntKind.i64 r2, Value.slice B pl.length cF] 60)) (Obj.cells #[Value.int IntKind.i64 0, Value.int IntKind.i64 0, Value.int IntKind.i64 0, Value.slice none 0 0] 25); simp only [World.size_alloc] at h; exact h⟩
  clear hw1
  refine (pupilref7_Check.calls (2 * (l.length + 1)) x0 x1 wd A cA l 0 w1 (Kd.C_below HH.out.1 HB.out) HH.out.2.1 (by rw [refCheck_eq _ x0 x1 wd l (by have := HH.out.2.2.1; omega) (by omega), HH.out.2.2.2.1])).mono ?_
  rintro e w2 ⟨rfl, hb⟩
  have HB2 := Aside0.mk (below_step HB.out hb)
  have H02 := Aside0.mk (blk_below H0.out hb)
  have HV2 := Aside0.mk (blk_below HV.out hb)
  have H12 := Aside0.mk (blk_below H1.out hb)
  clear hb H0 H1 HB HV
  have hne2 : (f != 0) = true := by simpa using HH.out.2.2.2.2
  have b0 := blk_cell H12.out 0
  have b1 := blk_cell H12.out 1
  have b2 := blk_cell H12.out 2
  have b3 := blk_cell H12.out 3
  simp only [List.getElem?_toArray, List.getElem?_cons_zero, List.getElem?_cons_succ] at b0 b1 b2 b3
  have bf0 := blk_frozen H12.out 0
  have bf1 := blk_frozen H12.out 1
  have bf2 := blk_frozen H12.out 2
  have bf3 := blk_frozen H12.out 3
  go_wp2
  have HE := isB_set4 H12.out (.int .i64 0) (.int .i64 0) (.int .i64 0) (.slice none 0 0)
  have e0 := blk_cell (Aside0.mk HE).out 0
  have e1 := blk_cell (Aside0.mk HE).out 1
  have e2 := blk_cell (Aside0.mk HE).out 2
  have e3 := blk_cell (Aside0.mk HE).out 3
  simp only [List.getElem?_toArray, List.getElem?_cons_zero, List.getElem?_cons_succ] at e0 e1 e2 e3
  refine bodyPost_ret (v := .tuple #[.agg (row4 0 0 0 (.slice none 0 0)), .int .i64 f]) (by simp [results, Try.results42, go_sem, e0, e1, e2, e3]) rfl ?_
  exact ⟨_, rfl, Kd.R_nil _ _ _ _ _, below_set4 HB2.out (by omega) _ _ _ _⟩

set_option maxHeartbeats 1000000 in
set_option maxRecDepth 100000 in
theorem lm_good (x0 x1 wd : Int) (A : Option Addr) (cA : Nat) (l : List Int) (r0 r1 r2 f : Int) (B : Option Addr) (cF : Nat) (pl : List (Int × Int)) (w : World) (hC : (Kd.int .i64).C w A l.length l) (hcA : l.length ≤ cA) (hl : l.length ≤ 1000000) (hk : checkV x0 x1 wd l = 0) (hf : f = 0) (hF : two.C w B pl.length pl) (hcF : pl.length ≤ cF) (hpl : pl.length ≤ 1000000) (hin : ∀ p ∈ pl, inMs [(x0, x1, wd, l)] p) (hr : InR l) (hw : r2 = 32 ∨ r2 = 64) :
    Calls Try.prog 42 #[.agg #[.int .i64 x0, .int .i64 x1, .int .i64 wd, .slice A l.length cA], .agg #[.int .i64 r0, .int .i64 r1, .int .i64 r2, .slice B pl.length cF], .int .i64 f] w (AnsP w 0 r0 r1 r2 (pl.map fun p => cleanV r2 (elemAt [(x0, x1, wd, l)] p))) := by
  unfold AnsP
  have HH := Aside0.mk (And.intro hC (And.intro hcA (And.intro hl (And.intro hk (And.intro hF (And.intro hcF (And.intro hpl (And.intro hin (And.intro hr hw)))))))))
  clear hC hcA hl hk hF hcF hpl hin hr hw
  subst hf
  go_enter Try.func42, Try.ntmps42
  go_wp2_with fail
  generalize hw1 : (((w.alloc (Obj.cells #[Value.int IntKind.i64 x0, Value.int IntKind.i64 x1, Value.int IntKind.i64 wd, Value.slice A l.length cA] 25)).alloc (Obj.cells #[Value.int IntKind.i64 r0, Value.int IntKind.i64 r1, Value.int IntKind.i64 r2, Value.slice B pl.length cF] 60)).alloc (Obj.cells #[Value.int IntKind.i64 0, Value.int IntKind.i64 0, Value.int IntKind.i64 0, Value.slice none 0 0] 25)) = w1
  have HB : Aside0 (Below w.heap.size w w1) := ⟨by rw [← hw1]; exact below_alloc (below_alloc (below_alloc (Below.refl _ _) _) _) _⟩
  have H0 : Aside0 (IsB w1 w.heap.size (row4 x0 x1 wd (.slice A l.length cA)) 25) := ⟨by rw [← hw1]; exact blk_alloc (blk_alloc (blk_new _ _) _) _⟩
  have HV : Aside0 (IsB w1 (w.heap.size + 1) (row4 r0 r1 r2 (.slice B pl.length cF)) 60) := ⟨by rw [← hw1]; exact blk_alloc (new1 w _ _ 25 60) _⟩
  have H1 : Aside0 (IsB w1 (w.heap.size + 1 + 1) (row4 0 0 0 (.slice none 0 0)) 25) := ⟨by rw [← hw1]; have h := blk_new ((w.alloc (Obj.cells #[Value.int IntKind.i64 x0, Value.int IntKind.i64 x1, Value.int IntKind.i64 wd, Value.slice A l.length cA] 25)).alloc (Obj.cells #[Value.int IntKind.i64 r0, Value.int IntKind.i64 r1, Value.int IntKind.i64 r2, Value.slice B pl.length cF] 60)) (Obj.cells #[Value.int IntKind.i64 0, Value.int IntKind.i64 0, Value.int IntKind.i64 0, Value.slice none 0 0] 25); simp only [World.size_alloc] at h; exact h⟩
  clear hw1
  refine (pupilref7_Check.calls (2 * (l.length + 1)) x0 x1 wd A cA l 0 w1 (Kd.C_below HH.out.1 HB.out) HH.out.2.1 (by rw [refCheck_eq _ x0 x1 wd l (by have := HH.out.2.2.1; omega) (by omega), HH.out.2.2.2.1])).mono ?_
  rintro e w2 ⟨rfl, hb⟩
  have HB2 := Aside0.mk (below_step HB.out hb)
  have H02 := Aside0.mk (blk_below H0.out hb)
  have HV2 := Aside0.mk (blk_below HV.out hb)
  have H12 := Aside0.mk (blk_below H1.out hb)
  clear hb H0 H1 HB HV
  have a0 := blk_cell H02.out 0
  have a1 := blk_cell H02.out 1
  have a2 := blk_cell H02.out 2
  have a3 := blk_cell H02.out 3
  simp only [List.getElem?_toArray, List.getElem?_cons_zero, List.getElem?_cons_succ] at a0 a1 a2 a3
  have v0 := blk_cell HV2.out 0
  have v1 := blk_cell HV2.out 1
  have v2 := blk_cell HV2.out 2
  have v3 := blk_cell HV2.out 3
  simp only [List.getElem?_toArray, List.getElem?_cons_zero, List.getElem?_cons_succ] at v0 v1 v2 v3
  go_wp2_with fail
  have H13 := Aside0.mk (blk_alloc H12.out (Obj.cells (row4 x0 x1 wd (.slice A l.length cA)) 25))
  have HB3 := Aside0.mk (below_alloc HB2.out (Obj.cells (row4 x0 x1 wd (.slice A l.length cA)) 25))
  have HM3 := Aside0.mk (one_mat (blk_new w2 (Obj.cells (row4 x0 x1 wd (.slice A l.length cA)) 25)) (Kd.C_below HH.out.1 HB3.out) HH.out.2.1)
  generalize w2.alloc (Obj.cells #[Value.int IntKind.i64 x0, Value.int IntKind.i64 x1, Value.int IntKind.i64 wd, Value.slice A l.length cA] 25) = w3 at H13 HB3 HM3 ⊢
  clear H02 H12 HB2 HV2 a0 a1 a2 a3 v0 v1 v2 v3
  refine (refMoved_calls r0 r1 r2 B cF pl (some ⟨w2.heap.size, 0, none⟩) 1 [(x0, x1, wd, l)] w3 HH.out.2.2.2.2.2.2.2.2.2 (Kd.C_below HH.out.2.2.2.2.1 HB3.out) HH.out.2.2.2.2.2.1 HM3.out (Nat.le_refl _) HH.out.2.2.2.2.2.2.1 HH.out.2.2.2.2.2.2.2.1 (by intro m hm; simp at hm; subst hm; exact HH.out.2.2.2.2.2.2.2.2.1)).mono ?_
  rintro e w6 ⟨v, rfl, hP6, hb⟩
  have HB6 := Aside0.mk (below_step HB3.out hb)
  have H16 := Aside0.mk (blk_below H13.out hb)
  have HP6 := Aside0.mk (show Ints w w6 v (pl.map fun p => cleanV r2 (elemAt [(x0, x1, wd, l)] p)) from Kd.R_lower hP6 HB3.out.size)
  clear hb hP6 HB3 H13 HM3
  have n0 := blk_cell H16.out 0
  have n1 := blk_cell H16.out 1
  have n2 := blk_cell H16.out 2
  have n3 := blk_cell H16.out 3
  simp only [List.getElem?_toArray, List.getElem?_cons_zero, List.getElem?_cons_succ] at n0 n1 n2 n3
  have nf0 := blk_frozen H16.out 0
  have nf1 := blk_frozen H16.out 1
  have nf2 := blk_frozen H16.out 2
  have nf3 := blk_frozen H16.out 3
  obtain ⟨A7, c7, hv⟩ := Kd.R_slice HP6.out
  generalize (pl.map fun p => cleanV r2 (elemAt [(x0, x1, wd, l)] p)).length = ln at hv
  subst hv
  go_wp2
  have HE := isB_set4 H16.out (.int .i64 r0) (.int .i64 r1) (.int .i64 r2) (.slice A7 ln c7)
  have e0 := blk_cell (Aside0.mk HE).out 0
  have e1 := blk_cell (Aside0.mk HE).out 1
  have e2 := blk_cell (Aside0.mk HE).out 2
  have e3 := blk_cell (Aside0.mk HE).out 3
  simp only [List.getElem?_toArray, List.getElem?_cons_zero, List.getElem?_cons_succ] at e0 e1 e2 e3
  refine bodyPost_ret (v := .tuple #[.agg #[.int .i64 r0, .int .i64 r1, .int .i64 r2, .slice A7 ln c7], .int .i64 0]) (by simp [results, Try.results42, go_sem, e0, e1, e2, e3]) rfl ?_
  exact ⟨_, rfl, R_set4 HP6.out H16.out (by decide) _ _ _ _, below_set4 HB6.out (by omega) _ _ _ _⟩

set_option maxHeartbeats 1000000 in
set_option maxRecDepth 100000 in
theorem turn_bad (x0 x1 wd : Int) (A : Option Addr) (cA : Nat) (l : List Int) (er : Int) (w : World) (hC : (Kd.int .i64).C w A l.length l) (hcA : l.length ≤ cA) (hl : l.length ≤ 1000000) (hk : checkV x0 x1 wd l = er ∧ er ≠ 0) :
    Calls Try.prog 32 #[.agg #[.int .i64 x0, .int .i64 x1, .int .i64 wd, .slice A l.length cA]] w (AnsP w er 0 0 0 []) := by
  have HH := Aside0.mk (And.intro hC (And.intro hcA (And.intro hl hk)))
  clear hC hcA hl hk
  unfold AnsP
  go_enter Try.func32, Try.ntmps32
  go_wp2_with fail
  generalize hw1 : ((w.alloc (Obj.cells #[Value.int IntKind.i64 x0, Value.int IntKind.i64 x1, Value.int IntKind.i64 wd, Value.slice A l.length cA] 25)).alloc (Obj.cells #[Value.int IntKind.i64 0, Value.int IntKind.i64 0, Value.int IntKind.i64 0, Value.slice none 0 0] 25)) = w1
  have HB : Aside0 (Below w.heap.size w w1) := ⟨by rw [← hw1]; exact below_alloc (below_alloc (Below.refl _ _) _) _⟩
  have H1 : Aside0 (IsB w1 (w.heap.size + 1) (row4 0 0 0 (.slice none 0 0)) 25) := ⟨by rw [← hw1]; exact new1 w _ _ 25 25⟩
  clear hw1
  refine (moved_badC _ x0 x1 wd A cA l er w1 (Kd.C_below HH.out.1 HB.out) HH.out.2.1 HH.out.2.2.1 HH.out.2.2.2).mono ?_
  rintro e w6 ⟨v, rfl, hP6, hb⟩
  have HB6 := Aside0.mk (below_step HB.out hb)
  have H16 := Aside0.mk (blk_below H1.out hb)
  have HP6 := Aside0.mk (show Ints w w6 v [] from Kd.R_lower hP6 HB.out.size)
  clear hb hP6 HB H1
  have n0 := blk_cell H16.out 0
  have n1 := blk_cell H16.out 1
  have n2 := blk_cell H16.out 2
  have n3 := blk_cell H16.out 3
  simp only [List.getElem?_toArray, List.getElem?_cons_zero, List.getElem?_cons_succ] at n0 n1 n2 n3
  have nf0 := blk_frozen H16.out 0
  have nf1 := blk_frozen H16.out 1
  have nf2 := blk_frozen H16.out 2
  have nf3 := blk_frozen H16.out 3
  obtain ⟨A7, c7, hv⟩ := Kd.R_slice HP6.out
  generalize ([] : List Int).length = ln at hv
  subst hv
  go_wp2
  have HE := isB_set4 H16.out (.int .i64 0) (.int .i64 0) (.int .i64 0) (.slice A7 ln c7)
  have e0 := blk_cell (Aside0.mk HE).out 0
  have e1 := blk_cell (Aside0.mk HE).out 1
  have e2 := blk_cell (Aside0.mk HE).out 2
  have e3 := blk_cell (Aside0.mk HE).out 3
  simp only [List.getElem?_toArray, List.getElem?_cons_zero, List.getElem?_cons_succ] at e0 e1 e2 e3
  refine bodyPost_ret (v := .tuple #[.agg #[.int .i64 0, .int .i64 0, .int .i64 0, .slice A7 ln c7], .int .i64 er]) (by simp [results, Try.results32, go_sem, e0, e1, e2, e3]) rfl ?_
  exact ⟨_, rfl, R_set4 HP6.out H16.out (by decide) _ _ _ _, below_set4 HB6.out (by omega) _ _ _ _⟩

end Go.Proofs.Ytklomikdihlcgaa
