/- Moves of one matrix: errors, closures, the functions that are called. -/
import Derived.Test.YtklomikdihlcgaaWinW
import Derived.Test.YtklomikdihlcgaaCheckP
namespace Go.Proofs.Ytklomikdihlcgaa
open Go.RowKit PBase
open Go.Proofs.YtklomikdihlcgaaW.PrintWords Go.Proofs.YtklomikdihlcgaaW.PrintLast Go.Proofs.YtklomikdihlcgaaW.PrintMore
set_option linter.unusedVariables false
set_option linter.unusedSimpArgs false

/-- a matrix and an error are answered -/
def AnsP (W : World) (er r0 r1 r2 : Int) (L : List Int) (e : Ending) (w' : World) : Prop := ∃ v, e = .returned (.tuple #[.agg #[.int .i64 r0, .int .i64 r1, .int .i64 r2, v], .int .i64 er]) ∧ Ints W w' v L ∧ Below W.heap.size W w'
/-- a move and an error are answered -/
def MoveP (W : World) (er r0 r1 r2 : Int) (pl : List (Int × Int)) (e : Ending) (w' : World) : Prop := ∃ v, e = .returned (.tuple #[.agg #[.int .i64 r0, .int .i64 r1, .int .i64 r2, v], .int .i64 er]) ∧ Places W w' v pl ∧ Below W.heap.size W w'
theorem moveP_none {W : World} {er : Int} {e : Ending} {w' : World} (h : e = .returned (.tuple #[.agg (row4 0 0 0 (.slice none 0 0)), .int .i64 er]) ∧ Below W.heap.size W w') : MoveP W er 0 0 0 [] e w' := ⟨_, h.1, Kd.R_nil _ _ _ _ _, h.2⟩

set_option maxHeartbeats 1000000 in
set_option maxRecDepth 100000 in
theorem moved_badC (fv : Value) (x0 x1 wd : Int) (A : Option Addr) (cA : Nat) (l : List Int) (er : Int) (w : World) (hC : (Kd.int .i64).C w A l.length l) (hcA : l.length ≤ cA) (hl : l.length ≤ 1000000) (hk : checkV x0 x1 wd l = er ∧ er ≠ 0) :
    Calls Try.prog 69 #[.agg #[.int .i64 x0, .int .i64 x1, .int .i64 wd, .slice A l.length cA], fv] w (AnsP w er 0 0 0 []) := by
  unfold AnsP
  go_enter Try.func69, Try.ntmps69
  have HH := Aside0.mk (And.intro hC (And.intro hcA (And.intro hl hk)))
  clear hC hcA hl hk
  go_wp2_with fail
  generalize hw1 : ((w.alloc (Obj.cells #[Value.int IntKind.i64 x0, Value.int IntKind.i64 x1, Value.int IntKind.i64 wd, Value.slice A l.length cA] 25)).alloc (Obj.cells #[Value.int IntKind.i64 0, Value.int IntKind.i64 0, Value.int IntKind.i64 0, Value.slice none 0 0] 25)) = w1
  have HB : Aside0 (Below w.heap.size w w1) := ⟨by rw [← hw1]; exact below_alloc (below_alloc (Below.refl _ _) _) _⟩
  have H1 : Aside0 (IsB w1 (w.heap.size + 1) (row4 0 0 0 (.slice none 0 0)) 25) := ⟨by rw [← hw1]; exact new1 w _ _ 25 25⟩
  clear hw1
  refine (tensor_Check.calls (l.length + 3) x0 x1 wd A cA l er w1 (Kd.C_below HH.out.1 HB.out) HH.out.2.1 (by rw [check_eq _ _ _ _ _ (by have := HH.out.2.2.1; omega) (by omega), HH.out.2.2.2.1])).mono ?_
  rintro e w2 ⟨rfl, hb⟩
  have HB2 := Aside0.mk (below_step HB.out hb)
  have H12 := Aside0.mk (blk_below H1.out hb)
  clear hb H1 HB
  have b0 := blk_cell H12.out 0
  have b1 := blk_cell H12.out 1
  have b2 := blk_cell H12.out 2
  have b3 := blk_cell H12.out 3
  simp only [List.getElem?_toArray, List.getElem?_cons_zero, List.getElem?_cons_succ] at b0 b1 b2 b3
  have bf0 := blk_frozen H12.out 0
  have bf1 := blk_frozen H12.out 1
  have bf2 := blk_frozen H12.out 2
  have bf3 := blk_frozen H12.out 3
  have hne2 : (er != 0) = true := by simpa using HH.out.2.2.2.2
  go_wp2
  have HE := isB_set4 H12.out (.int .i64 0) (.int .i64 0) (.int .i64 0) (.slice none 0 0)
  have e0 := blk_cell (Aside0.mk HE).out 0
  have e1 := blk_cell (Aside0.mk HE).out 1
  have e2 := blk_cell (Aside0.mk HE).out 2
  have e3 := blk_cell (Aside0.mk HE).out 3
  simp only [List.getElem?_toArray, List.getElem?_cons_zero, List.getElem?_cons_succ] at e0 e1 e2 e3
  refine bodyPost_ret (v := .tuple #[.agg (row4 0 0 0 (.slice none 0 0)), .int .i64 er]) (by simp [results, Try.results69, go_sem, e0, e1, e2, e3]) rfl ?_
  exact ⟨_, rfl, Kd.R_nil _ _ _ _ _, below_set4 HB2.out (by omega) _ _ _ _⟩

set_option maxHeartbeats 1000000 in
set_option maxRecDepth 100000 in
theorem moved_badF (f : FuncId) (cap : Array Value) (x0 x1 wd : Int) (A : Option Addr) (cA : Nat) (l : List Int) (er : Int) (w : World) (hC : (Kd.int .i64).C w A l.length l) (hcA : l.length ≤ cA) (hl : l.length ≤ 1000000) (hk : checkV x0 x1 wd l = 0) (hne : er ≠ 0)
    (hf : ∀ W', Below w.heap.size w W' → (∀ args, Sem.run Try.prog (callFunc f args) W' = .ok (.enter f args) W') ∧ Calls Try.prog f (#[.agg #[.int .i64 x0, .int .i64 x1, .int .i64 wd]] ++ cap) W' (MoveP W' er 0 0 0 [])) :
    Calls Try.prog 69 #[.agg #[.int .i64 x0, .int .i64 x1, .int .i64 wd, .slice A l.length cA], .func (.func f) #[] cap] w (AnsP w er 0 0 0 []) := by
  unfold AnsP
  go_enter Try.func69, Try.ntmps69
  have HH := Aside0.mk (And.intro hC (And.intro hcA (And.intro hl (And.intro hk (And.intro hne hf)))))
  clear hC hcA hl hk hne hf
  go_wp2_with fail
  generalize hw1 : ((w.alloc (Obj.cells #[Value.int IntKind.i64 x0, Value.int IntKind.i64 x1, Value.int IntKind.i64 wd, Value.slice A l.length cA] 25)).alloc (Obj.cells #[Value.int IntKind.i64 0, Value.int IntKind.i64 0, Value.int IntKind.i64 0, Value.slice none 0 0] 25)) = w1
  have HB : Aside0 (Below w.heap.size w w1) := ⟨by rw [← hw1]; exact below_alloc (below_alloc (Below.refl _ _) _) _⟩
  have H0 : Aside0 (IsB w1 w.heap.size (row4 x0 x1 wd (.slice A l.length cA)) 25) := ⟨by rw [← hw1]; exact blk_alloc (blk_new _ _) _⟩
  have H1 : Aside0 (IsB w1 (w.heap.size + 1) (row4 0 0 0 (.slice none 0 0)) 25) := ⟨by rw [← hw1]; exact new1 w _ _ 25 25⟩
  clear hw1
  refine (tensor_Check.calls (l.length + 3) x0 x1 wd A cA l 0 w1 (Kd.C_below HH.out.1 HB.out) HH.out.2.1 (by rw [check_eq _ _ _ _ _ (by have := HH.out.2.2.1; omega) (by omega), HH.out.2.2.2.1])).mono ?_
  rintro e w2 ⟨rfl, hb⟩
  have HB2 := Aside0.mk (below_step HB.out hb)
  have H02 := Aside0.mk (blk_below H0.out hb)
  have H12 := Aside0.mk (blk_below H1.out hb)
  clear hb H0 H1 HB
  have a0 := blk_cell H02.out 0
  have a1 := blk_cell H02.out 1
  have a2 := blk_cell H02.out 2
  have a3 := blk_cell H02.out 3
  simp only [List.getElem?_toArray, List.getElem?_cons_zero, List.getElem?_cons_succ] at a0 a1 a2 a3
  go_wp2_with fail
  refine (tensor_Shape.calls x0 x1 wd A cA l x0 x1 wd w2 (Kd.C_below HH.out.1 HB2.out) HH.out.2.1 (by rfl)).mono ?_
  rintro e w3 ⟨rfl, hb⟩
  have HB3 := Aside0.mk (below_step HB2.out hb)
  have H13 := Aside0.mk (blk_below H12.out hb)
  clear hb H02 H12 HB2 a0 a1 a2 a3
  go_wp2_with fail
  obtain ⟨hent, hcall⟩ := HH.out.2.2.2.2.2 w3 HB3.out
  rw [hent, Oper.upon_enter]
  refine hcall.mono ?_
  clear hent hcall
  rintro e w4 ⟨v, rfl, hP, hb⟩
  obtain ⟨A9, c9, hv⟩ := Kd.R_slice hP
  have hn0 : ([] : List (Int × Int)).length = 0 := rfl
  rw [hn0] at hv
  subst hv
  have H14 := Aside0.mk (blk_alloc (blk_below H13.out hb) (Obj.cells (row4 0 0 0 (.slice A9 0 c9)) 93))
  have HB4 := Aside0.mk (below_alloc (below_step HB3.out hb) (Obj.cells (row4 0 0 0 (.slice A9 0 c9)) 93))
  clear hb hP HB3 H13
  have b0 := blk_cell H14.out 0
  have b1 := blk_cell H14.out 1
  have b2 := blk_cell H14.out 2
  have b3 := blk_cell H14.out 3
  simp only [List.getElem?_toArray, List.getElem?_cons_zero, List.getElem?_cons_succ] at b0 b1 b2 b3
  have bf0 := blk_frozen H14.out 0
  have bf1 := blk_frozen H14.out 1
  have bf2 := blk_frozen H14.out 2
  have bf3 := blk_frozen H14.out 3
  have hne2 : (er != 0) = true := by simpa using HH.out.2.2.2.2.1
  go_wp2
  have HE := isB_set4 H14.out (.int .i64 0) (.int .i64 0) (.int .i64 0) (.slice none 0 0)
  have e0 := blk_cell (Aside0.mk HE).out 0
  have e1 := blk_cell (Aside0.mk HE).out 1
  have e2 := blk_cell (Aside0.mk HE).out 2
  have e3 := blk_cell (Aside0.mk HE).out 3
  simp only [List.getElem?_toArray, List.getElem?_cons_zero, List.getElem?_cons_succ] at e0 e1 e2 e3
  refine bodyPost_ret (v := .tuple #[.agg (row4 0 0 0 (.slice none 0 0)), .int .i64 er]) (by simp [results, Try.results69, go_sem, e0, e1, e2, e3]) rfl ?_
  exact ⟨_, rfl, Kd.R_nil _ _ _ _ _, below_set4 HB4.out (by omega) _ _ _ _⟩

set_option maxHeartbeats 1000000 in
set_option maxRecDepth 100000 in
theorem outer_33 (x0 x1 wd : Int) (A : Option Addr) (cA n : Nat) (a b er r0 r1 r2 : Int) (L : List Int) (w : World)
    (h : ∀ W1, Below w.heap.size w W1 → IsB W1 (w.heap.size + 1) #[.int .i64 a] 3 → IsB W1 (w.heap.size + 1 + 1) #[.int .i64 b] 3 → Calls Try.prog 69 #[.agg #[.int .i64 x0, .int .i64 x1, .int .i64 wd, .slice A n cA], .func (.func 72) #[] #[.pointer (some ⟨w.heap.size + 1, 0, none⟩), .pointer (some ⟨w.heap.size + 1 + 1, 0, none⟩)]] W1 (AnsP W1 er r0 r1 r2 L)) :
    Calls Try.prog 33 #[.agg #[.int .i64 x0, .int .i64 x1, .int .i64 wd, .slice A n cA], .int .i64 a, .int .i64 b] w (AnsP w er r0 r1 r2 L) := by
  unfold AnsP
  have HH := Aside0.mk h
  clear h
  go_enter Try.func33, Try.ntmps33
  go_wp2_with fail
  generalize hw1 : ((((w.alloc (Obj.cells #[Value.int IntKind.i64 x0, Value.int IntKind.i64 x1, Value.int IntKind.i64 wd, Value.slice A n cA] 25)).alloc (Obj.cells #[Value.int IntKind.i64 a] 3)).alloc (Obj.cells #[Value.int IntKind.i64 b] 3)).alloc (Obj.cells #[Value.int IntKind.i64 0, Value.int IntKind.i64 0, Value.int IntKind.i64 0, Value.slice none 0 0] 25)) = w1
  have HB : Aside0 (Below w.heap.size w w1) := ⟨by rw [← hw1]; exact below_alloc (below_alloc (below_alloc (below_alloc (Below.refl _ _) _) _) _) _⟩
  have HA : IsB w1 (w.heap.size + 1) #[.int .i64 a] 3 := by rw [← hw1]; exact blk_alloc (blk_alloc (new1 w _ _ 25 3) _) _
  have HBb : IsB w1 (w.heap.size + 1 + 1) #[.int .i64 b] 3 := by rw [← hw1]; exact blk_alloc (by have h := blk_new ((w.alloc (Obj.cells #[Value.int IntKind.i64 x0, Value.int IntKind.i64 x1, Value.int IntKind.i64 wd, Value.slice A n cA] 25)).alloc (Obj.cells #[Value.int IntKind.i64 a] 3)) (Obj.cells #[Value.int IntKind.i64 b] 3); simp only [World.size_alloc] at h; exact h) _
  have H1 : Aside0 (IsB w1 (w.heap.size + 1 + 1 + 1) (row4 0 0 0 (.slice none 0 0)) 25) := ⟨by rw [← hw1]; have h := blk_new (((w.alloc (Obj.cells #[Value.int IntKind.i64 x0, Value.int IntKind.i64 x1, Value.int IntKind.i64 wd, Value.slice A n cA] 25)).alloc (Obj.cells #[Value.int IntKind.i64 a] 3)).alloc (Obj.cells #[Value.int IntKind.i64 b] 3)) (Obj.cells #[Value.int IntKind.i64 0, Value.int IntKind.i64 0, Value.int IntKind.i64 0, Value.slice none 0 0] 25); simp only [World.size_alloc] at h; exact h⟩
  clear hw1
  refine (HH.out w1 HB.out HA HBb).mono ?_
  rintro e w6 ⟨v, rfl, hP6, hb⟩
  have HB6 := Aside0.mk (below_step HB.out hb)
  have H16 := Aside0.mk (blk_below H1.out hb)
  have HP6 := Aside0.mk (show Ints w w6 v L from Kd.R_lower hP6 HB.out.size)
  clear hb hP6 HB H1 HA HBb
  have n0 := blk_cell H16.out 0
  have n1 := blk_cell H16.out 1
  have n2 := blk_cell H16.out 2
  have n3 := blk_cell H16.out 3
  simp only [List.getElem?_toArray, List.getElem?_cons_zero, List.getElem?_cons_succ] at n0 n1 n2 n3
  have nf0 := blk_frozen H16.out 0
  have nf1 := blk_frozen H16.out 1
  have nf2 := blk_frozen H16.out 2
  have nf3 := blk_frozen H16.out 3
  obtain ⟨A7, c7, hv⟩ := Kd.R_slice HP6.out
  generalize L.length = ln at hv
  subst hv
  go_wp2
  have HE := isB_set4 H16.out (.int .i64 r0) (.int .i64 r1) (.int .i64 r2) (.slice A7 ln c7)
  have e0 := blk_cell (Aside0.mk HE).out 0
  have e1 := blk_cell (Aside0.mk HE).out 1
  have e2 := blk_cell (Aside0.mk HE).out 2
  have e3 := blk_cell (Aside0.mk HE).out 3
  simp only [List.getElem?_toArray, List.getElem?_cons_zero, List.getElem?_cons_succ] at e0 e1 e2 e3
  refine bodyPost_ret (v := .tuple #[.agg #[.int .i64 r0, .int .i64 r1, .int .i64 r2, .slice A7 ln c7], .int .i64 er]) (by simp [results, Try.results33, go_sem, e0, e1, e2, e3]) rfl ?_
  exact ⟨_, rfl, R_set4 HP6.out H16.out (by decide) _ _ _ _, below_set4 HB6.out (by omega) _ _ _ _⟩

set_option maxHeartbeats 1000000 in
set_option maxRecDepth 100000 in
theorem outer_34 (x0 x1 wd : Int) (A : Option Addr) (cA n : Nat) (a b er r0 r1 r2 : Int) (L : List Int) (w : World)
    (h : ∀ W1, Below w.heap.size w W1 → IsB W1 (w.heap.size + 1) #[.int .i64 a] 3 → IsB W1 (w.heap.size + 1 + 1) #[.int .i64 b] 3 → Calls Try.prog 69 #[.agg #[.int .i64 x0, .int .i64 x1, .int .i64 wd, .slice A n cA], .func (.func 74) #[] #[.pointer (some ⟨w.heap.size + 1, 0, none⟩), .pointer (some ⟨w.heap.size + 1 + 1, 0, none⟩)]] W1 (AnsP W1 er r0 r1 r2 L)) :
    Calls Try.prog 34 #[.agg #[.int .i64 x0, .int .i64 x1, .int .i64 wd, .slice A n cA], .int .i64 a, .int .i64 b] w (AnsP w er r0 r1 r2 L) := by
  unfold AnsP
  have HH := Aside0.mk h
  clear h
  go_enter Try.func34, Try.ntmps34
  go_wp2_with fail
  generalize hw1 : ((((w.alloc (Obj.cells #[Value.int IntKind.i64 x0, Value.int IntKind.i64 x1, Value.int IntKind.i64 wd, Value.slice A n cA] 25)).alloc (Obj.cells #[Value.int IntKind.i64 a] 3)).alloc (Obj.cells #[Value.int IntKind.i64 b] 3)).alloc (Obj.cells #[Value.int IntKind.i64 0, Value.int IntKind.i64 0, Value.int IntKind.i64 0, Value.slice none 0 0] 25)) = w1
  have HB : Aside0 (Below w.heap.size w w1) := ⟨by rw [← hw1]; exact below_alloc (below_alloc (below_alloc (below_alloc (Below.refl _ _) _) _) _) _⟩
  have HA : IsB w1 (w.heap.size + 1) #[.int .i64 a] 3 := by rw [← hw1]; exact blk_alloc (blk_alloc (new1 w _ _ 25 3) _) _
  have HBb : IsB w1 (w.heap.size + 1 + 1) #[.int .i64 b] 3 := by rw [← hw1]; exact blk_alloc (by have h := blk_new ((w.alloc (Obj.cells #[Value.int IntKind.i64 x0, Value.int IntKind.i64 x1, Value.int IntKind.i64 wd, Value.slice A n cA] 25)).alloc (Obj.cells #[Value.int IntKind.i64 a] 3)) (Obj.cells #[Value.int IntKind.i64 b] 3); simp only [World.size_alloc] at h; exact h) _
  have H1 : Aside0 (IsB w1 (w.heap.size + 1 + 1 + 1) (row4 0 0 0 (.slice none 0 0)) 25) := ⟨by rw [← hw1]; have h := blk_new (((w.alloc (Obj.cells #[Value.int IntKind.i64 x0, Value.int IntKind.i64 x1, Value.int IntKind.i64 wd, Value.slice A n cA] 25)).alloc (Obj.cells #[Value.int IntKind.i64 a] 3)).alloc (Obj.cells #[Value.int IntKind.i64 b] 3)) (Obj.cells #[Value.int IntKind.i64 0, Value.int IntKind.i64 0, Value.int IntKind.i64 0, Value.slice none 0 0] 25); simp only [World.size_alloc] at h; exact h⟩
  clear hw1
  refine (HH.out w1 HB.out HA HBb).mono ?_
  rintro e w6 ⟨v, rfl, hP6, hb⟩
  have HB6 := Aside0.mk (below_step HB.out hb)
  have H16 := Aside0.mk (blk_below H1.out hb)
  have HP6 := Aside0.mk (show Ints w w6 v L from Kd.R_lower hP6 HB.out.size)
  clear hb hP6 HB H1 HA HBb
  have n0 := blk_cell H16.out 0
  have n1 := blk_cell H16.out 1
  have n2 := blk_cell H16.out 2
  have n3 := blk_cell H16.out 3
  simp only [List.getElem?_toArray, List.getElem?_cons_zero, List.getElem?_cons_succ] at n0 n1 n2 n3
  have nf0 := blk_frozen H16.out 0
  have nf1 := blk_frozen H16.out 1
  have nf2 := blk_frozen H16.out 2
  have nf3 := blk_frozen H16.out 3
  obtain ⟨A7, c7, hv⟩ := Kd.R_slice HP6.out
  generalize L.length = ln at hv
  subst hv
  go_wp2
  have HE := isB_set4 H16.out (.int .i64 r0) (.int .i64 r1) (.int .i64 r2) (.slice A7 ln c7)
  have e0 := blk_cell (Aside0.mk HE).out 0
  have e1 := blk_cell (Aside0.mk HE).out 1
  have e2 := blk_cell (Aside0.mk HE).out 2
  have e3 := blk_cell (Aside0.mk HE).out 3
  simp only [List.getElem?_toArray, List.getElem?_cons_zero, List.getElem?_cons_succ] at e0 e1 e2 e3
  refine bodyPost_ret (v := .tuple #[.agg #[.int .i64 r0, .int .i64 r1, .int .i64 r2, .slice A7 ln c7], .int .i64 er]) (by simp [results, Try.results34, go_sem, e0, e1, e2, e3]) rfl ?_
  exact ⟨_, rfl, R_set4 HP6.out H16.out (by decide) _ _ _ _, below_set4 HB6.out (by omega) _ _ _ _⟩

set_option maxHeartbeats 1000000 in
set_option maxRecDepth 100000 in
theorem outer_35 (x0 x1 wd : Int) (A : Option Addr) (cA n : Nat) (a b er r0 r1 r2 : Int) (L : List Int) (w : World)
    (h : ∀ W1, Below w.heap.size w W1 → IsB W1 (w.heap.size + 1) #[.int .i64 a] 3 → IsB W1 (w.heap.size + 1 + 1) #[.int .i64 b] 3 → Calls Try.prog 69 #[.agg #[.int .i64 x0, .int .i64 x1, .int .i64 wd, .slice A n cA], .func (.func 76) #[] #[.pointer (some ⟨w.heap.size + 1, 0, none⟩), .pointer (some ⟨w.heap.size + 1 + 1, 0, none⟩)]] W1 (AnsP W1 er r0 r1 r2 L)) :
    Calls Try.prog 35 #[.agg #[.int .i64 x0, .int .i64 x1, .int .i64 wd, .slice A n cA], .int .i64 a, .int .i64 b] w (AnsP w er r0 r1 r2 L) := by
  unfold AnsP
  have HH := Aside0.mk h
  clear h
  go_enter Try.func35, Try.ntmps35
  go_wp2_with fail
  generalize hw1 : ((((w.alloc (Obj.cells #[Value.int IntKind.i64 x0, Value.int IntKind.i64 x1, Value.int IntKind.i64 wd, Value.slice A n cA] 25)).alloc (Obj.cells #[Value.int IntKind.i64 a] 3)).alloc (Obj.cells #[Value.int IntKind.i64 b] 3)).alloc (Obj.cells #[Value.int IntKind.i64 0, Value.int IntKind.i64 0, Value.int IntKind.i64 0, Value.slice none 0 0] 25)) = w1
  have HB : Aside0 (Below w.heap.size w w1) := ⟨by rw [← hw1]; exact below_alloc (below_alloc (below_alloc (below_alloc (Below.refl _ _) _) _) _) _⟩
  have HA : IsB w1 (w.heap.size + 1) #[.int .i64 a] 3 := by rw [← hw1]; exact blk_alloc (blk_alloc (new1 w _ _ 25 3) _) _
  have HBb : IsB w1 (w.heap.size + 1 + 1) #[.int .i64 b] 3 := by rw [← hw1]; exact blk_alloc (by have h := blk_new ((w.alloc (Obj.cells #[Value.int IntKind.i64 x0, Value.int IntKind.i64 x1, Value.int IntKind.i64 wd, Value.slice A n cA] 25)).alloc (Obj.cells #[Value.int IntKind.i64 a] 3)) (Obj.cells #[Value.int IntKind.i64 b] 3); simp only [World.size_alloc] at h; exact h) _
  have H1 : Aside0 (IsB w1 (w.heap.size + 1 + 1 + 1) (row4 0 0 0 (.slice none 0 0)) 25) := ⟨by rw [← hw1]; have h := blk_new (((w.alloc (Obj.cells #[Value.int IntKind.i64 x0, Value.int IntKind.i64 x1, Value.int IntKind.i64 wd, Value.slice A n cA] 25)).alloc (Obj.cells #[Value.int IntKind.i64 a] 3)).alloc (Obj.cells #[Value.int IntKind.i64 b] 3)) (Obj.cells #[Value.int IntKind.i64 0, Value.int IntKind.i64 0, Value.int IntKind.i64 0, Value.slice none 0 0] 25); simp only [World.size_alloc] at h; exact h⟩
  clear hw1
  refine (HH.out w1 HB.out HA HBb).mono ?_
  rintro e w6 ⟨v, rfl, hP6, hb⟩
  have HB6 := Aside0.mk (below_step HB.out hb)
  have H16 := Aside0.mk (blk_below H1.out hb)
  have HP6 := Aside0.mk (show Ints w w6 v L from Kd.R_lower hP6 HB.out.size)
  clear hb hP6 HB H1 HA HBb
  have n0 := blk_cell H16.out 0
  have n1 := blk_cell H16.out 1
  have n2 := blk_cell H16.out 2
  have n3 := blk_cell H16.out 3
  simp only [List.getElem?_toArray, List.getElem?_cons_zero, List.getElem?_cons_succ] at n0 n1 n2 n3
  have nf0 := blk_frozen H16.out 0
  have nf1 := blk_frozen H16.out 1
  have nf2 := blk_frozen H16.out 2
  have nf3 := blk_frozen H16.out 3
  obtain ⟨A7, c7, hv⟩ := Kd.R_slice HP6.out
  generalize L.length = ln at hv
  subst hv
  go_wp2
  have HE := isB_set4 H16.out (.int .i64 r0) (.int .i64 r1) (.int .i64 r2) (.slice A7 ln c7)
  have e0 := blk_cell (Aside0.mk HE).out 0
  have e1 := blk_cell (Aside0.mk HE).out 1
  have e2 := blk_cell (Aside0.mk HE).out 2
  have e3 := blk_cell (Aside0.mk HE).out 3
  simp only [List.getElem?_toArray, List.getElem?_cons_zero, List.getElem?_cons_succ] at e0 e1 e2 e3
  refine bodyPost_ret (v := .tuple #[.agg #[.int .i64 r0, .int .i64 r1, .int .i64 r2, .slice A7 ln c7], .int .i64 er]) (by simp [results, Try.results35, go_sem, e0, e1, e2, e3]) rfl ?_
  exact ⟨_, rfl, R_set4 HP6.out H16.out (by decide) _ _ _ _, below_set4 HB6.out (by omega) _ _ _ _⟩

set_option maxHeartbeats 1000000 in
set_option maxRecDepth 100000 in
theorem outer_36 (x0 x1 wd : Int) (A : Option Addr) (cA n : Nat) (a b er r0 r1 r2 : Int) (L : List Int) (w : World)
    (h : ∀ W1, Below w.heap.size w W1 → IsB W1 (w.heap.size + 1) #[.int .i64 a] 3 → IsB W1 (w.heap.size + 1 + 1) #[.int .i64 b] 3 → Calls Try.prog 69 #[.agg #[.int .i64 x0, .int .i64 x1, .int .i64 wd, .slice A n cA], .func (.func 77) #[] #[.pointer (some ⟨w.heap.size + 1, 0, none⟩), .pointer (some ⟨w.heap.size + 1 + 1, 0, none⟩)]] W1 (AnsP W1 er r0 r1 r2 L)) :
    Calls Try.prog 36 #[.agg #[.int .i64 x0, .int .i64 x1, .int .i64 wd, .slice A n cA], .int .i64 a, .int .i64 b] w (AnsP w er r0 r1 r2 L) := by
  unfold AnsP
  have HH := Aside0.mk h
  clear h
  go_enter Try.func36, Try.ntmps36
  go_wp2_with fail
  generalize hw1 : ((((w.alloc (Obj.cells #[Value.int IntKind.i64 x0, Value.int IntKind.i64 x1, Value.int IntKind.i64 wd, Value.slice A n cA] 25)).alloc (Obj.cells #[Value.int IntKind.i64 a] 3)).alloc (Obj.cells #[Value.int IntKind.i64 b] 3)).alloc (Obj.cells #[Value.int IntKind.i64 0, Value.int IntKind.i64 0, Value.int IntKind.i64 0, Value.slice none 0 0] 25)) = w1
  have HB : Aside0 (Below w.heap.size w w1) := ⟨by rw [← hw1]; exact below_alloc (below_alloc (below_alloc (below_alloc (Below.refl _ _) _) _) _) _⟩
  have HA : IsB w1 (w.heap.size + 1) #[.int .i64 a] 3 := by rw [← hw1]; exact blk_alloc (blk_alloc (new1 w _ _ 25 3) _) _
  have HBb : IsB w1 (w.heap.size + 1 + 1) #[.int .i64 b] 3 := by rw [← hw1]; exact blk_alloc (by have h := blk_new ((w.alloc (Obj.cells #[Value.int IntKind.i64 x0, Value.int IntKind.i64 x1, Value.int IntKind.i64 wd, Value.slice A n cA] 25)).alloc (Obj.cells #[Value.int IntKind.i64 a] 3)) (Obj.cells #[Value.int IntKind.i64 b] 3); simp only [World.size_alloc] at h; exact h) _
  have H1 : Aside0 (IsB w1 (w.heap.size + 1 + 1 + 1) (row4 0 0 0 (.slice none 0 0)) 25) := ⟨by rw [← hw1]; have h := blk_new (((w.alloc (Obj.cells #[Value.int IntKind.i64 x0, Value.int IntKind.i64 x1, Value.int IntKind.i64 wd, Value.slice A n cA] 25)).alloc (Obj.cells #[Value.int IntKind.i64 a] 3)).alloc (Obj.cells #[Value.int IntKind.i64 b] 3)) (Obj.cells #[Value.int IntKind.i64 0, Value.int IntKind.i64 0, Value.int IntKind.i64 0, Value.slice none 0 0] 25); simp only [World.size_alloc] at h; exact h⟩
  clear hw1
  refine (HH.out w1 HB.out HA HBb).mono ?_
  rintro e w6 ⟨v, rfl, hP6, hb⟩
  have HB6 := Aside0.mk (below_step HB.out hb)
  have H16 := Aside0.mk (blk_below H1.out hb)
  have HP6 := Aside0.mk (show Ints w w6 v L from Kd.R_lower hP6 HB.out.size)
  clear hb hP6 HB H1 HA HBb
  have n0 := blk_cell H16.out 0
  have n1 := blk_cell H16.out 1
  have n2 := blk_cell H16.out 2
  have n3 := blk_cell H16.out 3
  simp only [List.getElem?_toArray, List.getElem?_cons_zero, List.getElem?_cons_succ] at n0 n1 n2 n3
  have nf0 := blk_frozen H16.out 0
  have nf1 := blk_frozen H16.out 1
  have nf2 := blk_frozen H16.out 2
  have nf3 := blk_frozen H16.out 3
  obtain ⟨A7, c7, hv⟩ := Kd.R_slice HP6.out
  generalize L.length = ln at hv
  subst hv
  go_wp2
  have HE := isB_set4 H16.out (.int .i64 r0) (.int .i64 r1) (.int .i64 r2) (.slice A7 ln c7)
  have e0 := blk_cell (Aside0.mk HE).out 0
  have e1 := blk_cell (Aside0.mk HE).out 1
  have e2 := blk_cell (Aside0.mk HE).out 2
  have e3 := blk_cell (Aside0.mk HE).out 3
  simp only [List.getElem?_toArray, List.getElem?_cons_zero, List.getElem?_cons_succ] at e0 e1 e2 e3
  refine bodyPost_ret (v := .tuple #[.agg #[.int .i64 r0, .int .i64 r1, .int .i64 r2, .slice A7 ln c7], .int .i64 er]) (by simp [results, Try.results36, go_sem, e0, e1, e2, e3]) rfl ?_
  exact ⟨_, rfl, R_set4 HP6.out H16.out (by decide) _ _ _ _, below_set4 HB6.out (by omega) _ _ _ _⟩

set_option maxHeartbeats 1000000 in
set_option maxRecDepth 100000 in
theorem clos_72 (x0 x1 wd a b er r0 r1 r2 : Int) (b1 b2 : Nat) (pl : List (Int × Int)) (w : World) (h1 : IsB w b1 #[.int .i64 a] 3) (h2 : IsB w b2 #[.int .i64 b] 3)
    (h : ∀ W1, Below w.heap.size w W1 → Calls Try.prog 73 #[.agg #[.int .i64 x0, .int .i64 x1, .int .i64 wd], .int .i64 a, .int .i64 b] W1 (MoveP W1 er r0 r1 r2 pl)) :
    Calls Try.prog 72 #[.agg #[.int .i64 x0, .int .i64 x1, .int .i64 wd], .pointer (some ⟨b1, 0, none⟩), .pointer (some ⟨b2, 0, none⟩)] w (MoveP w er r0 r1 r2 pl) := by
  unfold MoveP
  have HH := Aside0.mk h
  clear h
  go_enter Try.func72, Try.ntmps72
  have p1 := blk_cell (blk_alloc (blk_alloc h1 (Obj.cells (row3 x0 x1 wd) 34)) (Obj.cells (row4 0 0 0 (.slice none 0 0)) 93)) 0
  have p2 := blk_cell (blk_alloc (blk_alloc h2 (Obj.cells (row3 x0 x1 wd) 34)) (Obj.cells (row4 0 0 0 (.slice none 0 0)) 93)) 0
  simp only [List.getElem?_toArray, List.getElem?_cons_zero] at p1 p2
  clear h1 h2
  go_wp2_with fail
  generalize hw1 : ((w.alloc (Obj.cells #[Value.int IntKind.i64 x0, Value.int IntKind.i64 x1, Value.int IntKind.i64 wd] 34)).alloc (Obj.cells #[Value.int IntKind.i64 0, Value.int IntKind.i64 0, Value.int IntKind.i64 0, Value.slice none 0 0] 93)) = w1
  have HB : Aside0 (Below w.heap.size w w1) := ⟨by rw [← hw1]; exact below_alloc (below_alloc (Below.refl _ _) _) _⟩
  have H1 : Aside0 (IsB w1 (w.heap.size + 1) (row4 0 0 0 (.slice none 0 0)) 93) := ⟨by rw [← hw1]; exact new1 w _ _ 34 93⟩
  clear hw1 p1 p2
  refine (HH.out w1 HB.out).mono ?_
  rintro e w6 ⟨v, rfl, hP6, hb⟩
  have HB6 := Aside0.mk (below_step HB.out hb)
  have H16 := Aside0.mk (blk_below H1.out hb)
  have HP6 := Aside0.mk (show Places w w6 v pl from Kd.R_lower hP6 HB.out.size)
  clear hb hP6 HB H1
  have n0 := blk_cell H16.out 0
  have n1 := blk_cell H16.out 1
  have n2 := blk_cell H16.out 2
  have n3 := blk_cell H16.out 3
  simp only [List.getElem?_toArray, List.getElem?_cons_zero, List.getElem?_cons_succ] at n0 n1 n2 n3
  have nf0 := blk_frozen H16.out 0
  have nf1 := blk_frozen H16.out 1
  have nf2 := blk_frozen H16.out 2
  have nf3 := blk_frozen H16.out 3
  obtain ⟨A7, c7, hv⟩ := Kd.R_slice HP6.out
  generalize pl.length = ln at hv
  subst hv
  go_wp2
  have HE := isB_set4 H16.out (.int .i64 r0) (.int .i64 r1) (.int .i64 r2) (.slice A7 ln c7)
  have e0 := blk_cell (Aside0.mk HE).out 0
  have e1 := blk_cell (Aside0.mk HE).out 1
  have e2 := blk_cell (Aside0.mk HE).out 2
  have e3 := blk_cell (Aside0.mk HE).out 3
  simp only [List.getElem?_toArray, List.getElem?_cons_zero, List.getElem?_cons_succ] at e0 e1 e2 e3
  refine bodyPost_ret (v := .tuple #[.agg #[.int .i64 r0, .int .i64 r1, .int .i64 r2, .slice A7 ln c7], .int .i64 er]) (by simp [results, Try.results72, go_sem, e0, e1, e2, e3]) rfl ?_
  exact ⟨_, rfl, R_set4 HP6.out H16.out (two_E 93 (by decide)) _ _ _ _, below_set4 HB6.out (by omega) _ _ _ _⟩

set_option maxHeartbeats 1000000 in
set_option maxRecDepth 100000 in
theorem clos_74 (x0 x1 wd a b er r0 r1 r2 : Int) (b1 b2 : Nat) (pl : List (Int × Int)) (w : World) (h1 : IsB w b1 #[.int .i64 a] 3) (h2 : IsB w b2 #[.int .i64 b] 3)
    (h : ∀ W1, Below w.heap.size w W1 → Calls Try.prog 75 #[.agg #[.int .i64 x0, .int .i64 x1, .int .i64 wd], .int .i64 0, .int .i64 x0, .int .i64 a, .int .i64 b] W1 (MoveP W1 er r0 r1 r2 pl)) :
    Calls Try.prog 74 #[.agg #[.int .i64 x0, .int .i64 x1, .int .i64 wd], .pointer (some ⟨b1, 0, none⟩), .pointer (some ⟨b2, 0, none⟩)] w (MoveP w er r0 r1 r2 pl) := by
  unfold MoveP
  have HH := Aside0.mk h
  clear h
  go_enter Try.func74, Try.ntmps74
  have p1 := blk_cell (blk_alloc (blk_alloc h1 (Obj.cells (row3 x0 x1 wd) 34)) (Obj.cells (row4 0 0 0 (.slice none 0 0)) 93)) 0
  have p2 := blk_cell (blk_alloc (blk_alloc h2 (Obj.cells (row3 x0 x1 wd) 34)) (Obj.cells (row4 0 0 0 (.slice none 0 0)) 93)) 0
  simp only [List.getElem?_toArray, List.getElem?_cons_zero] at p1 p2
  clear h1 h2
  go_wp2_with fail
  generalize hw1 : ((w.alloc (Obj.cells #[Value.int IntKind.i64 x0, Value.int IntKind.i64 x1, Value.int IntKind.i64 wd] 34)).alloc (Obj.cells #[Value.int IntKind.i64 0, Value.int IntKind.i64 0, Value.int IntKind.i64 0, Value.slice none 0 0] 93)) = w1
  have HB : Aside0 (Below w.heap.size w w1) := ⟨by rw [← hw1]; exact below_alloc (below_alloc (Below.refl _ _) _) _⟩
  have H1 : Aside0 (IsB w1 (w.heap.size + 1) (row4 0 0 0 (.slice none 0 0)) 93) := ⟨by rw [← hw1]; exact new1 w _ _ 34 93⟩
  clear hw1 p1 p2
  refine (HH.out w1 HB.out).mono ?_
  rintro e w6 ⟨v, rfl, hP6, hb⟩
  have HB6 := Aside0.mk (below_step HB.out hb)
  have H16 := Aside0.mk (blk_below H1.out hb)
  have HP6 := Aside0.mk (show Places w w6 v pl from Kd.R_lower hP6 HB.out.size)
  clear hb hP6 HB H1
  have n0 := blk_cell H16.out 0
  have n1 := blk_cell H16.out 1
  have n2 := blk_cell H16.out 2
  have n3 := blk_cell H16.out 3
  simp only [List.getElem?_toArray, List.getElem?_cons_zero, List.getElem?_cons_succ] at n0 n1 n2 n3
  have nf0 := blk_frozen H16.out 0
  have nf1 := blk_frozen H16.out 1
  have nf2 := blk_frozen H16.out 2
  have nf3 := blk_frozen H16.out 3
  obtain ⟨A7, c7, hv⟩ := Kd.R_slice HP6.out
  generalize pl.length = ln at hv
  subst hv
  go_wp2
  have HE := isB_set4 H16.out (.int .i64 r0) (.int .i64 r1) (.int .i64 r2) (.slice A7 ln c7)
  have e0 := blk_cell (Aside0.mk HE).out 0
  have e1 := blk_cell (Aside0.mk HE).out 1
  have e2 := blk_cell (Aside0.mk HE).out 2
  have e3 := blk_cell (Aside0.mk HE).out 3
  simp only [List.getElem?_toArray, List.getElem?_cons_zero, List.getElem?_cons_succ] at e0 e1 e2 e3
  refine bodyPost_ret (v := .tuple #[.agg #[.int .i64 r0, .int .i64 r1, .int .i64 r2, .slice A7 ln c7], .int .i64 er]) (by simp [results, Try.results74, go_sem, e0, e1, e2, e3]) rfl ?_
  exact ⟨_, rfl, R_set4 HP6.out H16.out (two_E 93 (by decide)) _ _ _ _, below_set4 HB6.out (by omega) _ _ _ _⟩

set_option maxHeartbeats 1000000 in
set_option maxRecDepth 100000 in
theorem clos_76 (x0 x1 wd a b er r0 r1 r2 : Int) (b1 b2 : Nat) (pl : List (Int × Int)) (w : World) (h1 : IsB w b1 #[.int .i64 a] 3) (h2 : IsB w b2 #[.int .i64 b] 3)
    (h : ∀ W1, Below w.heap.size w W1 → Calls Try.prog 75 #[.agg #[.int .i64 x0, .int .i64 x1, .int .i64 wd], .int .i64 a, .int .i64 b, .int .i64 0, .int .i64 x1] W1 (MoveP W1 er r0 r1 r2 pl)) :
    Calls Try.prog 76 #[.agg #[.int .i64 x0, .int .i64 x1, .int .i64 wd], .pointer (some ⟨b1, 0, none⟩), .pointer (some ⟨b2, 0, none⟩)] w (MoveP w er r0 r1 r2 pl) := by
  unfold MoveP
  have HH := Aside0.mk h
  clear h
  go_enter Try.func76, Try.ntmps76
  have p1 := blk_cell (blk_alloc (blk_alloc h1 (Obj.cells (row3 x0 x1 wd) 34)) (Obj.cells (row4 0 0 0 (.slice none 0 0)) 93)) 0
  have p2 := blk_cell (blk_alloc (blk_alloc h2 (Obj.cells (row3 x0 x1 wd) 34)) (Obj.cells (row4 0 0 0 (.slice none 0 0)) 93)) 0
  simp only [List.getElem?_toArray, List.getElem?_cons_zero] at p1 p2
  clear h1 h2
  go_wp2_with fail
  generalize hw1 : ((w.alloc (Obj.cells #[Value.int IntKind.i64 x0, Value.int IntKind.i64 x1, Value.int IntKind.i64 wd] 34)).alloc (Obj.cells #[Value.int IntKind.i64 0, Value.int IntKind.i64 0, Value.int IntKind.i64 0, Value.slice none 0 0] 93)) = w1
  have HB : Aside0 (Below w.heap.size w w1) := ⟨by rw [← hw1]; exact below_alloc (below_alloc (Below.refl _ _) _) _⟩
  have H1 : Aside0 (IsB w1 (w.heap.size + 1) (row4 0 0 0 (.slice none 0 0)) 93) := ⟨by rw [← hw1]; exact new1 w _ _ 34 93⟩
  clear hw1 p1 p2
  refine (HH.out w1 HB.out).mono ?_
  rintro e w6 ⟨v, rfl, hP6, hb⟩
  have HB6 := Aside0.mk (below_step HB.out hb)
  have H16 := Aside0.mk (blk_below H1.out hb)
  have HP6 := Aside0.mk (show Places w w6 v pl from Kd.R_lower hP6 HB.out.size)
  clear hb hP6 HB H1
  have n0 := blk_cell H16.out 0
  have n1 := blk_cell H16.out 1
  have n2 := blk_cell H16.out 2
  have n3 := blk_cell H16.out 3
  simp only [List.getElem?_toArray, List.getElem?_cons_zero, List.getElem?_cons_succ] at n0 n1 n2 n3
  have nf0 := blk_frozen H16.out 0
  have nf1 := blk_frozen H16.out 1
  have nf2 := blk_frozen H16.out 2
  have nf3 := blk_frozen H16.out 3
  obtain ⟨A7, c7, hv⟩ := Kd.R_slice HP6.out
  generalize pl.length = ln at hv
  subst hv
  go_wp2
  have HE := isB_set4 H16.out (.int .i64 r0) (.int .i64 r1) (.int .i64 r2) (.slice A7 ln c7)
  have e0 := blk_cell (Aside0.mk HE).out 0
  have e1 := blk_cell (Aside0.mk HE).out 1
  have e2 := blk_cell (Aside0.mk HE).out 2
  have e3 := blk_cell (Aside0.mk HE).out 3
  simp only [List.getElem?_toArray, List.getElem?_cons_zero, List.getElem?_cons_succ] at e0 e1 e2 e3
  refine bodyPost_ret (v := .tuple #[.agg #[.int .i64 r0, .int .i64 r1, .int .i64 r2, .slice A7 ln c7], .int .i64 er]) (by simp [results, Try.results76, go_sem, e0, e1, e2, e3]) rfl ?_
  exact ⟨_, rfl, R_set4 HP6.out H16.out (two_E 93 (by decide)) _ _ _ _, below_set4 HB6.out (by omega) _ _ _ _⟩

set_option maxHeartbeats 1000000 in
set_option maxRecDepth 100000 in
theorem clos_77 (x0 x1 wd a b er r0 r1 r2 : Int) (b1 b2 : Nat) (pl : List (Int × Int)) (w : World) (h1 : IsB w b1 #[.int .i64 a] 3) (h2 : IsB w b2 #[.int .i64 b] 3)
    (h : ∀ W1, Below w.heap.size w W1 → Calls Try.prog 78 #[.agg #[.int .i64 x0, .int .i64 x1, .int .i64 wd], .int .i64 a, .int .i64 b] W1 (MoveP W1 er r0 r1 r2 pl)) :
    Calls Try.prog 77 #[.agg #[.int .i64 x0, .int .i64 x1, .int .i64 wd], .pointer (some ⟨b1, 0, none⟩), .pointer (some ⟨b2, 0, none⟩)] w (MoveP w er r0 r1 r2 pl) := by
  unfold MoveP
  have HH := Aside0.mk h
  clear h
  go_enter Try.func77, Try.ntmps77
  have p1 := blk_cell (blk_alloc (blk_alloc h1 (Obj.cells (row3 x0 x1 wd) 34)) (Obj.cells (row4 0 0 0 (.slice none 0 0)) 93)) 0
  have p2 := blk_cell (blk_alloc (blk_alloc h2 (Obj.cells (row3 x0 x1 wd) 34)) (Obj.cells (row4 0 0 0 (.slice none 0 0)) 93)) 0
  simp only [List.getElem?_toArray, List.getElem?_cons_zero] at p1 p2
  clear h1 h2
  go_wp2_with fail
  generalize hw1 : ((w.alloc (Obj.cells #[Value.int IntKind.i64 x0, Value.int IntKind.i64 x1, Value.int IntKind.i64 wd] 34)).alloc (Obj.cells #[Value.int IntKind.i64 0, Value.int IntKind.i64 0, Value.int IntKind.i64 0, Value.slice none 0 0] 93)) = w1
  have HB : Aside0 (Below w.heap.size w w1) := ⟨by rw [← hw1]; exact below_alloc (below_alloc (Below.refl _ _) _) _⟩
  have H1 : Aside0 (IsB w1 (w.heap.size + 1) (row4 0 0 0 (.slice none 0 0)) 93) := ⟨by rw [← hw1]; exact new1 w _ _ 34 93⟩
  clear hw1 p1 p2
  refine (HH.out w1 HB.out).mono ?_
  rintro e w6 ⟨v, rfl, hP6, hb⟩
  have HB6 := Aside0.mk (below_step HB.out hb)
  have H16 := Aside0.mk (blk_below H1.out hb)
  have HP6 := Aside0.mk (show Places w w6 v pl from Kd.R_lower hP6 HB.out.size)
  clear hb hP6 HB H1
  have n0 := blk_cell H16.out 0
  have n1 := blk_cell H16.out 1
  have n2 := blk_cell H16.out 2
  have n3 := blk_cell H16.out 3
  simp only [List.getElem?_toArray, List.getElem?_cons_zero, List.getElem?_cons_succ] at n0 n1 n2 n3
  have nf0 := blk_frozen H16.out 0
  have nf1 := blk_frozen H16.out 1
  have nf2 := blk_frozen H16.out 2
  have nf3 := blk_frozen H16.out 3
  obtain ⟨A7, c7, hv⟩ := Kd.R_slice HP6.out
  generalize pl.length = ln at hv
  subst hv
  go_wp2
  have HE := isB_set4 H16.out (.int .i64 r0) (.int .i64 r1) (.int .i64 r2) (.slice A7 ln c7)
  have e0 := blk_cell (Aside0.mk HE).out 0
  have e1 := blk_cell (Aside0.mk HE).out 1
  have e2 := blk_cell (Aside0.mk HE).out 2
  have e3 := blk_cell (Aside0.mk HE).out 3
  simp only [List.getElem?_toArray, List.getElem?_cons_zero, List.getElem?_cons_succ] at e0 e1 e2 e3
  refine bodyPost_ret (v := .tuple #[.agg #[.int .i64 r0, .int .i64 r1, .int .i64 r2, .slice A7 ln c7], .int .i64 er]) (by simp [results, Try.results77, go_sem, e0, e1, e2, e3]) rfl ?_
  exact ⟨_, rfl, R_set4 HP6.out H16.out (two_E 93 (by decide)) _ _ _ _, below_set4 HB6.out (by omega) _ _ _ _⟩


end Go.Proofs.Ytklomikdihlcgaa
