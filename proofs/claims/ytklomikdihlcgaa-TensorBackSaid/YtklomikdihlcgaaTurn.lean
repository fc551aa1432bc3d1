/- tensor.Turn: closure, moved, Turn. -/
import Derived.Test.YtklomikdihlcgaaMoved
namespace Go.Proofs.Ytklomikdihlcgaa
open Go.RowKit PBase
open Go.Proofs.YtklomikdihlcgaaW.PrintWords Go.Proofs.YtklomikdihlcgaaW.PrintLast Go.Proofs.YtklomikdihlcgaaW.PrintMore
set_option linter.unusedVariables false
set_option linter.unusedSimpArgs false

theorem new1 (w : World) (x y : Array Value) (s t : Nat) : IsB ((w.alloc (.cells x s)).alloc (.cells y t)) (w.heap.size + 1) y t := by
  have h := blk_new (w.alloc (.cells x s)) (.cells y t); simp only [World.size_alloc] at h; exact h

set_option maxHeartbeats 1000000 in
set_option maxRecDepth 100000 in
theorem turn1_calls (r c : Nat) (wd : Int) (w : World) (hr : r ≤ 4096) (hc : c ≤ 4096) :
    Calls Try.prog 70 #[.agg #[.int .i64 r, .int .i64 c, .int .i64 wd]] w fun e w' => ∃ v, e = .returned (.tuple #[.agg #[.int .i64 c, .int .i64 r, .int .i64 wd, v], .int .i64 0]) ∧ Places w w' v (turnL r c c) ∧ Below w.heap.size w w' := by
  go_enter Try.func70, Try.ntmps70
  go_wp2_with fail
  refine (Turning_calls r c wd _ hr hc).mono ?_
  rintro e w1 ⟨v, rfl, hP, hB⟩
  have hI := blk_below (new1 w _ _ 34 93) hB
  have HB := Aside0.mk (below_step (below_alloc (below_alloc (Below.refl w.heap.size w) _) _) hB)
  have HP := Aside0.mk (show Places w w1 v (turnL r c c) from Kd.R_lower hP (by simp only [World.size_alloc]; omega))
  clear hP hB
  have HI := Aside0.mk hI
  have n0 := blk_cell hI 0
  have n1 := blk_cell hI 1
  have n2 := blk_cell hI 2
  have n3 := blk_cell hI 3
  simp only [List.getElem?_toArray, List.getElem?_cons_zero, List.getElem?_cons_succ] at n0 n1 n2 n3
  have rf0 := blk_frozen hI 0
  have rf1 := blk_frozen hI 1
  have rf2 := blk_frozen hI 2
  have rf3 := blk_frozen hI 3
  clear hI
  obtain ⟨A9, cp, hv⟩ := Kd.R_slice HP.out
  generalize (turnL r c c).length = ln at hv
  subst hv
  go_wp2
  have HE := isB_set4 HI.out (.int .i64 c) (.int .i64 r) (.int .i64 wd) (.slice A9 ln cp)
  have e0 := blk_cell HE 0
  have e1 := blk_cell HE 1
  have e2 := blk_cell HE 2
  have e3 := blk_cell HE 3
  simp only [List.getElem?_toArray, List.getElem?_cons_zero, List.getElem?_cons_succ] at e0 e1 e2 e3
  refine bodyPost_ret (v := .tuple #[.agg #[.int .i64 c, .int .i64 r, .int .i64 wd, .slice A9 ln cp], .int .i64 0]) (by simp [results, Try.results70, go_sem, e0, e1, e2, e3]) rfl ?_
  exact ⟨_, rfl, R_set4 HP.out HI.out (two_E 93 (by decide)) _ _ _ _, below_set4 HB.out (by omega) _ _ _ _⟩

theorem enters_ {P : Program} {f : FuncId} {fn : Func} (h : P.funcs[f]? = some fn) (hn : (fn.name == "runtime.NumGoroutine") = false) (hb : fn.body.isNone = false) (args : Array Value) (W : World) : Sem.run P (callFunc f args) W = .ok (.enter f args) W := by
  have hn' : ¬ fn.name = "runtime.NumGoroutine" := by simpa using hn
  have hb' : ¬ fn.body = none := by intro h; rw [h] at hb; cases hb
  simp [callFunc, h, hn', hb']

theorem at_zero (g i : Nat) : (⟨g, 0, none⟩ : Addr).add i = ⟨g, i, none⟩ := by
  unfold Addr.add
  by_cases h : i = 0
  · subst h; rfl
  · rw [if_neg h]; simp

theorem one_mat {W : World} {g t : Nat} {x0 x1 wd : Int} {A : Option Addr} {cA : Nat} {l : List Int} (h : IsB W g (row4 x0 x1 wd (.slice A l.length cA)) t) (hC : (Kd.int .i64).C W A l.length l) (hcA : l.length ≤ cA) :
    matK.C W (some ⟨g, 0, none⟩) 1 [(x0, x1, wd, l)] := by
  refine ⟨rfl, by omega, fun _ => ⟨⟨g, 0, none⟩, rfl, fun j p hj => ?_⟩⟩
  cases j with
  | succ j => simp at hj
  | zero =>
    simp at hj
    subst hj
    refine ⟨[.int .i64 x0, .int .i64 x1, .int .i64 wd, .slice A l.length cA], rfl, ⟨[_], _, rfl, rfl, [_], _, rfl, rfl, [_], _, rfl, rfl, A, cA, rfl, hcA, hC⟩, fun i u hu => ?_⟩
    have h2 := blk_cell h i
    rw [Nat.zero_mul, Nat.zero_add, at_zero, h2]
    simpa using hu

/-- What a move's function does where there is no error. -/
def DoesMove (f : FuncId) (cap : Array Value) (x0 x1 wd : Int) (W : World) (pl : List (Int × Int)) (r0 r1 r2 : Int) : Prop :=
  ∀ W', Below W.heap.size W W' → (∀ args, Sem.run Try.prog (callFunc f args) W' = .ok (.enter f args) W') ∧ Calls Try.prog f (#[.agg #[.int .i64 x0, .int .i64 x1, .int .i64 wd]] ++ cap) W' fun e w' => ∃ v, e = .returned (.tuple #[.agg #[.int .i64 r0, .int .i64 r1, .int .i64 r2, v], .int .i64 0]) ∧ Places W' w' v pl ∧ Below W'.heap.size W' w'

set_option maxHeartbeats 1000000 in
set_option maxRecDepth 100000 in
theorem moved_calls (k : Nat) (f : FuncId) (cap : Array Value) (x0 x1 wd r0 r1 r2 : Int) (A : Option Addr) (cA : Nat) (l : List Int) (pl : List (Int × Int)) (cl : Int → Int) (w : World)
    (hC : (Kd.int .i64).C w A l.length l) (hcA : l.length ≤ cA) (hk : tensor_Check.f k x0 x1 wd l = some 0) (hf : DoesMove f cap x0 x1 wd w pl r0 r1 r2)
    (hl : pl.length ≤ 1000000) (hin : ∀ p ∈ pl, inMs [(x0, x1, wd, l)] p) (hc : ∀ x, tensor_Clean.f k x r2 = some (cl x)) :
    Calls Try.prog 69 #[.agg #[.int .i64 x0, .int .i64 x1, .int .i64 wd, .slice A l.length cA], .func (.func f) #[] cap] w fun e w' => ∃ v, e = .returned (.tuple #[.agg #[.int .i64 r0, .int .i64 r1, .int .i64 r2, v], .int .i64 0]) ∧ Ints w w' v (pl.map fun p => cl (elemAt [(x0, x1, wd, l)] p)) ∧ Below w.heap.size w w' := by
  go_enter Try.func69, Try.ntmps69
  have HH := Aside0.mk (And.intro hC (And.intro hcA (And.intro hk (And.intro hf (And.intro hl (And.intro hin hc))))))
  clear hC hcA hk hf hl hin hc
  go_wp2_with fail
  generalize hw1 : ((w.alloc (Obj.cells #[Value.int IntKind.i64 x0, Value.int IntKind.i64 x1, Value.int IntKind.i64 wd, Value.slice A l.length cA] 25)).alloc (Obj.cells #[Value.int IntKind.i64 0, Value.int IntKind.i64 0, Value.int IntKind.i64 0, Value.slice none 0 0] 25)) = w1
  have HB : Aside0 (Below w.heap.size w w1) := ⟨by rw [← hw1]; exact below_alloc (below_alloc (Below.refl _ _) _) _⟩
  have H0 : Aside0 (IsB w1 w.heap.size (row4 x0 x1 wd (.slice A l.length cA)) 25) := ⟨by rw [← hw1]; exact blk_alloc (blk_new _ _) _⟩
  have H1 : Aside0 (IsB w1 (w.heap.size + 1) (row4 0 0 0 (.slice none 0 0)) 25) := ⟨by rw [← hw1]; exact new1 w _ _ 25 25⟩
  clear hw1
  refine (tensor_Check.calls k x0 x1 wd A cA l 0 w1 (Kd.C_below HH.out.1 HB.out) HH.out.2.1 HH.out.2.2.1).mono ?_
  rintro e w2 ⟨rfl, hb⟩
  have HB2 := Aside0.mk (below_step HB.out hb)
  have H02 := Aside0.mk (blk_below H0.out hb)
  have H12 := Aside0.mk (blk_below H1.out hb)
  clear hb H0 H1 HB
  have a0 := blk_cell H02.out 0
  have a1 := blk_cell H02.out 1
  have a2 := blk_cell H02.out 2
  have a3 := blk_cell H02.out 3
  simp only [List.getElem?_toArray, List.getElem?_cons_zero, List.getElem?_cons_succ] at a0 a1 a2 a3
  go_wp2_with fail
  refine (tensor_Shape.calls x0 x1 wd A cA l x0 x1 wd w2 (Kd.C_below HH.out.1 HB2.out) HH.out.2.1 (by rfl)).mono ?_
  rintro e w3 ⟨rfl, hb⟩
  have HB3 := Aside0.mk (below_step HB2.out hb)
  have H03 := Aside0.mk (blk_below H02.out hb)
  have H13 := Aside0.mk (blk_below H12.out hb)
  clear hb H02 H12 HB2 a0 a1 a2 a3
  go_wp2_with fail
  obtain ⟨hent, hcall⟩ := HH.out.2.2.2.1 w3 HB3.out
  rw [hent, Oper.upon_enter]
  refine hcall.mono ?_
  clear hent hcall
  rintro e w4 ⟨v, rfl, hP, hb⟩
  have HB4 := Aside0.mk (below_step HB3.out hb)
  have H04 := Aside0.mk (blk_below H03.out hb)
  have H14 := Aside0.mk (blk_below H13.out hb)
  have HP := Aside0.mk (show Places w w4 v pl from Kd.R_lower hP HB3.out.size)
  clear hb hP HB3 H03 H13
  obtain ⟨A9, cp, hv, hle, hCv⟩ := Kd.R_reads HP.out
  subst hv
  have a0 := blk_cell H04.out 0
  have a1 := blk_cell H04.out 1
  have a2 := blk_cell H04.out 2
  have a3 := blk_cell H04.out 3
  simp only [List.getElem?_toArray, List.getElem?_cons_zero, List.getElem?_cons_succ] at a0 a1 a2 a3
  have c0 := blk_cell (blk_alloc H04.out (Obj.cells #[.int .i64 r0, .int .i64 r1, .int .i64 r2, .slice A9 pl.length cp] 93)) 0
  have c1 := blk_cell (blk_alloc H04.out (Obj.cells #[.int .i64 r0, .int .i64 r1, .int .i64 r2, .slice A9 pl.length cp] 93)) 1
  have c2 := blk_cell (blk_alloc H04.out (Obj.cells #[.int .i64 r0, .int .i64 r1, .int .i64 r2, .slice A9 pl.length cp] 93)) 2
  have c3 := blk_cell (blk_alloc H04.out (Obj.cells #[.int .i64 r0, .int .i64 r1, .int .i64 r2, .slice A9 pl.length cp] 93)) 3
  simp only [List.getElem?_toArray, List.getElem?_cons_zero, List.getElem?_cons_succ] at c0 c1 c2 c3
  go_wp2_with fail
  have H15 := Aside0.mk (blk_alloc (blk_alloc H14.out (Obj.cells #[.int .i64 r0, .int .i64 r1, .int .i64 r2, .slice A9 pl.length cp] 93)) (Obj.cells #[.int .i64 x0, .int .i64 x1, .int .i64 wd, .slice A l.length cA] 25))
  have HB5 := Aside0.mk (below_alloc (below_alloc HB4.out (Obj.cells #[.int .i64 r0, .int .i64 r1, .int .i64 r2, .slice A9 pl.length cp] 93)) (Obj.cells #[.int .i64 x0, .int .i64 x1, .int .i64 wd, .slice A l.length cA] 25))
  have HC5 := Aside0.mk (Kd.C_below hCv (below_alloc (below_alloc (Below.refl w4.heap.size w4) (Obj.cells #[.int .i64 r0, .int .i64 r1, .int .i64 r2, .slice A9 pl.length cp] 93)) (Obj.cells #[.int .i64 x0, .int .i64 x1, .int .i64 wd, .slice A l.length cA] 25)))
  have HM5 := Aside0.mk (one_mat (new1 w4 #[.int .i64 r0, .int .i64 r1, .int .i64 r2, .slice A9 pl.length cp] (row4 x0 x1 wd (.slice A l.length cA)) 93 25) (Kd.C_below HH.out.1 HB5.out) HH.out.2.1)
  generalize (w4.alloc (Obj.cells #[.int .i64 r0, .int .i64 r1, .int .i64 r2, .slice A9 pl.length cp] 93)).alloc (Obj.cells #[.int .i64 x0, .int .i64 x1, .int .i64 wd, .slice A l.length cA] 25) = w5 at H15 HB5 HC5 HM5 ⊢
  refine (Moved_calls k r0 r1 r2 A9 cp pl (some ⟨w4.heap.size + 1, 0, none⟩) 1 [(x0, x1, wd, l)] cl w5 HC5.out hle HM5.out (Nat.le_refl _) HH.out.2.2.2.2.1 HH.out.2.2.2.2.2.1 HH.out.2.2.2.2.2.2).mono ?_
  rintro e w6 ⟨v, rfl, hP6, hb⟩
  have HB6 := Aside0.mk (below_step HB5.out hb)
  have H16 := Aside0.mk (blk_below H15.out hb)
  have HP6 := Aside0.mk (show Ints w w6 v (pl.map fun p => cl (elemAt [(x0, x1, wd, l)] p)) from Kd.R_lower hP6 HB5.out.size)
  clear hb hP6 a0 a1 a2 a3 c0 c1 c2 c3 HB5 H15 HC5 HM5 H04 H14 HB4 HP hCv hle
  have n0 := blk_cell H16.out 0
  have n1 := blk_cell H16.out 1
  have n2 := blk_cell H16.out 2
  have n3 := blk_cell H16.out 3
  simp only [List.getElem?_toArray, List.getElem?_cons_zero, List.getElem?_cons_succ] at n0 n1 n2 n3
  have rf0 := blk_frozen H16.out 0
  have rf1 := blk_frozen H16.out 1
  have rf2 := blk_frozen H16.out 2
  have rf3 := blk_frozen H16.out 3
  obtain ⟨A7, c7, hv⟩ := Kd.R_slice HP6.out
  generalize (pl.map fun p => cl (elemAt [(x0, x1, wd, l)] p)).length = ln at hv
  subst hv
  go_wp2
  have HE := isB_set4 H16.out (.int .i64 r0) (.int .i64 r1) (.int .i64 r2) (.slice A7 ln c7)
  have e0 := blk_cell HE 0
  have e1 := blk_cell HE 1
  have e2 := blk_cell HE 2
  have e3 := blk_cell HE 3
  simp only [List.getElem?_toArray, List.getElem?_cons_zero, List.getElem?_cons_succ] at e0 e1 e2 e3
  refine bodyPost_ret (v := .tuple #[.agg #[.int .i64 r0, .int .i64 r1, .int .i64 r2, .slice A7 ln c7], .int .i64 0]) (by simp [results, Try.results69, go_sem, e0, e1, e2, e3]) rfl ?_
  exact ⟨_, rfl, R_set4 HP6.out H16.out (by decide) _ _ _ _, below_set4 HB6.out (by omega) _ _ _ _⟩

theorem turn_in (r c : Nat) (wd : Int) (l : List Int) (hl : l.length = r * c) : ∀ p ∈ turnL r c c, inMs [((r : Int), (c : Int), wd, l)] p := by
  intro p hp
  simp only [turnL, List.mem_flatMap, List.mem_range, colL, List.mem_map] at hp
  obtain ⟨cc, hcc, rr, hrr, rfl⟩ := hp
  have h1 : rr * c + cc < r * c := by
    have h2 : (rr + 1) * c ≤ r * c := Nat.mul_le_mul_right c hrr
    have h3 : (rr + 1) * c = rr * c + c := by rw [Nat.add_mul, Nat.one_mul]
    omega
  refine ⟨by simp, by simp, by simp; omega, ?_⟩
  simp only [matAt, Int.toNat_zero, List.getD_cons_zero, hl]
  omega

set_option maxHeartbeats 1000000 in
set_option maxRecDepth 100000 in
theorem Turn_calls (k : Nat) (r c : Nat) (wd : Int) (A : Option Addr) (cA : Nat) (l : List Int) (cl : Int → Int) (w : World)
    (hr : r ≤ 4096) (hc4 : c ≤ 4096) (hn : l.length = r * c) (hn2 : l.length ≤ 4096)
    (hC : (Kd.int .i64).C w A l.length l) (hcA : l.length ≤ cA) (hk : tensor_Check.f k r c wd l = some 0) (hc : ∀ x, tensor_Clean.f k x wd = some (cl x)) :
    Calls Try.prog 32 #[.agg #[.int .i64 r, .int .i64 c, .int .i64 wd, .slice A l.length cA]] w fun e w' => ∃ v, e = .returned (.tuple #[.agg #[.int .i64 c, .int .i64 r, .int .i64 wd, v], .int .i64 0]) ∧ Ints w w' v ((turnL r c c).map fun p => cl (elemAt [((r : Int), (c : Int), wd, l)] p)) ∧ Below w.heap.size w w' := by
  go_enter Try.func32, Try.ntmps32
  have HH := Aside0.mk (And.intro hr (And.intro hc4 (And.intro hn (And.intro hn2 (And.intro hC (And.intro hcA (And.intro hk hc)))))))
  clear hr hc4 hn hn2 hC hcA hk hc
  go_wp2_with fail
  generalize hw1 : ((w.alloc (Obj.cells #[Value.int IntKind.i64 r, Value.int IntKind.i64 c, Value.int IntKind.i64 wd, Value.slice A l.length cA] 25)).alloc (Obj.cells #[Value.int IntKind.i64 0, Value.int IntKind.i64 0, Value.int IntKind.i64 0, Value.slice none 0 0] 25)) = w1
  have HB : Aside0 (Below w.heap.size w w1) := ⟨by rw [← hw1]; exact below_alloc (below_alloc (Below.refl _ _) _) _⟩
  have H1 : Aside0 (IsB w1 (w.heap.size + 1) (row4 0 0 0 (.slice none 0 0)) 25) := ⟨by rw [← hw1]; exact new1 w _ _ 25 25⟩
  clear hw1
  refine (moved_calls k 70 #[] r c wd c r wd A cA l (turnL r c c) cl w1 (Kd.C_below HH.out.2.2.2.2.1 HB.out) HH.out.2.2.2.2.2.1 HH.out.2.2.2.2.2.2.1 (fun W' hW' => ⟨fun args => enters_ Try.func70 (by kernel_rfl) (by kernel_rfl) args W', turn1_calls r c wd W' HH.out.1 HH.out.2.1⟩) (by rw [turnL_length, Nat.mul_comm, ← HH.out.2.2.1]; have := HH.out.2.2.2.1; omega) (turn_in r c wd l HH.out.2.2.1) HH.out.2.2.2.2.2.2.2).mono ?_
  rintro e w6 ⟨v, rfl, hP6, hb⟩
  have HB6 := Aside0.mk (below_step HB.out hb)
  have H16 := Aside0.mk (blk_below H1.out hb)
  have HP6 := Aside0.mk (show Ints w w6 v ((turnL r c c).map fun p => cl (elemAt [((r : Int), (c : Int), wd, l)] p)) from Kd.R_lower hP6 HB.out.size)
  clear hb hP6 HB H1
  have n0 := blk_cell H16.out 0
  have n1 := blk_cell H16.out 1
  have n2 := blk_cell H16.out 2
  have n3 := blk_cell H16.out 3
  simp only [List.getElem?_toArray, List.getElem?_cons_zero, List.getElem?_cons_succ] at n0 n1 n2 n3
  have rf0 := blk_frozen H16.out 0
  have rf1 := blk_frozen H16.out 1
  have rf2 := blk_frozen H16.out 2
  have rf3 := blk_frozen H16.out 3
  obtain ⟨A7, c7, hv⟩ := Kd.R_slice HP6.out
  generalize ((turnL r c c).map fun p => cl (elemAt [((r : Int), (c : Int), wd, l)] p)).length = ln at hv
  subst hv
  go_wp2
  have HE := isB_set4 H16.out (.int .i64 c) (.int .i64 r) (.int .i64 wd) (.slice A7 ln c7)
  have e0 := blk_cell HE 0
  have e1 := blk_cell HE 1
  have e2 := blk_cell HE 2
  have e3 := blk_cell HE 3
  simp only [List.getElem?_toArray, List.getElem?_cons_zero, List.getElem?_cons_succ] at e0 e1 e2 e3
  refine bodyPost_ret (v := .tuple #[.agg #[.int .i64 c, .int .i64 r, .int .i64 wd, .slice A7 ln c7], .int .i64 0]) (by simp [results, Try.results32, go_sem, e0, e1, e2, e3]) rfl ?_
  exact ⟨_, rfl, R_set4 HP6.out H16.out (by decide) _ _ _ _, below_set4 HB6.out (by omega) _ _ _ _⟩

end Go.Proofs.Ytklomikdihlcgaa
