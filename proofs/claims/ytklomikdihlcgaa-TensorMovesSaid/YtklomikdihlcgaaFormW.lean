/- Forming and Turning, on both sides. -/
import Derived.Test.YtklomikdihlcgaaCutW
namespace Go.Proofs.Ytklomikdihlcgaa
open Go.RowKit PBase
open Go.Proofs.YtklomikdihlcgaaW.PrintWords Go.Proofs.YtklomikdihlcgaaW.PrintLast Go.Proofs.YtklomikdihlcgaaW.PrintMore
set_option linter.unusedVariables false
set_option linter.unusedSimpArgs false

set_option maxHeartbeats 2000000 in
set_option maxRecDepth 100000 in
theorem Forming_good (R C : Nat) (wd : Int) (r c n : Nat) (w : World) (hn1 : n ≤ 4096) (h1 : R * C = n) (h2 : r * c = n) (h5 : 1 ≤ n) (hr : 1 ≤ r) (hc : 1 ≤ c) :
    Calls Try.prog 73 #[.agg #[.int .i64 R, .int .i64 C, .int .i64 wd], .int .i64 r, .int .i64 c] w fun e w' => ∃ v, e = .returned (.tuple #[.agg #[.int .i64 r, .int .i64 c, .int .i64 wd, v], .int .i64 0]) ∧ Places w w' v (rowP (fun _ b => b) 0 0 (n - 0)) ∧ Below w.heap.size w w' := by
  go_enter Try.func73, Try.ntmps73
  have HF := Aside0.mk (And.intro hn1 (And.intro h1 (And.intro h2 (And.intro h5 (And.intro hr hc)))))
  have hs1 : wrap64 ((R : Int) * (C : Int)) = (n : Int) := by rw [← Int.natCast_mul, h1, IntWalk.wrap64_in (n : Int) (by omega)]
  have hs2 : wrap64 ((r : Int) * (c : Int)) = (n : Int) := by rw [← Int.natCast_mul, h2, IntWalk.wrap64_in (n : Int) (by omega)]
  have d1 : decide ((r : Int) < 1) = false := decide_eq_false (by omega)
  have d2 : decide ((c : Int) < 1) = false := decide_eq_false (by omega)
  have d3 : decide (n < r) = false := decide_eq_false (by have := Nat.le_mul_of_pos_right r (show 0 < c by omega); omega)
  have d4 : decide (n < c) = false := decide_eq_false (by have := Nat.le_mul_of_pos_left c (show 0 < r by omega); omega)
  have d5 : decide ((4096 : Int) < (r : Int)) = false := decide_eq_false (by have := Nat.le_mul_of_pos_right r (show 0 < c by omega); omega)
  have d6 : decide ((4096 : Int) < (c : Int)) = false := decide_eq_false (by have := Nat.le_mul_of_pos_left c (show 0 < r by omega); omega)
  clear hn1 h1 h2 h5 hr hc
  go_wp2
  simp only [hs1, hs2]
  clear d1 d2 d3 d4 d5 d6 hs1
  generalize hw1 : (((w.alloc (Obj.cells #[Value.int IntKind.i64 R, Value.int IntKind.i64 C, Value.int IntKind.i64 wd] 34)).alloc (Obj.cells #[Value.int IntKind.i64 0, Value.int IntKind.i64 0, Value.int IntKind.i64 0, Value.slice none 0 0] 93)).alloc (Obj.cells #[Value.int IntKind.i64 r, Value.int IntKind.i64 c, Value.int IntKind.i64 wd, Value.slice none 0 0] 93)) = w1
  have H0 : Aside0 (IsB w1 w.heap.size (row3 R C wd) 34) := ⟨by rw [← hw1]; exact blk_alloc (blk_alloc (blk_new _ _) _) _⟩
  have H1 : Aside0 (IsB w1 (w.heap.size + 1) (row4 0 0 0 (.slice none 0 0)) 93) := ⟨by rw [← hw1]; exact blk_alloc (new1 w _ _ 34 93) _⟩
  have H2 : Aside0 (IsB w1 (w.heap.size + 1 + 1) (row4 r c wd (.slice none 0 0)) 93) := ⟨by rw [← hw1]; have h := blk_new ((w.alloc (Obj.cells #[Value.int IntKind.i64 R, Value.int IntKind.i64 C, Value.int IntKind.i64 wd] 34)).alloc (Obj.cells #[Value.int IntKind.i64 0, Value.int IntKind.i64 0, Value.int IntKind.i64 0, Value.slice none 0 0] 93)) (Obj.cells #[Value.int IntKind.i64 r, Value.int IntKind.i64 c, Value.int IntKind.i64 wd, Value.slice none 0 0] 93); simp only [World.size_alloc] at h; exact h⟩
  have HB : Aside0 (Below w.heap.size w w1) := ⟨by rw [← hw1]; exact below_alloc (below_alloc (below_alloc (Below.refl _ _) _) _) _⟩
  clear hw1
  go_loopg [47] n (fun kq vo w' => ∃ q : Nat, vo = .int .i64 q ∧ Aside0 (q + kq = n) ∧ Aside0 (IsB w' w.heap.size (row3 R C wd) 34) ∧ Aside0 (IsB w' (w.heap.size + 1) (row4 0 0 0 (.slice none 0 0)) 93) ∧ (∃ v, Aside0 (IsB w' (w.heap.size + 1 + 1) (row4 r c wd v) 93) ∧ Aside0 (Places w w' v (rowP (fun _ b => b) 0 0 (q - 0)))) ∧ Aside0 (Below w.heap.size w w'))
  case atStart => exact ⟨0, rfl, ⟨by omega⟩, H0, H1, ⟨_, H2, ⟨by rw [rowP_zero]; exact Kd.R_nil _ _ _ _ _⟩⟩, HB⟩
  case round =>
    clear H0 H1 H2 HB
    obtain ⟨q, rfl, HI, H0, H1, ⟨v, H2, HP⟩, HB⟩ := hrel
    by_cases hlt : q < n
    · have d1 : decide (q < n) = true := decide_eq_true hlt
      have HI2 := Aside0.mk hlt
      clear hlt
      have m3 := blk_cell H2.out 3
      simp only [List.getElem?_toArray, List.getElem?_cons_zero, List.getElem?_cons_succ] at m3
      have rf3 := blk_frozen H2.out 3
      have HL : Aside0 (((rowP (fun _ b => b) 0 0 (q - 0)).length + 1) * 16 ≤ 140737488355328) := ⟨by rw [rowP_length]; have := HI2.out; have := HF.out; omega⟩
      go_wp2_with ((with_reducible refine gate_builtin (b := .append) (xs := #[.tmp 51, .tmp 54]) rfl ?_); at_builtin; refine Kd.R_append two (w0 := w) w.heap.size rfl (.tmp 51) (.tmp 54) 58 99 (.agg #[.int .i64 0, .int .i64 0]) 16 rfl Try.underlying58 info99 rfl (by decide) (by omega) v (rowP (fun _ b => b) 0 0 (q - 0)) (0, (q : Int)) [.int .i64 0, .int .i64 (q : Int)] (fun _ => True) (fun _ => False) rfl rfl ?aP (fun _ hk => hk.elim) ?aF ?aO ?aB ?aS ?aL ?_; (case aP => exact ⟨[_], [_], rfl, rfl, rfl⟩); (case aB => exact HB.out); (case aF => exact (fun _ _ => trivial)); (case aO => exact HP.out); (case aS => exact below_size HB.out); (case aL => exact HL.out); intro v9 w7 ho hb hg hat; have HP2 : Aside0 (Places w w7 v9 (rowP (fun _ b => b) 0 0 (q + 1 - 0))) := ⟨by rw [rowP_succ _ _ _ _ (Nat.zero_le _)]; exact ho⟩; have hne := Kd.R_ne HP.out H0.out (by decide); have HH0 := Aside0.mk (blk_grown H0.out hg (Kd.R_ne HP.out H0.out (by decide))); have HH1 := Aside0.mk (blk_grown H1.out hg (Kd.R_ne HP.out H1.out (by decide))); have HH2 := Aside0.mk (blk_grown H2.out hg (Kd.R_ne HP.out H2.out (by decide))); have HB2 := Aside0.mk hb; clear ho hb hg hat HP H0 H1 H2 HB hne m3 rf3 HL; have m3 := blk_cell HH2.out 3; simp at m3; have rf3 := blk_frozen HH2.out 3; obtain ⟨A9, c9, hv9⟩ := Kd.R_slice HP2.out; generalize (rowP (fun _ b => b) 0 0 (q + 1 - 0)).length = ln at hv9; subst hv9)
      go_roundg (gk - 1)
      case measure => have := HI.out; have := HI2.out; omega
      case rel => exact ⟨q + 1, next_i (by have := HI2.out; have := HF.out; omega), ⟨by have := HI.out; have := HI2.out; omega⟩, ⟨blk_far HH0.out (by show w.heap.size ≠ w.heap.size + 1 + 1; omega) _⟩, ⟨blk_far HH1.out (by show w.heap.size + 1 ≠ w.heap.size + 1 + 1; omega) _⟩, ⟨_, ⟨blk_set HH2.out 3 _⟩, ⟨Kd.R_set HP2.out HH2.out (two_E 93 (by decide)) 3 _⟩⟩, ⟨below_set HB2.out (by omega)⟩⟩
    · have d1 : decide (q < n) = false := decide_eq_false hlt
      have hj : q = n := by have := HI.out; omega
      clear HI
      subst hj
      obtain ⟨A, cp, hv⟩ := Kd.R_slice HP.out
      generalize (rowP (fun _ b => b) 0 0 (q - 0)).length = ln at hv
      subst hv
      have m0 := blk_cell H2.out 0
      have m1 := blk_cell H2.out 1
      have m2 := blk_cell H2.out 2
      have m3 := blk_cell H2.out 3
      simp only [List.getElem?_toArray, List.getElem?_cons_zero, List.getElem?_cons_succ] at m0 m1 m2 m3
      have n_0 := blk_cell H1.out 0
      have n_1 := blk_cell H1.out 1
      have n_2 := blk_cell H1.out 2
      have n_3 := blk_cell H1.out 3
      simp only [List.getElem?_toArray, List.getElem?_cons_zero, List.getElem?_cons_succ] at n_0 n_1 n_2 n_3
      have rf0 := blk_frozen H1.out 0
      have rf1 := blk_frozen H1.out 1
      have rf2 := blk_frozen H1.out 2
      have rf3 := blk_frozen H1.out 3
      go_wp2
      have HE := isB_set4 H1.out (.int .i64 r) (.int .i64 c) (.int .i64 wd) (.slice A ln cp)
      have e0 := blk_cell HE 0
      have e1 := blk_cell HE 1
      have e2 := blk_cell HE 2
      have e3 := blk_cell HE 3
      simp only [List.getElem?_toArray, List.getElem?_cons_zero, List.getElem?_cons_succ] at e0 e1 e2 e3
      refine bodyPost_ret (v := .tuple #[.agg #[.int .i64 r, .int .i64 c, .int .i64 wd, .slice A ln cp], .int .i64 0]) (by simp [results, Try.results73, go_sem, e0, e1, e2, e3]) rfl ?_
      exact ⟨_, rfl, R_set4 HP.out H1.out (two_E 93 (by decide)) _ _ _ _, below_set4 HB.out (by omega) _ _ _ _⟩

set_option maxHeartbeats 2000000 in
set_option maxRecDepth 100000 in
theorem refForm_good (R C : Nat) (wd : Int) (r c n : Nat) (w : World) (hn1 : n ≤ 4096) (h1 : R * C = n) (h2 : r * c = n) (h5 : 1 ≤ n) (hr : 1 ≤ r) (hc : 1 ≤ c) :
    Calls Try.prog 39 #[.agg #[.int .i64 R, .int .i64 C, .int .i64 wd], .int .i64 r, .int .i64 c] w fun e w' => ∃ v, e = .returned (.tuple #[.agg #[.int .i64 r, .int .i64 c, .int .i64 wd, v], .int .i64 0]) ∧ Places w w' v (rowP (fun _ b => b) 0 0 (n - 0)) ∧ Below w.heap.size w w' := by
  go_enter Try.func39, Try.ntmps39
  have HF := Aside0.mk (And.intro hn1 (And.intro h1 (And.intro h2 (And.intro h5 (And.intro hr hc)))))
  have hs1 : wrap64 ((R : Int) * (C : Int)) = (n : Int) := by rw [← Int.natCast_mul, h1, IntWalk.wrap64_in (n : Int) (by omega)]
  have hs2 : wrap64 ((r : Int) * (c : Int)) = (n : Int) := by rw [← Int.natCast_mul, h2, IntWalk.wrap64_in (n : Int) (by omega)]
  have d1 : decide ((r : Int) < 1) = false := decide_eq_false (by omega)
  have d2 : decide ((c : Int) < 1) = false := decide_eq_false (by omega)
  have d3 : decide (n < r) = false := decide_eq_false (by have := Nat.le_mul_of_pos_right r (show 0 < c by omega); omega)
  have d4 : decide (n < c) = false := decide_eq_false (by have := Nat.le_mul_of_pos_left c (show 0 < r by omega); omega)
  have d5 : decide ((4096 : Int) < (r : Int)) = false := decide_eq_false (by have := Nat.le_mul_of_pos_right r (show 0 < c by omega); omega)
  have d6 : decide ((4096 : Int) < (c : Int)) = false := decide_eq_false (by have := Nat.le_mul_of_pos_left c (show 0 < r by omega); omega)
  clear hn1 h1 h2 h5 hr hc
  go_wp2
  simp only [hs1, hs2]
  clear d1 d2 d3 d4 d5 d6 hs1
  generalize hw1 : (((w.alloc (Obj.cells #[Value.int IntKind.i64 R, Value.int IntKind.i64 C, Value.int IntKind.i64 wd] 34)).alloc (Obj.cells #[Value.int IntKind.i64 0, Value.int IntKind.i64 0, Value.int IntKind.i64 0, Value.slice none 0 0] 60)).alloc (Obj.cells #[Value.int IntKind.i64 r, Value.int IntKind.i64 c, Value.int IntKind.i64 wd, Value.slice none 0 0] 60)) = w1
  have H0 : Aside0 (IsB w1 w.heap.size (row3 R C wd) 34) := ⟨by rw [← hw1]; exact blk_alloc (blk_alloc (blk_new _ _) _) _⟩
  have H1 : Aside0 (IsB w1 (w.heap.size + 1) (row4 0 0 0 (.slice none 0 0)) 60) := ⟨by rw [← hw1]; exact blk_alloc (new1 w _ _ 34 60) _⟩
  have H2 : Aside0 (IsB w1 (w.heap.size + 1 + 1) (row4 r c wd (.slice none 0 0)) 60) := ⟨by rw [← hw1]; have h := blk_new ((w.alloc (Obj.cells #[Value.int IntKind.i64 R, Value.int IntKind.i64 C, Value.int IntKind.i64 wd] 34)).alloc (Obj.cells #[Value.int IntKind.i64 0, Value.int IntKind.i64 0, Value.int IntKind.i64 0, Value.slice none 0 0] 60)) (Obj.cells #[Value.int IntKind.i64 r, Value.int IntKind.i64 c, Value.int IntKind.i64 wd, Value.slice none 0 0] 60); simp only [World.size_alloc] at h; exact h⟩
  have HB : Aside0 (Below w.heap.size w w1) := ⟨by rw [← hw1]; exact below_alloc (below_alloc (below_alloc (Below.refl _ _) _) _) _⟩
  clear hw1
  go_loopg [9] n (fun kq vo w' => ∃ q : Nat, vo = .int .i64 q ∧ Aside0 (q + kq = n) ∧ Aside0 (IsB w' w.heap.size (row3 R C wd) 34) ∧ Aside0 (IsB w' (w.heap.size + 1) (row4 0 0 0 (.slice none 0 0)) 60) ∧ (∃ v, Aside0 (IsB w' (w.heap.size + 1 + 1) (row4 r c wd v) 60) ∧ Aside0 (Places w w' v (rowP (fun _ b => b) 0 0 (q - 0)))) ∧ Aside0 (Below w.heap.size w w'))
  case atStart => exact ⟨0, rfl, ⟨by omega⟩, H0, H1, ⟨_, H2, ⟨by rw [rowP_zero]; exact Kd.R_nil _ _ _ _ _⟩⟩, HB⟩
  case round =>
    clear H0 H1 H2 HB
    obtain ⟨q, rfl, HI, H0, H1, ⟨v, H2, HP⟩, HB⟩ := hrel
    by_cases hlt : q < n
    · have d1 : decide (q < n) = true := decide_eq_true hlt
      have HI2 := Aside0.mk hlt
      clear hlt
      have m3 := blk_cell H2.out 3
      simp only [List.getElem?_toArray, List.getElem?_cons_zero, List.getElem?_cons_succ] at m3
      have rf3 := blk_frozen H2.out 3
      have HL : Aside0 (((rowP (fun _ b => b) 0 0 (q - 0)).length + 1) * 16 ≤ 140737488355328) := ⟨by rw [rowP_length]; have := HI2.out; have := HF.out; omega⟩
      go_wp2_with ((with_reducible refine gate_builtin (b := .append) (xs := #[.tmp 50, .tmp 53]) rfl ?_); at_builtin; refine Kd.R_append two (w0 := w) w.heap.size rfl (.tmp 50) (.tmp 53) 58 99 (.agg #[.int .i64 0, .int .i64 0]) 16 rfl Try.underlying58 info99 rfl (by decide) (by omega) v (rowP (fun _ b => b) 0 0 (q - 0)) (0, (q : Int)) [.int .i64 0, .int .i64 (q : Int)] (fun _ => True) (fun _ => False) rfl rfl ?aP (fun _ hk => hk.elim) ?aF ?aO ?aB ?aS ?aL ?_; (case aP => exact ⟨[_], [_], rfl, rfl, rfl⟩); (case aB => exact HB.out); (case aF => exact (fun _ _ => trivial)); (case aO => exact HP.out); (case aS => exact below_size HB.out); (case aL => exact HL.out); intro v9 w7 ho hb hg hat; have HP2 : Aside0 (Places w w7 v9 (rowP (fun _ b => b) 0 0 (q + 1 - 0))) := ⟨by rw [rowP_succ _ _ _ _ (Nat.zero_le _)]; exact ho⟩; have hne := Kd.R_ne HP.out H0.out (by decide); have HH0 := Aside0.mk (blk_grown H0.out hg (Kd.R_ne HP.out H0.out (by decide))); have HH1 := Aside0.mk (blk_grown H1.out hg (Kd.R_ne HP.out H1.out (by decide))); have HH2 := Aside0.mk (blk_grown H2.out hg (Kd.R_ne HP.out H2.out (by decide))); have HB2 := Aside0.mk hb; clear ho hb hg hat HP H0 H1 H2 HB hne m3 rf3 HL; have m3 := blk_cell HH2.out 3; simp at m3; have rf3 := blk_frozen HH2.out 3; obtain ⟨A9, c9, hv9⟩ := Kd.R_slice HP2.out; generalize (rowP (fun _ b => b) 0 0 (q + 1 - 0)).length = ln at hv9; subst hv9)
      go_roundg (gk - 1)
      case measure => have := HI.out; have := HI2.out; omega
      case rel => exact ⟨q + 1, next_i (by have := HI2.out; have := HF.out; omega), ⟨by have := HI.out; have := HI2.out; omega⟩, ⟨blk_far HH0.out (by show w.heap.size ≠ w.heap.size + 1 + 1; omega) _⟩, ⟨blk_far HH1.out (by show w.heap.size + 1 ≠ w.heap.size + 1 + 1; omega) _⟩, ⟨_, ⟨blk_set HH2.out 3 _⟩, ⟨Kd.R_set HP2.out HH2.out (two_E 60 (by decide)) 3 _⟩⟩, ⟨below_set HB2.out (by omega)⟩⟩
    · have d1 : decide (q < n) = false := decide_eq_false hlt
      have hj : q = n := by have := HI.out; omega
      clear HI
      subst hj
      obtain ⟨A, cp, hv⟩ := Kd.R_slice HP.out
      generalize (rowP (fun _ b => b) 0 0 (q - 0)).length = ln at hv
      subst hv
      have m0 := blk_cell H2.out 0
      have m1 := blk_cell H2.out 1
      have m2 := blk_cell H2.out 2
      have m3 := blk_cell H2.out 3
      simp only [List.getElem?_toArray, List.getElem?_cons_zero, List.getElem?_cons_succ] at m0 m1 m2 m3
      have n_0 := blk_cell H1.out 0
      have n_1 := blk_cell H1.out 1
      have n_2 := blk_cell H1.out 2
      have n_3 := blk_cell H1.out 3
      simp only [List.getElem?_toArray, List.getElem?_cons_zero, List.getElem?_cons_succ] at n_0 n_1 n_2 n_3
      have rf0 := blk_frozen H1.out 0
      have rf1 := blk_frozen H1.out 1
      have rf2 := blk_frozen H1.out 2
      have rf3 := blk_frozen H1.out 3
      go_wp2
      have HE := isB_set4 H1.out (.int .i64 r) (.int .i64 c) (.int .i64 wd) (.slice A ln cp)
      have e0 := blk_cell HE 0
      have e1 := blk_cell HE 1
      have e2 := blk_cell HE 2
      have e3 := blk_cell HE 3
      simp only [List.getElem?_toArray, List.getElem?_cons_zero, List.getElem?_cons_succ] at e0 e1 e2 e3
      refine bodyPost_ret (v := .tuple #[.agg #[.int .i64 r, .int .i64 c, .int .i64 wd, .slice A ln cp], .int .i64 0]) (by simp [results, Try.results39, go_sem, e0, e1, e2, e3]) rfl ?_
      exact ⟨_, rfl, R_set4 HP.out H1.out (two_E 60 (by decide)) _ _ _ _, below_set4 HB.out (by omega) _ _ _ _⟩

theorem mul_ok' {r c : Int} (h1 : 1 ≤ r) (h2 : 1 ≤ c) (h3 : r ≤ 4096) (h4 : c ≤ 4096) : wrap64 (r * c) = r * c := by
  have a : r * c ≤ 4096 * 4096 := Int.mul_le_mul h3 h4 (by omega) (by omega)
  have b : 1 * 1 ≤ r * c := Int.mul_le_mul h1 h2 (by omega) (by omega)
  exact IntWalk.wrap64_in (r * c) (by omega)
/-- there is no such form -/
def formOk (r c n : Int) : Prop := 1 ≤ r ∧ 1 ≤ c ∧ r ≤ 4096 ∧ c ≤ 4096 ∧ r * c = n
theorem form_last {r c : Int} {n : Nat} (h : ¬ formOk r c n) (h0 : ¬ r < 1) (h1 : ¬ c < 1) (h2 : r ≤ 4096) (h3 : c ≤ 4096) : (wrap64 (r * c) != (n : Int)) = true := by
  unfold formOk at h
  rw [(mul_ok' (by omega) (by omega) h2 h3)]
  have : r * c ≠ n := fun e => h ⟨by omega, by omega, h2, h3, e⟩
  simpa using this

set_option maxHeartbeats 2000000 in
set_option maxRecDepth 100000 in
theorem Forming_bad (R C n : Nat) (wd r c : Int) (w : World) (hn : R * C = n) (hn1 : n ≤ 4096) (h : ¬ formOk r c n) :
    Calls Try.prog 73 #[.agg #[.int .i64 R, .int .i64 C, .int .i64 wd], .int .i64 r, .int .i64 c] w fun e w' => e = .returned (.tuple #[.agg (row4 0 0 0 (.slice none 0 0)), .int .i64 4]) ∧ Below w.heap.size w w' := by
  go_enter Try.func73, Try.ntmps73
  have hs1 : wrap64 ((R : Int) * (C : Int)) = (n : Int) := by rw [← Int.natCast_mul, hn, IntWalk.wrap64_in (n : Int) (by omega)]
  clear hn
  by_cases g0 : r < 1
  · skip
    go_wp2
    refine bodyPost_ret (v := .tuple #[.agg (row4 0 0 0 (.slice none 0 0)), .int .i64 4]) (by simp [results, Try.results73, go_sem]) rfl ?_
    exact ⟨rfl, below_alloc (below_alloc (Below.refl _ _) _) _⟩
  · skip
    by_cases g1 : c < 1
    · skip
      go_wp2
      refine bodyPost_ret (v := .tuple #[.agg (row4 0 0 0 (.slice none 0 0)), .int .i64 4]) (by simp [results, Try.results73, go_sem]) rfl ?_
      exact ⟨rfl, below_alloc (below_alloc (Below.refl _ _) _) _⟩
    · skip
      by_cases g2 : r > (n : Int)
      · skip
        go_wp2
        refine bodyPost_ret (v := .tuple #[.agg (row4 0 0 0 (.slice none 0 0)), .int .i64 4]) (by simp [results, Try.results73, go_sem]) rfl ?_
        exact ⟨rfl, below_alloc (below_alloc (Below.refl _ _) _) _⟩
      · skip
        by_cases g3 : c > (n : Int)
        · skip
          go_wp2
          refine bodyPost_ret (v := .tuple #[.agg (row4 0 0 0 (.slice none 0 0)), .int .i64 4]) (by simp [results, Try.results73, go_sem]) rfl ?_
          exact ⟨rfl, below_alloc (below_alloc (Below.refl _ _) _) _⟩
        · skip
          have g4 : (wrap64 (r * c) != (n : Int)) = true ∧ (wrap64 (r * c) != wrap64 ((R : Int) * (C : Int))) = true := by rw [hs1]; exact ⟨form_last h g0 g1 (by omega) (by omega), form_last h g0 g1 (by omega) (by omega)⟩
          obtain ⟨g4a, g4b⟩ := g4
          go_wp2
          refine bodyPost_ret (v := .tuple #[.agg (row4 0 0 0 (.slice none 0 0)), .int .i64 4]) (by simp [results, Try.results73, go_sem]) rfl ?_
          exact ⟨rfl, below_alloc (below_alloc (Below.refl _ _) _) _⟩

set_option maxHeartbeats 2000000 in
set_option maxRecDepth 100000 in
theorem refForm_bad (R C n : Nat) (wd r c : Int) (w : World) (hn : R * C = n) (hn1 : n ≤ 4096) (h : ¬ formOk r c n) :
    Calls Try.prog 39 #[.agg #[.int .i64 R, .int .i64 C, .int .i64 wd], .int .i64 r, .int .i64 c] w fun e w' => e = .returned (.tuple #[.agg (row4 0 0 0 (.slice none 0 0)), .int .i64 4]) ∧ Below w.heap.size w w' := by
  go_enter Try.func39, Try.ntmps39
  have hs1 : wrap64 ((R : Int) * (C : Int)) = (n : Int) := by rw [← Int.natCast_mul, hn, IntWalk.wrap64_in (n : Int) (by omega)]
  clear hn
  by_cases g0 : r < 1
  · skip
    go_wp2
    refine bodyPost_ret (v := .tuple #[.agg (row4 0 0 0 (.slice none 0 0)), .int .i64 4]) (by simp [results, Try.results39, go_sem]) rfl ?_
    exact ⟨rfl, below_alloc (below_alloc (Below.refl _ _) _) _⟩
  · skip
    by_cases g1 : c < 1
    · skip
      go_wp2
      refine bodyPost_ret (v := .tuple #[.agg (row4 0 0 0 (.slice none 0 0)), .int .i64 4]) (by simp [results, Try.results39, go_sem]) rfl ?_
      exact ⟨rfl, below_alloc (below_alloc (Below.refl _ _) _) _⟩
    · skip
      by_cases g2 : r > 4096
      · skip
        go_wp2
        refine bodyPost_ret (v := .tuple #[.agg (row4 0 0 0 (.slice none 0 0)), .int .i64 4]) (by simp [results, Try.results39, go_sem]) rfl ?_
        exact ⟨rfl, below_alloc (below_alloc (Below.refl _ _) _) _⟩
      · skip
        by_cases g3 : c > 4096
        · skip
          go_wp2
          refine bodyPost_ret (v := .tuple #[.agg (row4 0 0 0 (.slice none 0 0)), .int .i64 4]) (by simp [results, Try.results39, go_sem]) rfl ?_
          exact ⟨rfl, below_alloc (below_alloc (Below.refl _ _) _) _⟩
        · skip
          have g4 : (wrap64 (r * c) != (n : Int)) = true ∧ (wrap64 (r * c) != wrap64 ((R : Int) * (C : Int))) = true := by rw [hs1]; exact ⟨form_last h g0 g1 (by omega) (by omega), form_last h g0 g1 (by omega) (by omega)⟩
          obtain ⟨g4a, g4b⟩ := g4
          go_wp2
          refine bodyPost_ret (v := .tuple #[.agg (row4 0 0 0 (.slice none 0 0)), .int .i64 4]) (by simp [results, Try.results39, go_sem]) rfl ?_
          exact ⟨rfl, below_alloc (below_alloc (Below.refl _ _) _) _⟩

set_option maxHeartbeats 2000000 in
set_option maxRecDepth 100000 in
theorem refTurn_calls (R C : Nat) (wd : Int) (w : World) (hR : R ≤ 4096) (hC : C ≤ 4096) :
    Calls Try.prog 38 #[.agg #[.int .i64 R, .int .i64 C, .int .i64 wd]] w fun e w' => ∃ v, e = .returned (.agg #[.int .i64 C, .int .i64 R, .int .i64 wd, v]) ∧ Places w w' v (turnL R C C) ∧ Below w.heap.size w w' := by
  go_enter Try.func38, Try.ntmps38
  have HF := Aside0.mk (And.intro hR hC)
  clear hR hC
  go_wp2
  generalize hw1 : (((w.alloc (Obj.cells #[Value.int IntKind.i64 R, Value.int IntKind.i64 C, Value.int IntKind.i64 wd] 34)).alloc (Obj.cells #[Value.int IntKind.i64 0, Value.int IntKind.i64 0, Value.int IntKind.i64 0, Value.slice none 0 0] 60)).alloc (Obj.cells #[Value.int IntKind.i64 C, Value.int IntKind.i64 R, Value.int IntKind.i64 wd, Value.slice none 0 0] 60)) = w1
  have H0 : Aside0 (IsB w1 w.heap.size (row3 R C wd) 34) := ⟨by rw [← hw1]; exact blk_alloc (blk_alloc (blk_new _ _) _) _⟩
  have H1 : Aside0 (IsB w1 (w.heap.size + 1) (row4 0 0 0 (.slice none 0 0)) 60) := ⟨by rw [← hw1]; exact blk_alloc (new1 w _ _ 34 60) _⟩
  have H2 : Aside0 (IsB w1 (w.heap.size + 1 + 1) (row4 C R wd (.slice none 0 0)) 60) := ⟨by rw [← hw1]; have h := blk_new ((w.alloc (Obj.cells #[Value.int IntKind.i64 R, Value.int IntKind.i64 C, Value.int IntKind.i64 wd] 34)).alloc (Obj.cells #[Value.int IntKind.i64 0, Value.int IntKind.i64 0, Value.int IntKind.i64 0, Value.slice none 0 0] 60)) (Obj.cells #[Value.int IntKind.i64 C, Value.int IntKind.i64 R, Value.int IntKind.i64 wd, Value.slice none 0 0] 60); simp only [World.size_alloc] at h; exact h⟩
  have HB : Aside0 (Below w.heap.size w w1) := ⟨by rw [← hw1]; exact below_alloc (below_alloc (below_alloc (Below.refl _ _) _) _) _⟩
  clear hw1
  go_loopg [4] C (fun kq vo w' => ∃ p : Nat, vo = .int .i64 p ∧ Aside0 (0 ≤ p ∧ p + kq = C) ∧ Aside0 (IsB w' w.heap.size (row3 R C wd) 34) ∧ Aside0 (IsB w' (w.heap.size + 1) (row4 0 0 0 (.slice none 0 0)) 60) ∧ (∃ v, Aside0 (IsB w' (w.heap.size + 1 + 1) (row4 C R wd v) 60) ∧ Aside0 (Places w w' v (turnL R C p))) ∧ Aside0 (Below w.heap.size w w'))
  case atStart => exact ⟨0, rfl, ⟨by omega⟩, H0, H1, ⟨_, H2, ⟨by show Kd.R _ _ _ _ _ _ []; exact Kd.R_nil _ _ _ _ _⟩⟩, HB⟩
  case round =>
    clear H0 H1 H2 HB
    obtain ⟨p, rfl, HJ, H0, H1, ⟨v, H2, HP⟩, HB⟩ := hrel
    have a0 := blk_cell H0.out 0
    have a1 := blk_cell H0.out 1
    have a2 := blk_cell H0.out 2
    simp only [List.getElem?_toArray, List.getElem?_cons_zero, List.getElem?_cons_succ] at a0 a1 a2
    have m0 := blk_cell H2.out 0
    have m1 := blk_cell H2.out 1
    have m2 := blk_cell H2.out 2
    have m3 := blk_cell H2.out 3
    simp only [List.getElem?_toArray, List.getElem?_cons_zero, List.getElem?_cons_succ] at m0 m1 m2 m3
    have n0 := blk_cell H1.out 0
    have n1 := blk_cell H1.out 1
    have n2 := blk_cell H1.out 2
    have n3 := blk_cell H1.out 3
    simp only [List.getElem?_toArray, List.getElem?_cons_zero, List.getElem?_cons_succ] at n0 n1 n2 n3
    have rf0 := blk_frozen H1.out 0
    have rf1 := blk_frozen H1.out 1
    have rf2 := blk_frozen H1.out 2
    have rf3 := blk_frozen H1.out 3
    by_cases hlt : p < C
    · have d1 : decide (p < C) = true := decide_eq_true hlt
      have HLT := Aside0.mk hlt
      clear hlt
      go_wp2
      clear a0 a1 a2 m0 m1 m2 m3 n0 n1 n2 n3 rf0 rf1 rf2 rf3
      have HP0 : Aside0 (Places w wr v (turnL R C p ++ colL R C p (0))) := ⟨by simp only [colL, List.range_zero, List.map_nil]; rw [List.append_nil]; exact HP.out⟩
      clear HP d1
      obtain ⟨gk0, hgk0⟩ : ∃ x : Nat, x = gk := ⟨_, rfl⟩
      have HG0 := Aside0.mk hgk0
      clear hgk0
      go_loopg [5] R (fun kq vi w' => ∃ q : Nat, vi = .int .i64 q ∧ Aside0 (0 ≤ q ∧ q + kq = R) ∧ Aside0 (IsB w' w.heap.size (row3 R C wd) 34) ∧ Aside0 (IsB w' (w.heap.size + 1) (row4 0 0 0 (.slice none 0 0)) 60) ∧ (∃ v, Aside0 (IsB w' (w.heap.size + 1 + 1) (row4 C R wd v) 60) ∧ Aside0 (Places w w' v (turnL R C p ++ colL R C p (q)))) ∧ Aside0 (Below w.heap.size w w'))
      case atStart => exact ⟨0, rfl, ⟨by omega⟩, H0, H1, ⟨_, H2, HP0⟩, HB⟩
      case round =>
        clear H0 H1 H2 HB HP0
        obtain ⟨q, rfl, HI, H0, H1, ⟨v, H2, HP⟩, HB⟩ := hrel
        have a1 := blk_cell H0.out 1
        have a0 := blk_cell H0.out 0
        have m3 := blk_cell H2.out 3
        simp only [List.getElem?_toArray, List.getElem?_cons_zero, List.getElem?_cons_succ] at a0 a1 m3
        have rf3 := blk_frozen H2.out 3
        by_cases hlt : q < R
        · have d1 : decide (q < R) = true := decide_eq_true hlt
          have HI2 : Aside0 (q < R) := ⟨hlt⟩
          clear hlt
          have HL : Aside0 (((turnL R C p ++ colL R C p (q)).length + 1) * 16 ≤ 140737488355328) := ⟨by have h := HF.out; have h1 := HLT.out; have h2 := HI2.out; have h3 : p * R ≤ 4096 * 4096 := Nat.mul_le_mul (by omega) h.1; rw [List.length_append, turnL_length, colL_length]; omega⟩
          have HX : Aside0 (wrap64 (wrap64 ((q : Int) * (C : Int)) + (p : Int)) = ((q * C + p : Nat) : Int)) := ⟨place_ok (by have := HF.out; have := HI2.out; omega) (by have := HF.out; omega) (by have := HF.out; have := HLT.out; omega)⟩
          go_wp2_with ((with_reducible refine gate_builtin (b := .append) (xs := #[.tmp 27, .tmp 35]) rfl ?_); at_builtin; refine Kd.R_append two (w0 := w) w.heap.size rfl (.tmp 27) (.tmp 35) 58 99 (.agg #[.int .i64 0, .int .i64 0]) 16 rfl Try.underlying58 info99 rfl (by decide) (by omega) v (turnL R C p ++ colL R C p (q)) (0, wrap64 (wrap64 ((q : Int) * (C : Int)) + (p : Int))) [.int .i64 0, .int .i64 (wrap64 (wrap64 ((q : Int) * (C : Int)) + (p : Int)))] (fun _ => True) (fun _ => False) rfl rfl ?aP (fun _ hk => hk.elim) ?aF ?aO ?aB ?aS ?aL ?_; (case aP => exact ⟨[_], [_], rfl, rfl, rfl⟩); (case aB => exact HB.out); (case aF => exact (fun _ _ => trivial)); (case aO => exact HP.out); (case aS => exact below_size HB.out); (case aL => exact HL.out); intro v9 w7 ho hb hg hat; have HP2 : Aside0 (Places w w7 v9 (turnL R C p ++ colL R C p (q + 1))) := ⟨by rw [colL_succ, ← List.append_assoc]; exact Places.snoc ho HX.out⟩; have hne := Kd.R_ne HP.out H0.out (by decide); have HH0 := Aside0.mk (blk_grown H0.out hg (Kd.R_ne HP.out H0.out (by decide))); have HH1 := Aside0.mk (blk_grown H1.out hg (Kd.R_ne HP.out H1.out (by decide))); have HH2 := Aside0.mk (blk_grown H2.out hg (Kd.R_ne HP.out H2.out (by decide))); have HB2 := Aside0.mk hb; clear ho hb hg hat HP H0 H1 H2 HB hne a0 a1 m3 rf3 HL HX; have m3 := blk_cell HH2.out 3; simp at m3; have rf3 := blk_frozen HH2.out 3; obtain ⟨A9, c9, hv9⟩ := Kd.R_slice HP2.out; generalize (turnL R C p ++ colL R C p (q + 1)).length = ln at hv9; subst hv9)
          go_roundg (gk - 1)
          case measure => have := HI.out; have := HI2.out; omega
          case rel => exact ⟨q + 1, next_i (by have := HI2.out; have := HF.out; omega), ⟨by have := HI.out; have := HI2.out; omega⟩, ⟨blk_far HH0.out (by show w.heap.size ≠ w.heap.size + 1 + 1; omega) _⟩, ⟨blk_far HH1.out (by show w.heap.size + 1 ≠ w.heap.size + 1 + 1; omega) _⟩, ⟨_, ⟨blk_set HH2.out 3 _⟩, ⟨Kd.R_set HP2.out HH2.out (two_E 60 (by decide)) 3 _⟩⟩, ⟨below_set HB2.out (by omega)⟩⟩
        · have d1 : decide (q < R) = false := decide_eq_false hlt
          have hi : q = R := by have := HI.out; omega
          clear HI
          subst hi
          go_wp2
          go_roundg (gk0 - 1)
          case measure => have := HJ.out; have := HLT.out; have := HG0.out; omega
          case rel => exact ⟨p + 1, next_i (by have := HLT.out; have := HF.out; omega), ⟨by have := HJ.out; have := HLT.out; have := HG0.out; omega⟩, H0, H1, ⟨_, H2, ⟨by rw [turnL_succ]; exact HP.out⟩⟩, HB⟩
    · have d1 : decide (p < C) = false := decide_eq_false hlt
      have hj : p = C := by have := HJ.out; omega
      clear HJ
      subst hj
      clear m0 m1 m2 m3
      obtain ⟨A, cp, hv⟩ := Kd.R_slice HP.out
      generalize (turnL R p p).length = ln at hv
      subst hv
      have m0 := blk_cell H2.out 0
      have m1 := blk_cell H2.out 1
      have m2 := blk_cell H2.out 2
      have m3 := blk_cell H2.out 3
      simp only [List.getElem?_toArray, List.getElem?_cons_zero, List.getElem?_cons_succ] at m0 m1 m2 m3
      go_wp2
      have HE := isB_set4 H1.out (.int .i64 p) (.int .i64 R) (.int .i64 wd) (.slice A ln cp)
      have e0 := blk_cell HE 0
      have e1 := blk_cell HE 1
      have e2 := blk_cell HE 2
      have e3 := blk_cell HE 3
      simp only [List.getElem?_toArray, List.getElem?_cons_zero, List.getElem?_cons_succ] at e0 e1 e2 e3
      refine bodyPost_ret (v := .agg #[.int .i64 p, .int .i64 R, .int .i64 wd, .slice A ln cp]) (by simp [results, Try.results38, go_sem, e0, e1, e2, e3]) rfl ?_
      exact ⟨_, rfl, R_set4 HP.out H1.out (two_E 60 (by decide)) _ _ _ _, below_set4 HB.out (by omega) _ _ _ _⟩


end Go.Proofs.Ytklomikdihlcgaa
