/- Cutting, on both sides. -/
import Derived.Test.YtklomikdihlcgaaTurn
namespace Go.Proofs.Ytklomikdihlcgaa
open Go.RowKit PBase
open Go.Proofs.YtklomikdihlcgaaW.PrintWords Go.Proofs.YtklomikdihlcgaaW.PrintLast Go.Proofs.YtklomikdihlcgaaW.PrintMore
set_option linter.unusedVariables false
set_option linter.unusedSimpArgs false

/-- rows of places -/
def rowP (f : Nat → Nat → Nat) (p q0 n : Nat) : List (Int × Int) := (List.range n).map fun j => ((0 : Int), ((f p (q0 + j) : Nat) : Int))
def gridP (f : Nat → Nat → Nat) (p0 q0 n m : Nat) : List (Int × Int) := (List.range m).flatMap fun i => rowP f (p0 + i) q0 n
theorem rowP_succ (f : Nat → Nat → Nat) (p q0 q : Nat) (h : q0 ≤ q) : rowP f p q0 (q + 1 - q0) = rowP f p q0 (q - q0) ++ [((0 : Int), ((f p q : Nat) : Int))] := by
  rw [show q + 1 - q0 = (q - q0) + 1 by omega]
  simp [rowP, List.range_succ]
  rw [show q0 + (q - q0) = q by omega]
theorem gridP_succ (f : Nat → Nat → Nat) (p0 q0 n p : Nat) (h : p0 ≤ p) : gridP f p0 q0 n (p + 1 - p0) = gridP f p0 q0 n (p - p0) ++ rowP f p q0 n := by
  rw [show p + 1 - p0 = (p - p0) + 1 by omega]
  simp [gridP, List.range_succ]
  rw [show p0 + (p - p0) = p by omega]
theorem rowP_length (f : Nat → Nat → Nat) (p q0 n : Nat) : (rowP f p q0 n).length = n := by simp [rowP]
theorem gridP_length (f : Nat → Nat → Nat) (p0 q0 n m : Nat) : (gridP f p0 q0 n m).length = m * n := by
  induction m with
  | zero => simp [gridP]
  | succ m ih =>
    have := gridP_succ f p0 q0 n (p0 + m) (by omega)
    rw [show p0 + m + 1 - p0 = m + 1 by omega, show p0 + m - p0 = m by omega] at this
    rw [this, List.length_append, ih, rowP_length, Nat.add_mul, Nat.one_mul]
theorem rowP_zero (f : Nat → Nat → Nat) (p q0 : Nat) : rowP f p q0 (q0 - q0) = [] := by simp [rowP]
theorem gridP_zero (f : Nat → Nat → Nat) (p0 q0 n : Nat) : gridP f p0 q0 n (p0 - p0) = [] := by simp [gridP]
theorem len_ok {p0 p p1 q0 q q1 : Nat} (f : Nat → Nat → Nat) (h1 : p1 ≤ 4096) (h2 : q1 ≤ 4096) (h3 : p0 ≤ p) (h4 : p < p1) (h5 : q0 ≤ q) (h6 : q < q1) : ((gridP f p0 q0 (q1 - q0) (p - p0) ++ rowP f p q0 (q - q0)).length + 1) * 16 ≤ 140737488355328 := by
  rw [List.length_append, gridP_length, rowP_length]
  have : (p - p0) * (q1 - q0) ≤ 4096 * 4096 := Nat.mul_le_mul (by omega) (by omega)
  omega

set_option maxHeartbeats 2000000 in
set_option maxRecDepth 100000 in
theorem Cutting_good (R C : Nat) (wd : Int) (r0 r1 c0 c1 : Nat) (w : World) (hR : R ≤ 4096) (hC : C ≤ 4096) (h1 : r0 < r1) (h2 : r1 ≤ R) (h3 : c0 < c1) (h4 : c1 ≤ C) :
    Calls Try.prog 75 #[.agg #[.int .i64 R, .int .i64 C, .int .i64 wd], .int .i64 r0, .int .i64 r1, .int .i64 c0, .int .i64 c1] w fun e w' => ∃ v, e = .returned (.tuple #[.agg #[.int .i64 ((r1 - r0 : Nat) : Int), .int .i64 ((c1 - c0 : Nat) : Int), .int .i64 wd, v], .int .i64 0]) ∧ Places w w' v (gridP (fun a b => a * C + b) r0 c0 (c1 - c0) (r1 - r0)) ∧ Below w.heap.size w w' := by
  go_enter Try.func75, Try.ntmps75
  have HF := Aside0.mk (And.intro hR (And.intro hC (And.intro h1 (And.intro h2 (And.intro h3 h4)))))
  obtain ⟨m, hm⟩ : ∃ m : Nat, m = r1 - r0 := ⟨_, rfl⟩
  obtain ⟨n, hn⟩ : ∃ n : Nat, n = c1 - c0 := ⟨_, rfl⟩
  have hs1 : wrap64 ((r1 : Int) - (r0 : Int)) = (m : Int) := by rw [IntWalk.wrap64_in ((r1 : Int) - (r0 : Int)) (by omega)]; omega
  have hs2 : wrap64 ((c1 : Int) - (c0 : Int)) = (n : Int) := by rw [IntWalk.wrap64_in ((c1 : Int) - (c0 : Int)) (by omega)]; omega
  have d1 : decide (R < r1) = false := decide_eq_false (by omega)
  have d2 : decide (r1 ≤ r0) = false := decide_eq_false (by omega)
  have d3 : decide (C < c1) = false := decide_eq_false (by omega)
  have d4 : decide (c1 ≤ c0) = false := decide_eq_false (by omega)
  have d5 : decide ((r0 : Int) < 0) = false := decide_eq_false (by omega)
  have d6 : decide ((c0 : Int) < 0) = false := decide_eq_false (by omega)
  have HMN := Aside0.mk (And.intro hm hn)
  rw [← hm, ← hn]
  clear hm hn hR hC h1 h2 h3 h4
  go_wp2
  clear d1 d2 d3 d4 d5 d6 hs1 hs2
  generalize hw1 : (((w.alloc (Obj.cells #[Value.int IntKind.i64 R, Value.int IntKind.i64 C, Value.int IntKind.i64 wd] 34)).alloc (Obj.cells #[Value.int IntKind.i64 0, Value.int IntKind.i64 0, Value.int IntKind.i64 0, Value.slice none 0 0] 93)).alloc (Obj.cells #[Value.int IntKind.i64 m, Value.int IntKind.i64 n, Value.int IntKind.i64 wd, Value.slice none 0 0] 93)) = w1
  have H0 : Aside0 (IsB w1 w.heap.size (row3 R C wd) 34) := ⟨by rw [← hw1]; exact blk_alloc (blk_alloc (blk_new _ _) _) _⟩
  have H1 : Aside0 (IsB w1 (w.heap.size + 1) (row4 0 0 0 (.slice none 0 0)) 93) := ⟨by rw [← hw1]; exact blk_alloc (new1 w _ _ 34 93) _⟩
  have H2 : Aside0 (IsB w1 (w.heap.size + 1 + 1) (row4 m n wd (.slice none 0 0)) 93) := ⟨by rw [← hw1]; have h := blk_new ((w.alloc (Obj.cells #[Value.int IntKind.i64 R, Value.int IntKind.i64 C, Value.int IntKind.i64 wd] 34)).alloc (Obj.cells #[Value.int IntKind.i64 0, Value.int IntKind.i64 0, Value.int IntKind.i64 0, Value.slice none 0 0] 93)) (Obj.cells #[Value.int IntKind.i64 m, Value.int IntKind.i64 n, Value.int IntKind.i64 wd, Value.slice none 0 0] 93); simp only [World.size_alloc] at h; exact h⟩
  have HB : Aside0 (Below w.heap.size w w1) := ⟨by rw [← hw1]; exact below_alloc (below_alloc (below_alloc (Below.refl _ _) _) _) _⟩
  clear hw1
  go_loopg [13] (r1 - r0) (fun kq vo w' => ∃ p : Nat, vo = .int .i64 p ∧ Aside0 (r0 ≤ p ∧ p + kq = r1) ∧ Aside0 (IsB w' w.heap.size (row3 R C wd) 34) ∧ Aside0 (IsB w' (w.heap.size + 1) (row4 0 0 0 (.slice none 0 0)) 93) ∧ (∃ v, Aside0 (IsB w' (w.heap.size + 1 + 1) (row4 m n wd v) 93) ∧ Aside0 (Places w w' v (gridP (fun a b => a * C + b) r0 c0 (c1 - c0) (p - r0)))) ∧ Aside0 (Below w.heap.size w w'))
  case atStart => exact ⟨r0, rfl, ⟨by have := HF.out; omega⟩, H0, H1, ⟨_, H2, ⟨by rw [gridP_zero]; exact Kd.R_nil _ _ _ _ _⟩⟩, HB⟩
  case round =>
    clear H0 H1 H2 HB
    obtain ⟨p, rfl, HJ, H0, H1, ⟨v, H2, HP⟩, HB⟩ := hrel
    have a0 := blk_cell H0.out 0
    have a1 := blk_cell H0.out 1
    have a2 := blk_cell H0.out 2
    simp only [List.getElem?_toArray, List.getElem?_cons_zero, List.getElem?_cons_succ] at a0 a1 a2
    have m0 := blk_cell H2.out 0
    have m1 := blk_cell H2.out 1
    have m2 := blk_cell H2.out 2
    have m3 := blk_cell H2.out 3
    simp only [List.getElem?_toArray, List.getElem?_cons_zero, List.getElem?_cons_succ] at m0 m1 m2 m3
    have n0 := blk_cell H1.out 0
    have n1 := blk_cell H1.out 1
    have n2 := blk_cell H1.out 2
    have n3 := blk_cell H1.out 3
    simp only [List.getElem?_toArray, List.getElem?_cons_zero, List.getElem?_cons_succ] at n0 n1 n2 n3
    have rf0 := blk_frozen H1.out 0
    have rf1 := blk_frozen H1.out 1
    have rf2 := blk_frozen H1.out 2
    have rf3 := blk_frozen H1.out 3
    by_cases hlt : p < r1
    · have d1 : decide (p < r1) = true := decide_eq_true hlt
      have HLT := Aside0.mk hlt
      clear hlt
      go_wp2
      clear a0 a1 a2 m0 m1 m2 m3 n0 n1 n2 n3 rf0 rf1 rf2 rf3
      have HP0 : Aside0 (Places w wr v (gridP (fun a b => a * C + b) r0 c0 (c1 - c0) (p - r0) ++ rowP (fun a b => a * C + b) p c0 (c0 - c0))) := ⟨by rw [rowP_zero]; rw [List.append_nil]; exact HP.out⟩
      clear HP d1
      obtain ⟨gk0, hgk0⟩ : ∃ x : Nat, x = gk := ⟨_, rfl⟩
      have HG0 := Aside0.mk hgk0
      clear hgk0
      go_loopg [14] (c1 - c0) (fun kq vi w' => ∃ q : Nat, vi = .int .i64 q ∧ Aside0 (c0 ≤ q ∧ q + kq = c1) ∧ Aside0 (IsB w' w.heap.size (row3 R C wd) 34) ∧ Aside0 (IsB w' (w.heap.size + 1) (row4 0 0 0 (.slice none 0 0)) 93) ∧ (∃ v, Aside0 (IsB w' (w.heap.size + 1 + 1) (row4 m n wd v) 93) ∧ Aside0 (Places w w' v (gridP (fun a b => a * C + b) r0 c0 (c1 - c0) (p - r0) ++ rowP (fun a b => a * C + b) p c0 (q - c0)))) ∧ Aside0 (Below w.heap.size w w'))
      case atStart => exact ⟨c0, rfl, ⟨by have := HF.out; omega⟩, H0, H1, ⟨_, H2, HP0⟩, HB⟩
      case round =>
        clear H0 H1 H2 HB HP0
        obtain ⟨q, rfl, HI, H0, H1, ⟨v, H2, HP⟩, HB⟩ := hrel
        have a1 := blk_cell H0.out 1
        have a0 := blk_cell H0.out 0
        have m3 := blk_cell H2.out 3
        simp only [List.getElem?_toArray, List.getElem?_cons_zero, List.getElem?_cons_succ] at a0 a1 m3
        have rf3 := blk_frozen H2.out 3
        by_cases hlt : q < c1
        · have d1 : decide (q < c1) = true := decide_eq_true hlt
          have HI2 : Aside0 (q < c1) := ⟨hlt⟩
          clear hlt
          have HL : Aside0 (((gridP (fun a b => a * C + b) r0 c0 (c1 - c0) (p - r0) ++ rowP (fun a b => a * C + b) p c0 (q - c0)).length + 1) * 16 ≤ 140737488355328) := ⟨len_ok _ (by have := HF.out; omega) (by have := HF.out; omega) HJ.out.1 HLT.out HI.out.1 HI2.out⟩
          have HX : Aside0 (wrap64 (wrap64 ((p : Int) * (C : Int)) + (q : Int)) = (((fun a b => a * C + b) p q : Nat) : Int)) := ⟨place_ok (by have := HF.out; have := HLT.out; omega) (by have := HF.out; omega) (by have := HF.out; have := HI2.out; omega)⟩
          go_wp2_with ((with_reducible refine gate_builtin (b := .append) (xs := #[.tmp 67, .tmp 75]) rfl ?_); at_builtin; refine Kd.R_append two (w0 := w) w.heap.size rfl (.tmp 67) (.tmp 75) 58 99 (.agg #[.int .i64 0, .int .i64 0]) 16 rfl Try.underlying58 info99 rfl (by decide) (by omega) v (gridP (fun a b => a * C + b) r0 c0 (c1 - c0) (p - r0) ++ rowP (fun a b => a * C + b) p c0 (q - c0)) (0, wrap64 (wrap64 ((p : Int) * (C : Int)) + (q : Int))) [.int .i64 0, .int .i64 (wrap64 (wrap64 ((p : Int) * (C : Int)) + (q : Int)))] (fun _ => True) (fun _ => False) rfl rfl ?aP (fun _ hk => hk.elim) ?aF ?aO ?aB ?aS ?aL ?_; (case aP => exact ⟨[_], [_], rfl, rfl, rfl⟩); (case aB => exact HB.out); (case aF => exact (fun _ _ => trivial)); (case aO => exact HP.out); (case aS => exact below_size HB.out); (case aL => exact HL.out); intro v9 w7 ho hb hg hat; have HP2 : Aside0 (Places w w7 v9 (gridP (fun a b => a * C + b) r0 c0 (c1 - c0) (p - r0) ++ rowP (fun a b => a * C + b) p c0 (q + 1 - c0))) := ⟨by rw [rowP_succ _ _ _ _ HI.out.1, ← List.append_assoc]; exact Places.snoc ho HX.out⟩; have hne := Kd.R_ne HP.out H0.out (by decide); have HH0 := Aside0.mk (blk_grown H0.out hg (Kd.R_ne HP.out H0.out (by decide))); have HH1 := Aside0.mk (blk_grown H1.out hg (Kd.R_ne HP.out H1.out (by decide))); have HH2 := Aside0.mk (blk_grown H2.out hg (Kd.R_ne HP.out H2.out (by decide))); have HB2 := Aside0.mk hb; clear ho hb hg hat HP H0 H1 H2 HB hne a0 a1 m3 rf3 HL HX; have m3 := blk_cell HH2.out 3; simp at m3; have rf3 := blk_frozen HH2.out 3; obtain ⟨A9, c9, hv9⟩ := Kd.R_slice HP2.out; generalize (gridP (fun a b => a * C + b) r0 c0 (c1 - c0) (p - r0) ++ rowP (fun a b => a * C + b) p c0 (q + 1 - c0)).length = ln at hv9; subst hv9)
          go_roundg (gk - 1)
          case measure => have := HI.out; have := HI2.out; omega
          case rel => exact ⟨q + 1, next_i (by have := HI2.out; have := HF.out; omega), ⟨by have := HI.out; have := HI2.out; omega⟩, ⟨blk_far HH0.out (by show w.heap.size ≠ w.heap.size + 1 + 1; omega) _⟩, ⟨blk_far HH1.out (by show w.heap.size + 1 ≠ w.heap.size + 1 + 1; omega) _⟩, ⟨_, ⟨blk_set HH2.out 3 _⟩, ⟨Kd.R_set HP2.out HH2.out (two_E 93 (by decide)) 3 _⟩⟩, ⟨below_set HB2.out (by omega)⟩⟩
        · have d1 : decide (q < c1) = false := decide_eq_false hlt
          have hi : q = c1 := by have := HI.out; omega
          clear HI
          subst hi
          go_wp2
          go_roundg (gk0 - 1)
          case measure => have := HJ.out; have := HLT.out; have := HG0.out; omega
          case rel => exact ⟨p + 1, next_i (by have := HLT.out; have := HF.out; omega), ⟨by have := HJ.out; have := HLT.out; have := HG0.out; omega⟩, H0, H1, ⟨_, H2, ⟨by rw [gridP_succ _ _ _ _ _ HJ.out.1]; exact HP.out⟩⟩, HB⟩
    · have d1 : decide (p < r1) = false := decide_eq_false hlt
      have hj : p = r1 := by have := HJ.out; omega
      clear HJ
      subst hj
      clear m0 m1 m2 m3
      obtain ⟨A, cp, hv⟩ := Kd.R_slice HP.out
      generalize (gridP (fun a b => a * C + b) r0 c0 (c1 - c0) (p - r0)).length = ln at hv
      subst hv
      have m0 := blk_cell H2.out 0
      have m1 := blk_cell H2.out 1
      have m2 := blk_cell H2.out 2
      have m3 := blk_cell H2.out 3
      simp only [List.getElem?_toArray, List.getElem?_cons_zero, List.getElem?_cons_succ] at m0 m1 m2 m3
      go_wp2
      have HE := isB_set4 H1.out (.int .i64 m) (.int .i64 n) (.int .i64 wd) (.slice A ln cp)
      have e0 := blk_cell HE 0
      have e1 := blk_cell HE 1
      have e2 := blk_cell HE 2
      have e3 := blk_cell HE 3
      simp only [List.getElem?_toArray, List.getElem?_cons_zero, List.getElem?_cons_succ] at e0 e1 e2 e3
      refine bodyPost_ret (v := .tuple #[.agg #[.int .i64 m, .int .i64 n, .int .i64 wd, .slice A ln cp], .int .i64 0]) (by simp [results, Try.results75, go_sem, e0, e1, e2, e3]) rfl ?_
      exact ⟨_, rfl, R_set4 (by rw [HMN.out.1, HMN.out.2]; exact HP.out) H1.out (two_E 93 (by decide)) _ _ _ _, below_set4 HB.out (by omega) _ _ _ _⟩

set_option maxHeartbeats 2000000 in
set_option maxRecDepth 100000 in
theorem refCut_good (R C : Nat) (wd : Int) (r0 r1 c0 c1 : Nat) (w : World) (hR : R ≤ 4096) (hC : C ≤ 4096) (h1 : r0 < r1) (h2 : r1 ≤ R) (h3 : c0 < c1) (h4 : c1 ≤ C) :
    Calls Try.prog 40 #[.agg #[.int .i64 R, .int .i64 C, .int .i64 wd], .int .i64 r0, .int .i64 r1, .int .i64 c0, .int .i64 c1] w fun e w' => ∃ v, e = .returned (.tuple #[.agg #[.int .i64 ((r1 - r0 : Nat) : Int), .int .i64 ((c1 - c0 : Nat) : Int), .int .i64 wd, v], .int .i64 0]) ∧ Places w w' v (gridP (fun a b => a * C + b) r0 c0 (c1 - c0) (r1 - r0)) ∧ Below w.heap.size w w' := by
  go_enter Try.func40, Try.ntmps40
  have HF := Aside0.mk (And.intro hR (And.intro hC (And.intro h1 (And.intro h2 (And.intro h3 h4)))))
  obtain ⟨m, hm⟩ : ∃ m : Nat, m = r1 - r0 := ⟨_, rfl⟩
  obtain ⟨n, hn⟩ : ∃ n : Nat, n = c1 - c0 := ⟨_, rfl⟩
  have hs1 : wrap64 ((r1 : Int) - (r0 : Int)) = (m : Int) := by rw [IntWalk.wrap64_in ((r1 : Int) - (r0 : Int)) (by omega)]; omega
  have hs2 : wrap64 ((c1 : Int) - (c0 : Int)) = (n : Int) := by rw [IntWalk.wrap64_in ((c1 : Int) - (c0 : Int)) (by omega)]; omega
  have d1 : decide (R < r1) = false := decide_eq_false (by omega)
  have d2 : decide (r1 ≤ r0) = false := decide_eq_false (by omega)
  have d3 : decide (C < c1) = false := decide_eq_false (by omega)
  have d4 : decide (c1 ≤ c0) = false := decide_eq_false (by omega)
  have d5 : decide ((r0 : Int) < 0) = false := decide_eq_false (by omega)
  have d6 : decide ((c0 : Int) < 0) = false := decide_eq_false (by omega)
  have HMN := Aside0.mk (And.intro hm hn)
  rw [← hm, ← hn]
  clear hm hn hR hC h1 h2 h3 h4
  go_wp2
  clear d1 d2 d3 d4 d5 d6 hs1 hs2
  generalize hw1 : (((w.alloc (Obj.cells #[Value.int IntKind.i64 R, Value.int IntKind.i64 C, Value.int IntKind.i64 wd] 34)).alloc (Obj.cells #[Value.int IntKind.i64 0, Value.int IntKind.i64 0, Value.int IntKind.i64 0, Value.slice none 0 0] 60)).alloc (Obj.cells #[Value.int IntKind.i64 m, Value.int IntKind.i64 n, Value.int IntKind.i64 wd, Value.slice none 0 0] 60)) = w1
  have H0 : Aside0 (IsB w1 w.heap.size (row3 R C wd) 34) := ⟨by rw [← hw1]; exact blk_alloc (blk_alloc (blk_new _ _) _) _⟩
  have H1 : Aside0 (IsB w1 (w.heap.size + 1) (row4 0 0 0 (.slice none 0 0)) 60) := ⟨by rw [← hw1]; exact blk_alloc (new1 w _ _ 34 60) _⟩
  have H2 : Aside0 (IsB w1 (w.heap.size + 1 + 1) (row4 m n wd (.slice none 0 0)) 60) := ⟨by rw [← hw1]; have h := blk_new ((w.alloc (Obj.cells #[Value.int IntKind.i64 R, Value.int IntKind.i64 C, Value.int IntKind.i64 wd] 34)).alloc (Obj.cells #[Value.int IntKind.i64 0, Value.int IntKind.i64 0, Value.int IntKind.i64 0, Value.slice none 0 0] 60)) (Obj.cells #[Value.int IntKind.i64 m, Value.int IntKind.i64 n, Value.int IntKind.i64 wd, Value.slice none 0 0] 60); simp only [World.size_alloc] at h; exact h⟩
  have HB : Aside0 (Below w.heap.size w w1) := ⟨by rw [← hw1]; exact below_alloc (below_alloc (below_alloc (Below.refl _ _) _) _) _⟩
  clear hw1
  go_loopg [13] (r1 - r0) (fun kq vo w' => ∃ p : Nat, vo = .int .i64 p ∧ Aside0 (r0 ≤ p ∧ p + kq = r1) ∧ Aside0 (IsB w' w.heap.size (row3 R C wd) 34) ∧ Aside0 (IsB w' (w.heap.size + 1) (row4 0 0 0 (.slice none 0 0)) 60) ∧ (∃ v, Aside0 (IsB w' (w.heap.size + 1 + 1) (row4 m n wd v) 60) ∧ Aside0 (Places w w' v (gridP (fun a b => a * C + b) r0 c0 (c1 - c0) (p - r0)))) ∧ Aside0 (Below w.heap.size w w'))
  case atStart => exact ⟨r0, rfl, ⟨by have := HF.out; omega⟩, H0, H1, ⟨_, H2, ⟨by rw [gridP_zero]; exact Kd.R_nil _ _ _ _ _⟩⟩, HB⟩
  case round =>
    clear H0 H1 H2 HB
    obtain ⟨p, rfl, HJ, H0, H1, ⟨v, H2, HP⟩, HB⟩ := hrel
    have a0 := blk_cell H0.out 0
    have a1 := blk_cell H0.out 1
    have a2 := blk_cell H0.out 2
    simp only [List.getElem?_toArray, List.getElem?_cons_zero, List.getElem?_cons_succ] at a0 a1 a2
    have m0 := blk_cell H2.out 0
    have m1 := blk_cell H2.out 1
    have m2 := blk_cell H2.out 2
    have m3 := blk_cell H2.out 3
    simp only [List.getElem?_toArray, List.getElem?_cons_zero, List.getElem?_cons_succ] at m0 m1 m2 m3
    have n0 := blk_cell H1.out 0
    have n1 := blk_cell H1.out 1
    have n2 := blk_cell H1.out 2
    have n3 := blk_cell H1.out 3
    simp only [List.getElem?_toArray, List.getElem?_cons_zero, List.getElem?_cons_succ] at n0 n1 n2 n3
    have rf0 := blk_frozen H1.out 0
    have rf1 := blk_frozen H1.out 1
    have rf2 := blk_frozen H1.out 2
    have rf3 := blk_frozen H1.out 3
    by_cases hlt : p < r1
    · have d1 : decide (p < r1) = true := decide_eq_true hlt
      have HLT := Aside0.mk hlt
      clear hlt
      go_wp2
      clear a0 a1 a2 m0 m1 m2 m3 n0 n1 n2 n3 rf0 rf1 rf2 rf3
      have HP0 : Aside0 (Places w wr v (gridP (fun a b => a * C + b) r0 c0 (c1 - c0) (p - r0) ++ rowP (fun a b => a * C + b) p c0 (c0 - c0))) := ⟨by rw [rowP_zero]; rw [List.append_nil]; exact HP.out⟩
      clear HP d1
      obtain ⟨gk0, hgk0⟩ : ∃ x : Nat, x = gk := ⟨_, rfl⟩
      have HG0 := Aside0.mk hgk0
      clear hgk0
      go_loopg [14] (c1 - c0) (fun kq vi w' => ∃ q : Nat, vi = .int .i64 q ∧ Aside0 (c0 ≤ q ∧ q + kq = c1) ∧ Aside0 (IsB w' w.heap.size (row3 R C wd) 34) ∧ Aside0 (IsB w' (w.heap.size + 1) (row4 0 0 0 (.slice none 0 0)) 60) ∧ (∃ v, Aside0 (IsB w' (w.heap.size + 1 + 1) (row4 m n wd v) 60) ∧ Aside0 (Places w w' v (gridP (fun a b => a * C + b) r0 c0 (c1 - c0) (p - r0) ++ rowP (fun a b => a * C + b) p c0 (q - c0)))) ∧ Aside0 (Below w.heap.size w w'))
      case atStart => exact ⟨c0, rfl, ⟨by have := HF.out; omega⟩, H0, H1, ⟨_, H2, HP0⟩, HB⟩
      case round =>
        clear H0 H1 H2 HB HP0
        obtain ⟨q, rfl, HI, H0, H1, ⟨v, H2, HP⟩, HB⟩ := hrel
        have a1 := blk_cell H0.out 1
        have a0 := blk_cell H0.out 0
        have m3 := blk_cell H2.out 3
        simp only [List.getElem?_toArray, List.getElem?_cons_zero, List.getElem?_cons_succ] at a0 a1 m3
        have rf3 := blk_frozen H2.out 3
        by_cases hlt : q < c1
        · have d1 : decide (q < c1) = true := decide_eq_true hlt
          have HI2 : Aside0 (q < c1) := ⟨hlt⟩
          clear hlt
          have HL : Aside0 (((gridP (fun a b => a * C + b) r0 c0 (c1 - c0) (p - r0) ++ rowP (fun a b => a * C + b) p c0 (q - c0)).length + 1) * 16 ≤ 140737488355328) := ⟨len_ok _ (by have := HF.out; omega) (by have := HF.out; omega) HJ.out.1 HLT.out HI.out.1 HI2.out⟩
          have HX : Aside0 (wrap64 (wrap64 ((p : Int) * (C : Int)) + (q : Int)) = (((fun a b => a * C + b) p q : Nat) : Int)) := ⟨place_ok (by have := HF.out; have := HLT.out; omega) (by have := HF.out; omega) (by have := HF.out; have := HI2.out; omega)⟩
          go_wp2_with ((with_reducible refine gate_builtin (b := .append) (xs := #[.tmp 67, .tmp 75]) rfl ?_); at_builtin; refine Kd.R_append two (w0 := w) w.heap.size rfl (.tmp 67) (.tmp 75) 58 99 (.agg #[.int .i64 0, .int .i64 0]) 16 rfl Try.underlying58 info99 rfl (by decide) (by omega) v (gridP (fun a b => a * C + b) r0 c0 (c1 - c0) (p - r0) ++ rowP (fun a b => a * C + b) p c0 (q - c0)) (0, wrap64 (wrap64 ((p : Int) * (C : Int)) + (q : Int))) [.int .i64 0, .int .i64 (wrap64 (wrap64 ((p : Int) * (C : Int)) + (q : Int)))] (fun _ => True) (fun _ => False) rfl rfl ?aP (fun _ hk => hk.elim) ?aF ?aO ?aB ?aS ?aL ?_; (case aP => exact ⟨[_], [_], rfl, rfl, rfl⟩); (case aB => exact HB.out); (case aF => exact (fun _ _ => trivial)); (case aO => exact HP.out); (case aS => exact below_size HB.out); (case aL => exact HL.out); intro v9 w7 ho hb hg hat; have HP2 : Aside0 (Places w w7 v9 (gridP (fun a b => a * C + b) r0 c0 (c1 - c0) (p - r0) ++ rowP (fun a b => a * C + b) p c0 (q + 1 - c0))) := ⟨by rw [rowP_succ _ _ _ _ HI.out.1, ← List.append_assoc]; exact Places.snoc ho HX.out⟩; have hne := Kd.R_ne HP.out H0.out (by decide); have HH0 := Aside0.mk (blk_grown H0.out hg (Kd.R_ne HP.out H0.out (by decide))); have HH1 := Aside0.mk (blk_grown H1.out hg (Kd.R_ne HP.out H1.out (by decide))); have HH2 := Aside0.mk (blk_grown H2.out hg (Kd.R_ne HP.out H2.out (by decide))); have HB2 := Aside0.mk hb; clear ho hb hg hat HP H0 H1 H2 HB hne a0 a1 m3 rf3 HL HX; have m3 := blk_cell HH2.out 3; simp at m3; have rf3 := blk_frozen HH2.out 3; obtain ⟨A9, c9, hv9⟩ := Kd.R_slice HP2.out; generalize (gridP (fun a b => a * C + b) r0 c0 (c1 - c0) (p - r0) ++ rowP (fun a b => a * C + b) p c0 (q + 1 - c0)).length = ln at hv9; subst hv9)
          go_roundg (gk - 1)
          case measure => have := HI.out; have := HI2.out; omega
          case rel => exact ⟨q + 1, next_i (by have := HI2.out; have := HF.out; omega), ⟨by have := HI.out; have := HI2.out; omega⟩, ⟨blk_far HH0.out (by show w.heap.size ≠ w.heap.size + 1 + 1; omega) _⟩, ⟨blk_far HH1.out (by show w.heap.size + 1 ≠ w.heap.size + 1 + 1; omega) _⟩, ⟨_, ⟨blk_set HH2.out 3 _⟩, ⟨Kd.R_set HP2.out HH2.out (two_E 60 (by decide)) 3 _⟩⟩, ⟨below_set HB2.out (by omega)⟩⟩
        · have d1 : decide (q < c1) = false := decide_eq_false hlt
          have hi : q = c1 := by have := HI.out; omega
          clear HI
          subst hi
          go_wp2
          go_roundg (gk0 - 1)
          case measure => have := HJ.out; have := HLT.out; have := HG0.out; omega
          case rel => exact ⟨p + 1, next_i (by have := HLT.out; have := HF.out; omega), ⟨by have := HJ.out; have := HLT.out; have := HG0.out; omega⟩, H0, H1, ⟨_, H2, ⟨by rw [gridP_succ _ _ _ _ _ HJ.out.1]; exact HP.out⟩⟩, HB⟩
    · have d1 : decide (p < r1) = false := decide_eq_false hlt
      have hj : p = r1 := by have := HJ.out; omega
      clear HJ
      subst hj
      clear m0 m1 m2 m3
      obtain ⟨A, cp, hv⟩ := Kd.R_slice HP.out
      generalize (gridP (fun a b => a * C + b) r0 c0 (c1 - c0) (p - r0)).length = ln at hv
      subst hv
      have m0 := blk_cell H2.out 0
      have m1 := blk_cell H2.out 1
      have m2 := blk_cell H2.out 2
      have m3 := blk_cell H2.out 3
      simp only [List.getElem?_toArray, List.getElem?_cons_zero, List.getElem?_cons_succ] at m0 m1 m2 m3
      go_wp2
      have HE := isB_set4 H1.out (.int .i64 m) (.int .i64 n) (.int .i64 wd) (.slice A ln cp)
      have e0 := blk_cell HE 0
      have e1 := blk_cell HE 1
      have e2 := blk_cell HE 2
      have e3 := blk_cell HE 3
      simp only [List.getElem?_toArray, List.getElem?_cons_zero, List.getElem?_cons_succ] at e0 e1 e2 e3
      refine bodyPost_ret (v := .tuple #[.agg #[.int .i64 m, .int .i64 n, .int .i64 wd, .slice A ln cp], .int .i64 0]) (by simp [results, Try.results40, go_sem, e0, e1, e2, e3]) rfl ?_
      exact ⟨_, rfl, R_set4 (by rw [HMN.out.1, HMN.out.2]; exact HP.out) H1.out (two_E 60 (by decide)) _ _ _ _, below_set4 HB.out (by omega) _ _ _ _⟩

set_option maxHeartbeats 2000000 in
set_option maxRecDepth 100000 in
theorem Cutting_bad (R C wd r0 r1 c0 c1 : Int) (w : World) (h : r0 < 0 ∨ r1 > R ∨ r0 ≥ r1 ∨ c0 < 0 ∨ c1 > C ∨ c0 ≥ c1) :
    Calls Try.prog 75 #[.agg #[.int .i64 R, .int .i64 C, .int .i64 wd], .int .i64 r0, .int .i64 r1, .int .i64 c0, .int .i64 c1] w fun e w' => e = .returned (.tuple #[.agg (row4 0 0 0 (.slice none 0 0)), .int .i64 5]) ∧ Below w.heap.size w w' := by
  go_enter Try.func75, Try.ntmps75
  by_cases g0 : r0 < 0
  · skip
    go_wp2
    refine bodyPost_ret (v := .tuple #[.agg (row4 0 0 0 (.slice none 0 0)), .int .i64 5]) (by simp [results, Try.results75, go_sem]) rfl ?_
    exact ⟨rfl, below_alloc (below_alloc (Below.refl _ _) _) _⟩
  · skip
    by_cases g1 : r1 > R
    · skip
      go_wp2
      refine bodyPost_ret (v := .tuple #[.agg (row4 0 0 0 (.slice none 0 0)), .int .i64 5]) (by simp [results, Try.results75, go_sem]) rfl ?_
      exact ⟨rfl, below_alloc (below_alloc (Below.refl _ _) _) _⟩
    · skip
      by_cases g2 : r0 ≥ r1
      · skip
        go_wp2
        refine bodyPost_ret (v := .tuple #[.agg (row4 0 0 0 (.slice none 0 0)), .int .i64 5]) (by simp [results, Try.results75, go_sem]) rfl ?_
        exact ⟨rfl, below_alloc (below_alloc (Below.refl _ _) _) _⟩
      · skip
        by_cases g3 : c0 < 0
        · skip
          go_wp2
          refine bodyPost_ret (v := .tuple #[.agg (row4 0 0 0 (.slice none 0 0)), .int .i64 5]) (by simp [results, Try.results75, go_sem]) rfl ?_
          exact ⟨rfl, below_alloc (below_alloc (Below.refl _ _) _) _⟩
        · skip
          by_cases g4 : c1 > C
          · skip
            go_wp2
            refine bodyPost_ret (v := .tuple #[.agg (row4 0 0 0 (.slice none 0 0)), .int .i64 5]) (by simp [results, Try.results75, go_sem]) rfl ?_
            exact ⟨rfl, below_alloc (below_alloc (Below.refl _ _) _) _⟩
          · skip
            have g5 : c0 ≥ c1 := by omega
            go_wp2
            refine bodyPost_ret (v := .tuple #[.agg (row4 0 0 0 (.slice none 0 0)), .int .i64 5]) (by simp [results, Try.results75, go_sem]) rfl ?_
            exact ⟨rfl, below_alloc (below_alloc (Below.refl _ _) _) _⟩

set_option maxHeartbeats 2000000 in
set_option maxRecDepth 100000 in
theorem refCut_bad (R C wd r0 r1 c0 c1 : Int) (w : World) (h : r0 < 0 ∨ r1 > R ∨ r0 ≥ r1 ∨ c0 < 0 ∨ c1 > C ∨ c0 ≥ c1) :
    Calls Try.prog 40 #[.agg #[.int .i64 R, .int .i64 C, .int .i64 wd], .int .i64 r0, .int .i64 r1, .int .i64 c0, .int .i64 c1] w fun e w' => e = .returned (.tuple #[.agg (row4 0 0 0 (.slice none 0 0)), .int .i64 5]) ∧ Below w.heap.size w w' := by
  go_enter Try.func40, Try.ntmps40
  by_cases g0 : r0 < 0
  · skip
    go_wp2
    refine bodyPost_ret (v := .tuple #[.agg (row4 0 0 0 (.slice none 0 0)), .int .i64 5]) (by simp [results, Try.results40, go_sem]) rfl ?_
    exact ⟨rfl, below_alloc (below_alloc (Below.refl _ _) _) _⟩
  · skip
    by_cases g1 : r1 > R
    · skip
      go_wp2
      refine bodyPost_ret (v := .tuple #[.agg (row4 0 0 0 (.slice none 0 0)), .int .i64 5]) (by simp [results, Try.results40, go_sem]) rfl ?_
      exact ⟨rfl, below_alloc (below_alloc (Below.refl _ _) _) _⟩
    · skip
      by_cases g2 : r0 ≥ r1
      · skip
        go_wp2
        refine bodyPost_ret (v := .tuple #[.agg (row4 0 0 0 (.slice none 0 0)), .int .i64 5]) (by simp [results, Try.results40, go_sem]) rfl ?_
        exact ⟨rfl, below_alloc (below_alloc (Below.refl _ _) _) _⟩
      · skip
        by_cases g3 : c0 < 0
        · skip
          go_wp2
          refine bodyPost_ret (v := .tuple #[.agg (row4 0 0 0 (.slice none 0 0)), .int .i64 5]) (by simp [results, Try.results40, go_sem]) rfl ?_
          exact ⟨rfl, below_alloc (below_alloc (Below.refl _ _) _) _⟩
        · skip
          by_cases g4 : c1 > C
          · skip
            go_wp2
            refine bodyPost_ret (v := .tuple #[.agg (row4 0 0 0 (.slice none 0 0)), .int .i64 5]) (by simp [results, Try.results40, go_sem]) rfl ?_
            exact ⟨rfl, below_alloc (below_alloc (Below.refl _ _) _) _⟩
          · skip
            have g5 : c0 ≥ c1 := by omega
            go_wp2
            refine bodyPost_ret (v := .tuple #[.agg (row4 0 0 0 (.slice none 0 0)), .int .i64 5]) (by simp [results, Try.results40, go_sem]) rfl ?_
            exact ⟨rfl, below_alloc (below_alloc (Below.refl _ _) _) _⟩


end Go.Proofs.Ytklomikdihlcgaa
