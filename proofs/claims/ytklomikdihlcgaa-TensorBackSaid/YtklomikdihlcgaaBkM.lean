/- Form, CutCols, CutRows, Turn of a matrix in form: what they answer, list by list. -/
import Derived.Test.YtklomikdihlcgaaCheckP
import Derived.Test.YtklomikdihlcgaaMgD
namespace Go.Proofs.Ytklomikdihlcgaa
open Go.RowKit PBase
open Go.Proofs.YtklomikdihlcgaaW.PrintWords Go.Proofs.YtklomikdihlcgaaW.PrintLast Go.Proofs.YtklomikdihlcgaaW.PrintMore
set_option linter.unusedVariables false
set_option linter.unusedSimpArgs false
namespace Bk

/-- rows of places -/
def rowP (f : Nat → Nat → Nat) (p q0 n : Nat) : List (Int × Int) := (List.range n).map fun j => ((0 : Int), ((f p (q0 + j) : Nat) : Int))

def gridP (f : Nat → Nat → Nat) (p0 q0 n m : Nat) : List (Int × Int) := (List.range m).flatMap fun i => rowP f (p0 + i) q0 n

theorem rowP_succ (f : Nat → Nat → Nat) (p q0 q : Nat) (h : q0 ≤ q) : rowP f p q0 (q + 1 - q0) = rowP f p q0 (q - q0) ++ [((0 : Int), ((f p q : Nat) : Int))] := by
  rw [show q + 1 - q0 = (q - q0) + 1 by omega]
  simp [rowP, List.range_succ]
  rw [show q0 + (q - q0) = q by omega]

theorem gridP_succ (f : Nat → Nat → Nat) (p0 q0 n p : Nat) (h : p0 ≤ p) : gridP f p0 q0 n (p + 1 - p0) = gridP f p0 q0 n (p - p0) ++ rowP f p q0 n := by
  rw [show p + 1 - p0 = (p - p0) + 1 by omega]
  simp [gridP, List.range_succ]
  rw [show p0 + (p - p0) = p by omega]

theorem rowP_length (f : Nat → Nat → Nat) (p q0 n : Nat) : (rowP f p q0 n).length = n := by simp [rowP]

theorem gridP_length (f : Nat → Nat → Nat) (p0 q0 n m : Nat) : (gridP f p0 q0 n m).length = m * n := by
  induction m with
  | zero => simp [gridP]
  | succ m ih =>
    have := gridP_succ f p0 q0 n (p0 + m) (by omega)
    rw [show p0 + m + 1 - p0 = m + 1 by omega, show p0 + m - p0 = m by omega] at this
    rw [this, List.length_append, ih, rowP_length, Nat.add_mul, Nat.one_mul]

theorem rowP_zero (f : Nat → Nat → Nat) (p q0 : Nat) : rowP f p q0 (q0 - q0) = [] := by simp [rowP]

theorem gridP_zero (f : Nat → Nat → Nat) (p0 q0 n : Nat) : gridP f p0 q0 n (p0 - p0) = [] := by simp [gridP]

theorem len_ok {p0 p p1 q0 q q1 : Nat} (f : Nat → Nat → Nat) (h1 : p1 ≤ 4096) (h2 : q1 ≤ 4096) (h3 : p0 ≤ p) (h4 : p < p1) (h5 : q0 ≤ q) (h6 : q < q1) : ((gridP f p0 q0 (q1 - q0) (p - p0) ++ rowP f p q0 (q - q0)).length + 1) * 16 ≤ 140737488355328 := by
  rw [List.length_append, gridP_length, rowP_length]
  have : (p - p0) * (q1 - q0) ≤ 4096 * 4096 := Nat.mul_le_mul (by omega) (by omega)
  omega

set_option maxHeartbeats 2000000 in
set_option maxRecDepth 100000 in
theorem Cutting_good (R C : Nat) (wd : Int) (r0 r1 c0 c1 : Nat) (w : World) (hR : R ≤ 4096) (hC : C ≤ 4096) (h1 : r0 < r1) (h2 : r1 ≤ R) (h3 : c0 < c1) (h4 : c1 ≤ C) :
    Calls Try.prog 75 #[.agg #[.int .i64 R, .int .i64 C, .int .i64 wd], .int .i64 r0, .int .i64 r1, .int .i64 c0, .int .i64 c1] w fun e w' => ∃ v, e = .returned (.tuple #[.agg #[.int .i64 ((r1 - r0 : Nat) : Int), .int .i64 ((c1 - c0 : Nat) : Int), .int .i64 wd, v], .int .i64 0]) ∧ Places w w' v (gridP (fun a b => a * C + b) r0 c0 (c1 - c0) (r1 - r0)) ∧ Below w.heap.size w w' := by
  go_enter Try.func75, Try.ntmps75
  have HF := Aside0.mk (And.intro hR (And.intro hC (And.intro h1 (And.intro h2 (And.intro h3 h4)))))
  obtain ⟨m, hm⟩ : ∃ m : Nat, m = r1 - r0 := ⟨_, rfl⟩
  obtain ⟨n, hn⟩ : ∃ n : Nat, n = c1 - c0 := ⟨_, rfl⟩
  have hs1 : wrap64 ((r1 : Int) - (r0 : Int)) = (m : Int) := by rw [IntWalk.wrap64_in ((r1 : Int) - (r0 : Int)) (by omega)]; omega
  have hs2 : wrap64 ((c1 : Int) - (c0 : Int)) = (n : Int) := by rw [IntWalk.wrap64_in ((c1 : Int) - (c0 : Int)) (by omega)]; omega
  have d1 : decide (R < r1) = false := decide_eq_false (by omega)
  have d2 : decide (r1 ≤ r0) = false := decide_eq_false (by omega)
  have d3 : decide (C < c1) = false := decide_eq_false (by omega)
  have d4 : decide (c1 ≤ c0) = false := decide_eq_false (by omega)
  have d5 : decide ((r0 : Int) < 0) = false := decide_eq_false (by omega)
  have d6 : decide ((c0 : Int) < 0) = false := decide_eq_false (by omega)
  have HMN := Aside0.mk (And.intro hm hn)
  rw [← hm, ← hn]
  clear hm hn hR hC h1 h2 h3 h4
  go_wp2
  clear d1 d2 d3 d4 d5 d6 hs1 hs2
  generalize hw1 : (((w.alloc (Obj.cells #[Value.int IntKind.i64 R, Value.int IntKind.i64 C, Value.int IntKind.i64 wd] 34)).alloc (Obj.cells #[Value.int IntKind.i64 0, Value.int IntKind.i64 0, Value.int IntKind.i64 0, Value.slice none 0 0] 93)).alloc (Obj.cells #[Value.int IntKind.i64 m, Value.int IntKind.i64 n, Value.int IntKind.i64 wd, Value.slice none 0 0] 93)) = w1
  have H0 : Aside0 (IsB w1 w.heap.size (row3 R C wd) 34) := ⟨by rw [← hw1]; exact blk_alloc (blk_alloc (blk_new _ _) _) _⟩
  have H1 : Aside0 (IsB w1 (w.heap.size + 1) (row4 0 0 0 (.slice none 0 0)) 93) := ⟨by rw [← hw1]; exact blk_alloc (new1 w _ _ 34 93) _⟩
  have H2 : Aside0 (IsB w1 (w.heap.size + 1 + 1) (row4 m n wd (.slice none 0 0)) 93) := ⟨by rw [← hw1]; have h := blk_new ((w.alloc (Obj.cells #[Value.int IntKind.i64 R, Value.int IntKind.i64 C, Value.int IntKind.i64 wd] 34)).alloc (Obj.cells #[Value.int IntKind.i64 0, Value.int IntKind.i64 0, Value.int IntKind.i64 0, Value.slice none 0 0] 93)) (Obj.cells #[Value.int IntKind.i64 m, Value.int IntKind.i64 n, Value.int IntKind.i64 wd, Value.slice none 0 0] 93); simp only [World.size_alloc] at h; exact h⟩
  have HB : Aside0 (Below w.heap.size w w1) := ⟨by rw [← hw1]; exact below_alloc (below_alloc (below_alloc (Below.refl _ _) _) _) _⟩
  clear hw1
  go_loopg [13] (r1 - r0) (fun kq vo w' => ∃ p : Nat, vo = .int .i64 p ∧ Aside0 (r0 ≤ p ∧ p + kq = r1) ∧ Aside0 (IsB w' w.heap.size (row3 R C wd) 34) ∧ Aside0 (IsB w' (w.heap.size + 1) (row4 0 0 0 (.slice none 0 0)) 93) ∧ (∃ v, Aside0 (IsB w' (w.heap.size + 1 + 1) (row4 m n wd v) 93) ∧ Aside0 (Places w w' v (gridP (fun a b => a * C + b) r0 c0 (c1 - c0) (p - r0)))) ∧ Aside0 (Below w.heap.size w w'))
  case atStart => exact ⟨r0, rfl, ⟨by have := HF.out; omega⟩, H0, H1, ⟨_, H2, ⟨by rw [gridP_zero]; exact Kd.R_nil _ _ _ _ _⟩⟩, HB⟩
  case round =>
    clear H0 H1 H2 HB
    obtain ⟨p, rfl, HJ, H0, H1, ⟨v, H2, HP⟩, HB⟩ := hrel
    have a0 := blk_cell H0.out 0
    have a1 := blk_cell H0.out 1
    have a2 := blk_cell H0.out 2
    simp only [List.getElem?_toArray, List.getElem?_cons_zero, List.getElem?_cons_succ] at a0 a1 a2
    have m0 := blk_cell H2.out 0
    have m1 := blk_cell H2.out 1
    have m2 := blk_cell H2.out 2
    have m3 := blk_cell H2.out 3
    simp only [List.getElem?_toArray, List.getElem?_cons_zero, List.getElem?_cons_succ] at m0 m1 m2 m3
    have n0 := blk_cell H1.out 0
    have n1 := blk_cell H1.out 1
    have n2 := blk_cell H1.out 2
    have n3 := blk_cell H1.out 3
    simp only [List.getElem?_toArray, List.getElem?_cons_zero, List.getElem?_cons_succ] at n0 n1 n2 n3
    have rf0 := blk_frozen H1.out 0
    have rf1 := blk_frozen H1.out 1
    have rf2 := blk_frozen H1.out 2
    have rf3 := blk_frozen H1.out 3
    by_cases hlt : p < r1
    · have d1 : decide (p < r1) = true := decide_eq_true hlt
      have HLT := Aside0.mk hlt
      clear hlt
      go_wp2
      clear a0 a1 a2 m0 m1 m2 m3 n0 n1 n2 n3 rf0 rf1 rf2 rf3
      have HP0 : Aside0 (Places w wr v (gridP (fun a b => a * C + b) r0 c0 (c1 - c0) (p - r0) ++ rowP (fun a b => a * C + b) p c0 (c0 - c0))) := ⟨by rw [rowP_zero]; rw [List.append_nil]; exact HP.out⟩
      clear HP d1
      obtain ⟨gk0, hgk0⟩ : ∃ x : Nat, x = gk := ⟨_, rfl⟩
      have HG0 := Aside0.mk hgk0
      clear hgk0
      go_loopg [14] (c1 - c0) (fun kq vi w' => ∃ q : Nat, vi = .int .i64 q ∧ Aside0 (c0 ≤ q ∧ q + kq = c1) ∧ Aside0 (IsB w' w.heap.size (row3 R C wd) 34) ∧ Aside0 (IsB w' (w.heap.size + 1) (row4 0 0 0 (.slice none 0 0)) 93) ∧ (∃ v, Aside0 (IsB w' (w.heap.size + 1 + 1) (row4 m n wd v) 93) ∧ Aside0 (Places w w' v (gridP (fun a b => a * C + b) r0 c0 (c1 - c0) (p - r0) ++ rowP (fun a b => a * C + b) p c0 (q - c0)))) ∧ Aside0 (Below w.heap.size w w'))
      case atStart => exact ⟨c0, rfl, ⟨by have := HF.out; omega⟩, H0, H1, ⟨_, H2, HP0⟩, HB⟩
      case round =>
        clear H0 H1 H2 HB HP0
        obtain ⟨q, rfl, HI, H0, H1, ⟨v, H2, HP⟩, HB⟩ := hrel
        have a1 := blk_cell H0.out 1
        have a0 := blk_cell H0.out 0
        have m3 := blk_cell H2.out 3
        simp only [List.getElem?_toArray, List.getElem?_cons_zero, List.getElem?_cons_succ] at a0 a1 m3
        have rf3 := blk_frozen H2.out 3
        by_cases hlt : q < c1
        · have d1 : decide (q < c1) = true := decide_eq_true hlt
          have HI2 : Aside0 (q < c1) := ⟨hlt⟩
          clear hlt
          have HL : Aside0 (((gridP (fun a b => a * C + b) r0 c0 (c1 - c0) (p - r0) ++ rowP (fun a b => a * C + b) p c0 (q - c0)).length + 1) * 16 ≤ 140737488355328) := ⟨len_ok _ (by have := HF.out; omega) (by have := HF.out; omega) HJ.out.1 HLT.out HI.out.1 HI2.out⟩
          have HX : Aside0 (wrap64 (wrap64 ((p : Int) * (C : Int)) + (q : Int)) = (((fun a b => a * C + b) p q : Nat) : Int)) := ⟨place_ok (by have := HF.out; have := HLT.out; omega) (by have := HF.out; omega) (by have := HF.out; have := HI2.out; omega)⟩
          go_wp2_with ((with_reducible refine gate_builtin (b := .append) (xs := #[.tmp 67, .tmp 75]) rfl ?_); at_builtin; refine Kd.R_append two (w0 := w) w.heap.size rfl (.tmp 67) (.tmp 75) 58 99 (.agg #[.int .i64 0, .int .i64 0]) 16 rfl Try.underlying58 info99 rfl (by decide) (by omega) v (gridP (fun a b => a * C + b) r0 c0 (c1 - c0) (p - r0) ++ rowP (fun a b => a * C + b) p c0 (q - c0)) (0, wrap64 (wrap64 ((p : Int) * (C : Int)) + (q : Int))) [.int .i64 0, .int .i64 (wrap64 (wrap64 ((p : Int) * (C : Int)) + (q : Int)))] (fun _ => True) (fun _ => False) rfl rfl ?aP (fun _ hk => hk.elim) ?aF ?aO ?aB ?aS ?aL ?_; (case aP => exact ⟨[_], [_], rfl, rfl, rfl⟩); (case aB => exact HB.out); (case aF => exact (fun _ _ => trivial)); (case aO => exact HP.out); (case aS => exact below_size HB.out); (case aL => exact HL.out); intro v9 w7 ho hb hg hat; have HP2 : Aside0 (Places w w7 v9 (gridP (fun a b => a * C + b) r0 c0 (c1 - c0) (p - r0) ++ rowP (fun a b => a * C + b) p c0 (q + 1 - c0))) := ⟨by rw [rowP_succ _ _ _ _ HI.out.1, ← List.append_assoc]; exact Places.snoc ho HX.out⟩; have hne := Kd.R_ne HP.out H0.out (by decide); have HH0 := Aside0.mk (blk_grown H0.out hg (Kd.R_ne HP.out H0.out (by decide))); have HH1 := Aside0.mk (blk_grown H1.out hg (Kd.R_ne HP.out H1.out (by decide))); have HH2 := Aside0.mk (blk_grown H2.out hg (Kd.R_ne HP.out H2.out (by decide))); have HB2 := Aside0.mk hb; clear ho hb hg hat HP H0 H1 H2 HB hne a0 a1 m3 rf3 HL HX; have m3 := blk_cell HH2.out 3; simp at m3; have rf3 := blk_frozen HH2.out 3; obtain ⟨A9, c9, hv9⟩ := Kd.R_slice HP2.out; generalize (gridP (fun a b => a * C + b) r0 c0 (c1 - c0) (p - r0) ++ rowP (fun a b => a * C + b) p c0 (q + 1 - c0)).length = ln at hv9; subst hv9)
          go_roundg (gk - 1)
          case measure => have := HI.out; have := HI2.out; omega
          case rel => exact ⟨q + 1, next_i (by have := HI2.out; have := HF.out; omega), ⟨by have := HI.out; have := HI2.out; omega⟩, ⟨blk_far HH0.out (by show w.heap.size ≠ w.heap.size + 1 + 1; omega) _⟩, ⟨blk_far HH1.out (by show w.heap.size + 1 ≠ w.heap.size + 1 + 1; omega) _⟩, ⟨_, ⟨blk_set HH2.out 3 _⟩, ⟨Kd.R_set HP2.out HH2.out (two_E 93 (by decide)) 3 _⟩⟩, ⟨below_set HB2.out (by omega)⟩⟩
        · have d1 : decide (q < c1) = false := decide_eq_false hlt
          have hi : q = c1 := by have := HI.out; omega
          clear HI
          subst hi
          go_wp2
          go_roundg (gk0 - 1)
          case measure => have := HJ.out; have := HLT.out; have := HG0.out; omega
          case rel => exact ⟨p + 1, next_i (by have := HLT.out; have := HF.out; omega), ⟨by have := HJ.out; have := HLT.out; have := HG0.out; omega⟩, H0, H1, ⟨_, H2, ⟨by rw [gridP_succ _ _ _ _ _ HJ.out.1]; exact HP.out⟩⟩, HB⟩
    · have d1 : decide (p < r1) = false := decide_eq_false hlt
      have hj : p = r1 := by have := HJ.out; omega
      clear HJ
      subst hj
      clear m0 m1 m2 m3
      obtain ⟨A, cp, hv⟩ := Kd.R_slice HP.out
      generalize (gridP (fun a b => a * C + b) r0 c0 (c1 - c0) (p - r0)).length = ln at hv
      subst hv
      have m0 := blk_cell H2.out 0
      have m1 := blk_cell H2.out 1
      have m2 := blk_cell H2.out 2
      have m3 := blk_cell H2.out 3
      simp only [List.getElem?_toArray, List.getElem?_cons_zero, List.getElem?_cons_succ] at m0 m1 m2 m3
      go_wp2
      have HE := isB_set4 H1.out (.int .i64 m) (.int .i64 n) (.int .i64 wd) (.slice A ln cp)
      have e0 := blk_cell HE 0
      have e1 := blk_cell HE 1
      have e2 := blk_cell HE 2
      have e3 := blk_cell HE 3
      simp only [List.getElem?_toArray, List.getElem?_cons_zero, List.getElem?_cons_succ] at e0 e1 e2 e3
      refine bodyPost_ret (v := .tuple #[.agg #[.int .i64 m, .int .i64 n, .int .i64 wd, .slice A ln cp], .int .i64 0]) (by simp [results, Try.results75, go_sem, e0, e1, e2, e3]) rfl ?_
      exact ⟨_, rfl, R_set4 (by rw [HMN.out.1, HMN.out.2]; exact HP.out) H1.out (two_E 93 (by decide)) _ _ _ _, below_set4 HB.out (by omega) _ _ _ _⟩
set_option maxHeartbeats 2000000 in
set_option maxRecDepth 100000 in
theorem Forming_good (R C : Nat) (wd : Int) (r c n : Nat) (w : World) (hn1 : n ≤ 4096) (h1 : R * C = n) (h2 : r * c = n) (h5 : 1 ≤ n) (hr : 1 ≤ r) (hc : 1 ≤ c) :
    Calls Try.prog 73 #[.agg #[.int .i64 R, .int .i64 C, .int .i64 wd], .int .i64 r, .int .i64 c] w fun e w' => ∃ v, e = .returned (.tuple #[.agg #[.int .i64 r, .int .i64 c, .int .i64 wd, v], .int .i64 0]) ∧ Places w w' v (rowP (fun _ b => b) 0 0 (n - 0)) ∧ Below w.heap.size w w' := by
  go_enter Try.func73, Try.ntmps73
  have HF := Aside0.mk (And.intro hn1 (And.intro h1 (And.intro h2 (And.intro h5 (And.intro hr hc)))))
  have hs1 : wrap64 ((R : Int) * (C : Int)) = (n : Int) := by rw [← Int.natCast_mul, h1, IntWalk.wrap64_in (n : Int) (by omega)]
  have hs2 : wrap64 ((r : Int) * (c : Int)) = (n : Int) := by rw [← Int.natCast_mul, h2, IntWalk.wrap64_in (n : Int) (by omega)]
  have d1 : decide ((r : Int) < 1) = false := decide_eq_false (by omega)
  have d2 : decide ((c : Int) < 1) = false := decide_eq_false (by omega)
  have d3 : decide (n < r) = false := decide_eq_false (by have := Nat.le_mul_of_pos_right r (show 0 < c by omega); omega)
  have d4 : decide (n < c) = false := decide_eq_false (by have := Nat.le_mul_of_pos_left c (show 0 < r by omega); omega)
  have d5 : decide ((4096 : Int) < (r : Int)) = false := decide_eq_false (by have := Nat.le_mul_of_pos_right r (show 0 < c by omega); omega)
  have d6 : decide ((4096 : Int) < (c : Int)) = false := decide_eq_false (by have := Nat.le_mul_of_pos_left c (show 0 < r by omega); omega)
  clear hn1 h1 h2 h5 hr hc
  go_wp2
  simp only [hs1, hs2]
  clear d1 d2 d3 d4 d5 d6 hs1
  generalize hw1 : (((w.alloc (Obj.cells #[Value.int IntKind.i64 R, Value.int IntKind.i64 C, Value.int IntKind.i64 wd] 34)).alloc (Obj.cells #[Value.int IntKind.i64 0, Value.int IntKind.i64 0, Value.int IntKind.i64 0, Value.slice none 0 0] 93)).alloc (Obj.cells #[Value.int IntKind.i64 r, Value.int IntKind.i64 c, Value.int IntKind.i64 wd, Value.slice none 0 0] 93)) = w1
  have H0 : Aside0 (IsB w1 w.heap.size (row3 R C wd) 34) := ⟨by rw [← hw1]; exact blk_alloc (blk_alloc (blk_new _ _) _) _⟩
  have H1 : Aside0 (IsB w1 (w.heap.size + 1) (row4 0 0 0 (.slice none 0 0)) 93) := ⟨by rw [← hw1]; exact blk_alloc (new1 w _ _ 34 93) _⟩
  have H2 : Aside0 (IsB w1 (w.heap.size + 1 + 1) (row4 r c wd (.slice none 0 0)) 93) := ⟨by rw [← hw1]; have h := blk_new ((w.alloc (Obj.cells #[Value.int IntKind.i64 R, Value.int IntKind.i64 C, Value.int IntKind.i64 wd] 34)).alloc (Obj.cells #[Value.int IntKind.i64 0, Value.int IntKind.i64 0, Value.int IntKind.i64 0, Value.slice none 0 0] 93)) (Obj.cells #[Value.int IntKind.i64 r, Value.int IntKind.i64 c, Value.int IntKind.i64 wd, Value.slice none 0 0] 93); simp only [World.size_alloc] at h; exact h⟩
  have HB : Aside0 (Below w.heap.size w w1) := ⟨by rw [← hw1]; exact below_alloc (below_alloc (below_alloc (Below.refl _ _) _) _) _⟩
  clear hw1
  go_loopg [47] n (fun kq vo w' => ∃ q : Nat, vo = .int .i64 q ∧ Aside0 (q + kq = n) ∧ Aside0 (IsB w' w.heap.size (row3 R C wd) 34) ∧ Aside0 (IsB w' (w.heap.size + 1) (row4 0 0 0 (.slice none 0 0)) 93) ∧ (∃ v, Aside0 (IsB w' (w.heap.size + 1 + 1) (row4 r c wd v) 93) ∧ Aside0 (Places w w' v (rowP (fun _ b => b) 0 0 (q - 0)))) ∧ Aside0 (Below w.heap.size w w'))
  case atStart => exact ⟨0, rfl, ⟨by omega⟩, H0, H1, ⟨_, H2, ⟨by rw [rowP_zero]; exact Kd.R_nil _ _ _ _ _⟩⟩, HB⟩
  case round =>
    clear H0 H1 H2 HB
    obtain ⟨q, rfl, HI, H0, H1, ⟨v, H2, HP⟩, HB⟩ := hrel
    by_cases hlt : q < n
    · have d1 : decide (q < n) = true := decide_eq_true hlt
      have HI2 := Aside0.mk hlt
      clear hlt
      have m3 := blk_cell H2.out 3
      simp only [List.getElem?_toArray, List.getElem?_cons_zero, List.getElem?_cons_succ] at m3
      have rf3 := blk_frozen H2.out 3
      have HL : Aside0 (((rowP (fun _ b => b) 0 0 (q - 0)).length + 1) * 16 ≤ 140737488355328) := ⟨by rw [rowP_length]; have := HI2.out; have := HF.out; omega⟩
      go_wp2_with ((with_reducible refine gate_builtin (b := .append) (xs := #[.tmp 51, .tmp 54]) rfl ?_); at_builtin; refine Kd.R_append two (w0 := w) w.heap.size rfl (.tmp 51) (.tmp 54) 58 99 (.agg #[.int .i64 0, .int .i64 0]) 16 rfl Try.underlying58 info99 rfl (by decide) (by omega) v (rowP (fun _ b => b) 0 0 (q - 0)) (0, (q : Int)) [.int .i64 0, .int .i64 (q : Int)] (fun _ => True) (fun _ => False) rfl rfl ?aP (fun _ hk => hk.elim) ?aF ?aO ?aB ?aS ?aL ?_; (case aP => exact ⟨[_], [_], rfl, rfl, rfl⟩); (case aB => exact HB.out); (case aF => exact (fun _ _ => trivial)); (case aO => exact HP.out); (case aS => exact below_size HB.out); (case aL => exact HL.out); intro v9 w7 ho hb hg hat; have HP2 : Aside0 (Places w w7 v9 (rowP (fun _ b => b) 0 0 (q + 1 - 0))) := ⟨by rw [rowP_succ _ _ _ _ (Nat.zero_le _)]; exact ho⟩; have hne := Kd.R_ne HP.out H0.out (by decide); have HH0 := Aside0.mk (blk_grown H0.out hg (Kd.R_ne HP.out H0.out (by decide))); have HH1 := Aside0.mk (blk_grown H1.out hg (Kd.R_ne HP.out H1.out (by decide))); have HH2 := Aside0.mk (blk_grown H2.out hg (Kd.R_ne HP.out H2.out (by decide))); have HB2 := Aside0.mk hb; clear ho hb hg hat HP H0 H1 H2 HB hne m3 rf3 HL; have m3 := blk_cell HH2.out 3; simp at m3; have rf3 := blk_frozen HH2.out 3; obtain ⟨A9, c9, hv9⟩ := Kd.R_slice HP2.out; generalize (rowP (fun _ b => b) 0 0 (q + 1 - 0)).length = ln at hv9; subst hv9)
      go_roundg (gk - 1)
      case measure => have := HI.out; have := HI2.out; omega
      case rel => exact ⟨q + 1, next_i (by have := HI2.out; have := HF.out; omega), ⟨by have := HI.out; have := HI2.out; omega⟩, ⟨blk_far HH0.out (by show w.heap.size ≠ w.heap.size + 1 + 1; omega) _⟩, ⟨blk_far HH1.out (by show w.heap.size + 1 ≠ w.heap.size + 1 + 1; omega) _⟩, ⟨_, ⟨blk_set HH2.out 3 _⟩, ⟨Kd.R_set HP2.out HH2.out (two_E 93 (by decide)) 3 _⟩⟩, ⟨below_set HB2.out (by omega)⟩⟩
    · have d1 : decide (q < n) = false := decide_eq_false hlt
      have hj : q = n := by have := HI.out; omega
      clear HI
      subst hj
      obtain ⟨A, cp, hv⟩ := Kd.R_slice HP.out
      generalize (rowP (fun _ b => b) 0 0 (q - 0)).length = ln at hv
      subst hv
      have m0 := blk_cell H2.out 0
      have m1 := blk_cell H2.out 1
      have m2 := blk_cell H2.out 2
      have m3 := blk_cell H2.out 3
      simp only [List.getElem?_toArray, List.getElem?_cons_zero, List.getElem?_cons_succ] at m0 m1 m2 m3
      have n_0 := blk_cell H1.out 0
      have n_1 := blk_cell H1.out 1
      have n_2 := blk_cell H1.out 2
      have n_3 := blk_cell H1.out 3
      simp only [List.getElem?_toArray, List.getElem?_cons_zero, List.getElem?_cons_succ] at n_0 n_1 n_2 n_3
      have rf0 := blk_frozen H1.out 0
      have rf1 := blk_frozen H1.out 1
      have rf2 := blk_frozen H1.out 2
      have rf3 := blk_frozen H1.out 3
      go_wp2
      have HE := isB_set4 H1.out (.int .i64 r) (.int .i64 c) (.int .i64 wd) (.slice A ln cp)
      have e0 := blk_cell HE 0
      have e1 := blk_cell HE 1
      have e2 := blk_cell HE 2
      have e3 := blk_cell HE 3
      simp only [List.getElem?_toArray, List.getElem?_cons_zero, List.getElem?_cons_succ] at e0 e1 e2 e3
      refine bodyPost_ret (v := .tuple #[.agg #[.int .i64 r, .int .i64 c, .int .i64 wd, .slice A ln cp], .int .i64 0]) (by simp [results, Try.results73, go_sem, e0, e1, e2, e3]) rfl ?_
      exact ⟨_, rfl, R_set4 HP.out H1.out (two_E 93 (by decide)) _ _ _ _, below_set4 HB.out (by omega) _ _ _ _⟩
set_option maxHeartbeats 1000000 in
set_option maxRecDepth 100000 in
theorem outer_33 (x0 x1 wd : Int) (A : Option Addr) (cA n : Nat) (a b er r0 r1 r2 : Int) (L : List Int) (w : World)
    (h : ∀ W1, Below w.heap.size w W1 → IsB W1 (w.heap.size + 1) #[.int .i64 a] 3 → IsB W1 (w.heap.size + 1 + 1) #[.int .i64 b] 3 → Calls Try.prog 69 #[.agg #[.int .i64 x0, .int .i64 x1, .int .i64 wd, .slice A n cA], .func (.func 72) #[] #[.pointer (some ⟨w.heap.size + 1, 0, none⟩), .pointer (some ⟨w.heap.size + 1 + 1, 0, none⟩)]] W1 (AnsP W1 er r0 r1 r2 L)) :
    Calls Try.prog 33 #[.agg #[.int .i64 x0, .int .i64 x1, .int .i64 wd, .slice A n cA], .int .i64 a, .int .i64 b] w (AnsP w er r0 r1 r2 L) := by
  unfold AnsP
  have HH := Aside0.mk h
  clear h
  go_enter Try.func33, Try.ntmps33
  go_wp2_with fail
  generalize hw1 : ((((w.alloc (Obj.cells #[Value.int IntKind.i64 x0, Value.int IntKind.i64 x1, Value.int IntKind.i64 wd, Value.slice A n cA] 25)).alloc (Obj.cells #[Value.int IntKind.i64 a] 3)).alloc (Obj.cells #[Value.int IntKind.i64 b] 3)).alloc (Obj.cells #[Value.int IntKind.i64 0, Value.int IntKind.i64 0, Value.int IntKind.i64 0, Value.slice none 0 0] 25)) = w1
  have HB : Aside0 (Below w.heap.size w w1) := ⟨by rw [← hw1]; exact below_alloc (below_alloc (below_alloc (below_alloc (Below.refl _ _) _) _) _) _⟩
  have HA : IsB w1 (w.heap.size + 1) #[.int .i64 a] 3 := by rw [← hw1]; exact blk_alloc (blk_alloc (new1 w _ _ 25 3) _) _
  have HBb : IsB w1 (w.heap.size + 1 + 1) #[.int .i64 b] 3 := by rw [← hw1]; exact blk_alloc (by have h := blk_new ((w.alloc (Obj.cells #[Value.int IntKind.i64 x0, Value.int IntKind.i64 x1, Value.int IntKind.i64 wd, Value.slice A n cA] 25)).alloc (Obj.cells #[Value.int IntKind.i64 a] 3)) (Obj.cells #[Value.int IntKind.i64 b] 3); simp only [World.size_alloc] at h; exact h) _
  have H1 : Aside0 (IsB w1 (w.heap.size + 1 + 1 + 1) (row4 0 0 0 (.slice none 0 0)) 25) := ⟨by rw [← hw1]; have h := blk_new (((w.alloc (Obj.cells #[Value.int IntKind.i64 x0, Value.int IntKind.i64 x1, Value.int IntKind.i64 wd, Value.slice A n cA] 25)).alloc (Obj.cells #[Value.int IntKind.i64 a] 3)).alloc (Obj.cells #[Value.int IntKind.i64 b] 3)) (Obj.cells #[Value.int IntKind.i64 0, Value.int IntKind.i64 0, Value.int IntKind.i64 0, Value.slice none 0 0] 25); simp only [World.size_alloc] at h; exact h⟩
  clear hw1
  refine (HH.out w1 HB.out HA HBb).mono ?_
  rintro e w6 ⟨v, rfl, hP6, hb⟩
  have HB6 := Aside0.mk (below_step HB.out hb)
  have H16 := Aside0.mk (blk_below H1.out hb)
  have HP6 := Aside0.mk (show Ints w w6 v L from Kd.R_lower hP6 HB.out.size)
  clear hb hP6 HB H1 HA HBb
  have n0 := blk_cell H16.out 0
  have n1 := blk_cell H16.out 1
  have n2 := blk_cell H16.out 2
  have n3 := blk_cell H16.out 3
  simp only [List.getElem?_toArray, List.getElem?_cons_zero, List.getElem?_cons_succ] at n0 n1 n2 n3
  have nf0 := blk_frozen H16.out 0
  have nf1 := blk_frozen H16.out 1
  have nf2 := blk_frozen H16.out 2
  have nf3 := blk_frozen H16.out 3
  obtain ⟨A7, c7, hv⟩ := Kd.R_slice HP6.out
  generalize L.length = ln at hv
  subst hv
  go_wp2
  have HE := isB_set4 H16.out (.int .i64 r0) (.int .i64 r1) (.int .i64 r2) (.slice A7 ln c7)
  have e0 := blk_cell (Aside0.mk HE).out 0
  have e1 := blk_cell (Aside0.mk HE).out 1
  have e2 := blk_cell (Aside0.mk HE).out 2
  have e3 := blk_cell (Aside0.mk HE).out 3
  simp only [List.getElem?_toArray, List.getElem?_cons_zero, List.getElem?_cons_succ] at e0 e1 e2 e3
  refine bodyPost_ret (v := .tuple #[.agg #[.int .i64 r0, .int .i64 r1, .int .i64 r2, .slice A7 ln c7], .int .i64 er]) (by simp [results, Try.results33, go_sem, e0, e1, e2, e3]) rfl ?_
  exact ⟨_, rfl, R_set4 HP6.out H16.out (by decide) _ _ _ _, below_set4 HB6.out (by omega) _ _ _ _⟩

set_option maxHeartbeats 1000000 in
set_option maxRecDepth 100000 in
theorem outer_34 (x0 x1 wd : Int) (A : Option Addr) (cA n : Nat) (a b er r0 r1 r2 : Int) (L : List Int) (w : World)
    (h : ∀ W1, Below w.heap.size w W1 → IsB W1 (w.heap.size + 1) #[.int .i64 a] 3 → IsB W1 (w.heap.size + 1 + 1) #[.int .i64 b] 3 → Calls Try.prog 69 #[.agg #[.int .i64 x0, .int .i64 x1, .int .i64 wd, .slice A n cA], .func (.func 74) #[] #[.pointer (some ⟨w.heap.size + 1, 0, none⟩), .pointer (some ⟨w.heap.size + 1 + 1, 0, none⟩)]] W1 (AnsP W1 er r0 r1 r2 L)) :
    Calls Try.prog 34 #[.agg #[.int .i64 x0, .int .i64 x1, .int .i64 wd, .slice A n cA], .int .i64 a, .int .i64 b] w (AnsP w er r0 r1 r2 L) := by
  unfold AnsP
  have HH := Aside0.mk h
  clear h
  go_enter Try.func34, Try.ntmps34
  go_wp2_with fail
  generalize hw1 : ((((w.alloc (Obj.cells #[Value.int IntKind.i64 x0, Value.int IntKind.i64 x1, Value.int IntKind.i64 wd, Value.slice A n cA] 25)).alloc (Obj.cells #[Value.int IntKind.i64 a] 3)).alloc (Obj.cells #[Value.int IntKind.i64 b] 3)).alloc (Obj.cells #[Value.int IntKind.i64 0, Value.int IntKind.i64 0, Value.int IntKind.i64 0, Value.slice none 0 0] 25)) = w1
  have HB : Aside0 (Below w.heap.size w w1) := ⟨by rw [← hw1]; exact below_alloc (below_alloc (below_alloc (below_alloc (Below.refl _ _) _) _) _) _⟩
  have HA : IsB w1 (w.heap.size + 1) #[.int .i64 a] 3 := by rw [← hw1]; exact blk_alloc (blk_alloc (new1 w _ _ 25 3) _) _
  have HBb : IsB w1 (w.heap.size + 1 + 1) #[.int .i64 b] 3 := by rw [← hw1]; exact blk_alloc (by have h := blk_new ((w.alloc (Obj.cells #[Value.int IntKind.i64 x0, Value.int IntKind.i64 x1, Value.int IntKind.i64 wd, Value.slice A n cA] 25)).alloc (Obj.cells #[Value.int IntKind.i64 a] 3)) (Obj.cells #[Value.int IntKind.i64 b] 3); simp only [World.size_alloc] at h; exact h) _
  have H1 : Aside0 (IsB w1 (w.heap.size + 1 + 1 + 1) (row4 0 0 0 (.slice none 0 0)) 25) := ⟨by rw [← hw1]; have h := blk_new (((w.alloc (Obj.cells #[Value.int IntKind.i64 x0, Value.int IntKind.i64 x1, Value.int IntKind.i64 wd, Value.slice A n cA] 25)).alloc (Obj.cells #[Value.int IntKind.i64 a] 3)).alloc (Obj.cells #[Value.int IntKind.i64 b] 3)) (Obj.cells #[Value.int IntKind.i64 0, Value.int IntKind.i64 0, Value.int IntKind.i64 0, Value.slice none 0 0] 25); simp only [World.size_alloc] at h; exact h⟩
  clear hw1
  refine (HH.out w1 HB.out HA HBb).mono ?_
  rintro e w6 ⟨v, rfl, hP6, hb⟩
  have HB6 := Aside0.mk (below_step HB.out hb)
  have H16 := Aside0.mk (blk_below H1.out hb)
  have HP6 := Aside0.mk (show Ints w w6 v L from Kd.R_lower hP6 HB.out.size)
  clear hb hP6 HB H1 HA HBb
  have n0 := blk_cell H16.out 0
  have n1 := blk_cell H16.out 1
  have n2 := blk_cell H16.out 2
  have n3 := blk_cell H16.out 3
  simp only [List.getElem?_toArray, List.getElem?_cons_zero, List.getElem?_cons_succ] at n0 n1 n2 n3
  have nf0 := blk_frozen H16.out 0
  have nf1 := blk_frozen H16.out 1
  have nf2 := blk_frozen H16.out 2
  have nf3 := blk_frozen H16.out 3
  obtain ⟨A7, c7, hv⟩ := Kd.R_slice HP6.out
  generalize L.length = ln at hv
  subst hv
  go_wp2
  have HE := isB_set4 H16.out (.int .i64 r0) (.int .i64 r1) (.int .i64 r2) (.slice A7 ln c7)
  have e0 := blk_cell (Aside0.mk HE).out 0
  have e1 := blk_cell (Aside0.mk HE).out 1
  have e2 := blk_cell (Aside0.mk HE).out 2
  have e3 := blk_cell (Aside0.mk HE).out 3
  simp only [List.getElem?_toArray, List.getElem?_cons_zero, List.getElem?_cons_succ] at e0 e1 e2 e3
  refine bodyPost_ret (v := .tuple #[.agg #[.int .i64 r0, .int .i64 r1, .int .i64 r2, .slice A7 ln c7], .int .i64 er]) (by simp [results, Try.results34, go_sem, e0, e1, e2, e3]) rfl ?_
  exact ⟨_, rfl, R_set4 HP6.out H16.out (by decide) _ _ _ _, below_set4 HB6.out (by omega) _ _ _ _⟩

set_option maxHeartbeats 1000000 in
set_option maxRecDepth 100000 in
theorem outer_35 (x0 x1 wd : Int) (A : Option Addr) (cA n : Nat) (a b er r0 r1 r2 : Int) (L : List Int) (w : World)
    (h : ∀ W1, Below w.heap.size w W1 → IsB W1 (w.heap.size + 1) #[.int .i64 a] 3 → IsB W1 (w.heap.size + 1 + 1) #[.int .i64 b] 3 → Calls Try.prog 69 #[.agg #[.int .i64 x0, .int .i64 x1, .int .i64 wd, .slice A n cA], .func (.func 76) #[] #[.pointer (some ⟨w.heap.size + 1, 0, none⟩), .pointer (some ⟨w.heap.size + 1 + 1, 0, none⟩)]] W1 (AnsP W1 er r0 r1 r2 L)) :
    Calls Try.prog 35 #[.agg #[.int .i64 x0, .int .i64 x1, .int .i64 wd, .slice A n cA], .int .i64 a, .int .i64 b] w (AnsP w er r0 r1 r2 L) := by
  unfold AnsP
  have HH := Aside0.mk h
  clear h
  go_enter Try.func35, Try.ntmps35
  go_wp2_with fail
  generalize hw1 : ((((w.alloc (Obj.cells #[Value.int IntKind.i64 x0, Value.int IntKind.i64 x1, Value.int IntKind.i64 wd, Value.slice A n cA] 25)).alloc (Obj.cells #[Value.int IntKind.i64 a] 3)).alloc (Obj.cells #[Value.int IntKind.i64 b] 3)).alloc (Obj.cells #[Value.int IntKind.i64 0, Value.int IntKind.i64 0, Value.int IntKind.i64 0, Value.slice none 0 0] 25)) = w1
  have HB : Aside0 (Below w.heap.size w w1) := ⟨by rw [← hw1]; exact below_alloc (below_alloc (below_alloc (below_alloc (Below.refl _ _) _) _) _) _⟩
  have HA : IsB w1 (w.heap.size + 1) #[.int .i64 a] 3 := by rw [← hw1]; exact blk_alloc (blk_alloc (new1 w _ _ 25 3) _) _
  have HBb : IsB w1 (w.heap.size + 1 + 1) #[.int .i64 b] 3 := by rw [← hw1]; exact blk_alloc (by have h := blk_new ((w.alloc (Obj.cells #[Value.int IntKind.i64 x0, Value.int IntKind.i64 x1, Value.int IntKind.i64 wd, Value.slice A n cA] 25)).alloc (Obj.cells #[Value.int IntKind.i64 a] 3)) (Obj.cells #[Value.int IntKind.i64 b] 3); simp only [World.size_alloc] at h; exact h) _
  have H1 : Aside0 (IsB w1 (w.heap.size + 1 + 1 + 1) (row4 0 0 0 (.slice none 0 0)) 25) := ⟨by rw [← hw1]; have h := blk_new (((w.alloc (Obj.cells #[Value.int IntKind.i64 x0, Value.int IntKind.i64 x1, Value.int IntKind.i64 wd, Value.slice A n cA] 25)).alloc (Obj.cells #[Value.int IntKind.i64 a] 3)).alloc (Obj.cells #[Value.int IntKind.i64 b] 3)) (Obj.cells #[Value.int IntKind.i64 0, Value.int IntKind.i64 0, Value.int IntKind.i64 0, Value.slice none 0 0] 25); simp only [World.size_alloc] at h; exact h⟩
  clear hw1
  refine (HH.out w1 HB.out HA HBb).mono ?_
  rintro e w6 ⟨v, rfl, hP6, hb⟩
  have HB6 := Aside0.mk (below_step HB.out hb)
  have H16 := Aside0.mk (blk_below H1.out hb)
  have HP6 := Aside0.mk (show Ints w w6 v L from Kd.R_lower hP6 HB.out.size)
  clear hb hP6 HB H1 HA HBb
  have n0 := blk_cell H16.out 0
  have n1 := blk_cell H16.out 1
  have n2 := blk_cell H16.out 2
  have n3 := blk_cell H16.out 3
  simp only [List.getElem?_toArray, List.getElem?_cons_zero, List.getElem?_cons_succ] at n0 n1 n2 n3
  have nf0 := blk_frozen H16.out 0
  have nf1 := blk_frozen H16.out 1
  have nf2 := blk_frozen H16.out 2
  have nf3 := blk_frozen H16.out 3
  obtain ⟨A7, c7, hv⟩ := Kd.R_slice HP6.out
  generalize L.length = ln at hv
  subst hv
  go_wp2
  have HE := isB_set4 H16.out (.int .i64 r0) (.int .i64 r1) (.int .i64 r2) (.slice A7 ln c7)
  have e0 := blk_cell (Aside0.mk HE).out 0
  have e1 := blk_cell (Aside0.mk HE).out 1
  have e2 := blk_cell (Aside0.mk HE).out 2
  have e3 := blk_cell (Aside0.mk HE).out 3
  simp only [List.getElem?_toArray, List.getElem?_cons_zero, List.getElem?_cons_succ] at e0 e1 e2 e3
  refine bodyPost_ret (v := .tuple #[.agg #[.int .i64 r0, .int .i64 r1, .int .i64 r2, .slice A7 ln c7], .int .i64 er]) (by simp [results, Try.results35, go_sem, e0, e1, e2, e3]) rfl ?_
  exact ⟨_, rfl, R_set4 HP6.out H16.out (by decide) _ _ _ _, below_set4 HB6.out (by omega) _ _ _ _⟩

set_option maxHeartbeats 1000000 in
set_option maxRecDepth 100000 in
theorem clos_72 (x0 x1 wd a b er r0 r1 r2 : Int) (b1 b2 : Nat) (pl : List (Int × Int)) (w : World) (h1 : IsB w b1 #[.int .i64 a] 3) (h2 : IsB w b2 #[.int .i64 b] 3)
    (h : ∀ W1, Below w.heap.size w W1 → Calls Try.prog 73 #[.agg #[.int .i64 x0, .int .i64 x1, .int .i64 wd], .int .i64 a, .int .i64 b] W1 (MoveP W1 er r0 r1 r2 pl)) :
    Calls Try.prog 72 #[.agg #[.int .i64 x0, .int .i64 x1, .int .i64 wd], .pointer (some ⟨b1, 0, none⟩), .pointer (some ⟨b2, 0, none⟩)] w (MoveP w er r0 r1 r2 pl) := by
  unfold MoveP
  have HH := Aside0.mk h
  clear h
  go_enter Try.func72, Try.ntmps72
  have p1 := blk_cell (blk_alloc (blk_alloc h1 (Obj.cells (row3 x0 x1 wd) 34)) (Obj.cells (row4 0 0 0 (.slice none 0 0)) 93)) 0
  have p2 := blk_cell (blk_alloc (blk_alloc h2 (Obj.cells (row3 x0 x1 wd) 34)) (Obj.cells (row4 0 0 0 (.slice none 0 0)) 93)) 0
  simp only [List.getElem?_toArray, List.getElem?_cons_zero] at p1 p2
  clear h1 h2
  go_wp2_with fail
  generalize hw1 : ((w.alloc (Obj.cells #[Value.int IntKind.i64 x0, Value.int IntKind.i64 x1, Value.int IntKind.i64 wd] 34)).alloc (Obj.cells #[Value.int IntKind.i64 0, Value.int IntKind.i64 0, Value.int IntKind.i64 0, Value.slice none 0 0] 93)) = w1
  have HB : Aside0 (Below w.heap.size w w1) := ⟨by rw [← hw1]; exact below_alloc (below_alloc (Below.refl _ _) _) _⟩
  have H1 : Aside0 (IsB w1 (w.heap.size + 1) (row4 0 0 0 (.slice none 0 0)) 93) := ⟨by rw [← hw1]; exact new1 w _ _ 34 93⟩
  clear hw1 p1 p2
  refine (HH.out w1 HB.out).mono ?_
  rintro e w6 ⟨v, rfl, hP6, hb⟩
  have HB6 := Aside0.mk (below_step HB.out hb)
  have H16 := Aside0.mk (blk_below H1.out hb)
  have HP6 := Aside0.mk (show Places w w6 v pl from Kd.R_lower hP6 HB.out.size)
  clear hb hP6 HB H1
  have n0 := blk_cell H16.out 0
  have n1 := blk_cell H16.out 1
  have n2 := blk_cell H16.out 2
  have n3 := blk_cell H16.out 3
  simp only [List.getElem?_toArray, List.getElem?_cons_zero, List.getElem?_cons_succ] at n0 n1 n2 n3
  have nf0 := blk_frozen H16.out 0
  have nf1 := blk_frozen H16.out 1
  have nf2 := blk_frozen H16.out 2
  have nf3 := blk_frozen H16.out 3
  obtain ⟨A7, c7, hv⟩ := Kd.R_slice HP6.out
  generalize pl.length = ln at hv
  subst hv
  go_wp2
  have HE := isB_set4 H16.out (.int .i64 r0) (.int .i64 r1) (.int .i64 r2) (.slice A7 ln c7)
  have e0 := blk_cell (Aside0.mk HE).out 0
  have e1 := blk_cell (Aside0.mk HE).out 1
  have e2 := blk_cell (Aside0.mk HE).out 2
  have e3 := blk_cell (Aside0.mk HE).out 3
  simp only [List.getElem?_toArray, List.getElem?_cons_zero, List.getElem?_cons_succ] at e0 e1 e2 e3
  refine bodyPost_ret (v := .tuple #[.agg #[.int .i64 r0, .int .i64 r1, .int .i64 r2, .slice A7 ln c7], .int .i64 er]) (by simp [results, Try.results72, go_sem, e0, e1, e2, e3]) rfl ?_
  exact ⟨_, rfl, R_set4 HP6.out H16.out (two_E 93 (by decide)) _ _ _ _, below_set4 HB6.out (by omega) _ _ _ _⟩

set_option maxHeartbeats 1000000 in
set_option maxRecDepth 100000 in
theorem clos_74 (x0 x1 wd a b er r0 r1 r2 : Int) (b1 b2 : Nat) (pl : List (Int × Int)) (w : World) (h1 : IsB w b1 #[.int .i64 a] 3) (h2 : IsB w b2 #[.int .i64 b] 3)
    (h : ∀ W1, Below w.heap.size w W1 → Calls Try.prog 75 #[.agg #[.int .i64 x0, .int .i64 x1, .int .i64 wd], .int .i64 0, .int .i64 x0, .int .i64 a, .int .i64 b] W1 (MoveP W1 er r0 r1 r2 pl)) :
    Calls Try.prog 74 #[.agg #[.int .i64 x0, .int .i64 x1, .int .i64 wd], .pointer (some ⟨b1, 0, none⟩), .pointer (some ⟨b2, 0, none⟩)] w (MoveP w er r0 r1 r2 pl) := by
  unfold MoveP
  have HH := Aside0.mk h
  clear h
  go_enter Try.func74, Try.ntmps74
  have p1 := blk_cell (blk_alloc (blk_alloc h1 (Obj.cells (row3 x0 x1 wd) 34)) (Obj.cells (row4 0 0 0 (.slice none 0 0)) 93)) 0
  have p2 := blk_cell (blk_alloc (blk_alloc h2 (Obj.cells (row3 x0 x1 wd) 34)) (Obj.cells (row4 0 0 0 (.slice none 0 0)) 93)) 0
  simp only [List.getElem?_toArray, List.getElem?_cons_zero] at p1 p2
  clear h1 h2
  go_wp2_with fail
  generalize hw1 : ((w.alloc (Obj.cells #[Value.int IntKind.i64 x0, Value.int IntKind.i64 x1, Value.int IntKind.i64 wd] 34)).alloc (Obj.cells #[Value.int IntKind.i64 0, Value.int IntKind.i64 0, Value.int IntKind.i64 0, Value.slice none 0 0] 93)) = w1
  have HB : Aside0 (Below w.heap.size w w1) := ⟨by rw [← hw1]; exact below_alloc (below_alloc (Below.refl _ _) _) _⟩
  have H1 : Aside0 (IsB w1 (w.heap.size + 1) (row4 0 0 0 (.slice none 0 0)) 93) := ⟨by rw [← hw1]; exact new1 w _ _ 34 93⟩
  clear hw1 p1 p2
  refine (HH.out w1 HB.out).mono ?_
  rintro e w6 ⟨v, rfl, hP6, hb⟩
  have HB6 := Aside0.mk (below_step HB.out hb)
  have H16 := Aside0.mk (blk_below H1.out hb)
  have HP6 := Aside0.mk (show Places w w6 v pl from Kd.R_lower hP6 HB.out.size)
  clear hb hP6 HB H1
  have n0 := blk_cell H16.out 0
  have n1 := blk_cell H16.out 1
  have n2 := blk_cell H16.out 2
  have n3 := blk_cell H16.out 3
  simp only [List.getElem?_toArray, List.getElem?_cons_zero, List.getElem?_cons_succ] at n0 n1 n2 n3
  have nf0 := blk_frozen H16.out 0
  have nf1 := blk_frozen H16.out 1
  have nf2 := blk_frozen H16.out 2
  have nf3 := blk_frozen H16.out 3
  obtain ⟨A7, c7, hv⟩ := Kd.R_slice HP6.out
  generalize pl.length = ln at hv
  subst hv
  go_wp2
  have HE := isB_set4 H16.out (.int .i64 r0) (.int .i64 r1) (.int .i64 r2) (.slice A7 ln c7)
  have e0 := blk_cell (Aside0.mk HE).out 0
  have e1 := blk_cell (Aside0.mk HE).out 1
  have e2 := blk_cell (Aside0.mk HE).out 2
  have e3 := blk_cell (Aside0.mk HE).out 3
  simp only [List.getElem?_toArray, List.getElem?_cons_zero, List.getElem?_cons_succ] at e0 e1 e2 e3
  refine bodyPost_ret (v := .tuple #[.agg #[.int .i64 r0, .int .i64 r1, .int .i64 r2, .slice A7 ln c7], .int .i64 er]) (by simp [results, Try.results74, go_sem, e0, e1, e2, e3]) rfl ?_
  exact ⟨_, rfl, R_set4 HP6.out H16.out (two_E 93 (by decide)) _ _ _ _, below_set4 HB6.out (by omega) _ _ _ _⟩

set_option maxHeartbeats 1000000 in
set_option maxRecDepth 100000 in
theorem clos_76 (x0 x1 wd a b er r0 r1 r2 : Int) (b1 b2 : Nat) (pl : List (Int × Int)) (w : World) (h1 : IsB w b1 #[.int .i64 a] 3) (h2 : IsB w b2 #[.int .i64 b] 3)
    (h : ∀ W1, Below w.heap.size w W1 → Calls Try.prog 75 #[.agg #[.int .i64 x0, .int .i64 x1, .int .i64 wd], .int .i64 a, .int .i64 b, .int .i64 0, .int .i64 x1] W1 (MoveP W1 er r0 r1 r2 pl)) :
    Calls Try.prog 76 #[.agg #[.int .i64 x0, .int .i64 x1, .int .i64 wd], .pointer (some ⟨b1, 0, none⟩), .pointer (some ⟨b2, 0, none⟩)] w (MoveP w er r0 r1 r2 pl) := by
  unfold MoveP
  have HH := Aside0.mk h
  clear h
  go_enter Try.func76, Try.ntmps76
  have p1 := blk_cell (blk_alloc (blk_alloc h1 (Obj.cells (row3 x0 x1 wd) 34)) (Obj.cells (row4 0 0 0 (.slice none 0 0)) 93)) 0
  have p2 := blk_cell (blk_alloc (blk_alloc h2 (Obj.cells (row3 x0 x1 wd) 34)) (Obj.cells (row4 0 0 0 (.slice none 0 0)) 93)) 0
  simp only [List.getElem?_toArray, List.getElem?_cons_zero] at p1 p2
  clear h1 h2
  go_wp2_with fail
  generalize hw1 : ((w.alloc (Obj.cells #[Value.int IntKind.i64 x0, Value.int IntKind.i64 x1, Value.int IntKind.i64 wd] 34)).alloc (Obj.cells #[Value.int IntKind.i64 0, Value.int IntKind.i64 0, Value.int IntKind.i64 0, Value.slice none 0 0] 93)) = w1
  have HB : Aside0 (Below w.heap.size w w1) := ⟨by rw [← hw1]; exact below_alloc (below_alloc (Below.refl _ _) _) _⟩
  have H1 : Aside0 (IsB w1 (w.heap.size + 1) (row4 0 0 0 (.slice none 0 0)) 93) := ⟨by rw [← hw1]; exact new1 w _ _ 34 93⟩
  clear hw1 p1 p2
  refine (HH.out w1 HB.out).mono ?_
  rintro e w6 ⟨v, rfl, hP6, hb⟩
  have HB6 := Aside0.mk (below_step HB.out hb)
  have H16 := Aside0.mk (blk_below H1.out hb)
  have HP6 := Aside0.mk (show Places w w6 v pl from Kd.R_lower hP6 HB.out.size)
  clear hb hP6 HB H1
  have n0 := blk_cell H16.out 0
  have n1 := blk_cell H16.out 1
  have n2 := blk_cell H16.out 2
  have n3 := blk_cell H16.out 3
  simp only [List.getElem?_toArray, List.getElem?_cons_zero, List.getElem?_cons_succ] at n0 n1 n2 n3
  have nf0 := blk_frozen H16.out 0
  have nf1 := blk_frozen H16.out 1
  have nf2 := blk_frozen H16.out 2
  have nf3 := blk_frozen H16.out 3
  obtain ⟨A7, c7, hv⟩ := Kd.R_slice HP6.out
  generalize pl.length = ln at hv
  subst hv
  go_wp2
  have HE := isB_set4 H16.out (.int .i64 r0) (.int .i64 r1) (.int .i64 r2) (.slice A7 ln c7)
  have e0 := blk_cell (Aside0.mk HE).out 0
  have e1 := blk_cell (Aside0.mk HE).out 1
  have e2 := blk_cell (Aside0.mk HE).out 2
  have e3 := blk_cell (Aside0.mk HE).out 3
  simp only [List.getElem?_toArray, List.getElem?_cons_zero, List.getElem?_cons_succ] at e0 e1 e2 e3
  refine bodyPost_ret (v := .tuple #[.agg #[.int .i64 r0, .int .i64 r1, .int .i64 r2, .slice A7 ln c7], .int .i64 er]) (by simp [results, Try.results76, go_sem, e0, e1, e2, e3]) rfl ?_
  exact ⟨_, rfl, R_set4 HP6.out H16.out (two_E 93 (by decide)) _ _ _ _, below_set4 HB6.out (by omega) _ _ _ _⟩
theorem grid_in {f : Nat → Nat → Nat} {p0 q0 n m N : Nat} {r c wd : Int} {l : List Int} (hl : l.length = N) (h : ∀ a b, p0 ≤ a → a < p0 + m → q0 ≤ b → b < q0 + n → f a b < N) : ∀ p ∈ gridP f p0 q0 n m, inMs [(r, c, wd, l)] p := by
  intro p hp
  simp only [gridP, rowP, List.mem_flatMap, List.mem_map, List.mem_range] at hp
  obtain ⟨i, hi, j, hj, rfl⟩ := hp
  have := h (p0 + i) (q0 + j) (by omega) (by omega) (by omega) (by omega)
  refine ⟨by simp, by simp, by simp only []; omega, ?_⟩
  simp only [matAt, Int.toNat_zero, List.getD_cons_zero, hl]
  omega

theorem row_in {n N : Nat} {r c wd : Int} {l : List Int} (hl : l.length = N) (hn : n ≤ N) : ∀ p ∈ rowP (fun _ b => b) 0 0 n, inMs [(r, c, wd, l)] p := by
  intro p hp
  simp only [rowP, List.mem_map, List.mem_range] at hp
  obtain ⟨j, hj, rfl⟩ := hp
  refine ⟨by simp, by simp, by simp only []; omega, ?_⟩
  simp only [matAt, Int.toNat_zero, List.getD_cons_zero, hl]
  omega

theorem cut_lt {R C a b : Nat} (ha : a < R) (hb : b < C) : a * C + b < R * C := by
  have h2 : (a + 1) * C ≤ R * C := Nat.mul_le_mul_right C ha
  have h3 : (a + 1) * C = a * C + C := by rw [Nat.add_mul, Nat.one_mul]
  omega

theorem nat_form {R C : Nat} {wd : Int} {l : List Int} (h : checkV R C wd l = 0) : (wd = 32 ∨ wd = 64) ∧ 1 ≤ R ∧ 1 ≤ C ∧ R ≤ 4096 ∧ C ≤ 4096 ∧ R * C ≤ 4096 ∧ l.length = R * C := by
  obtain ⟨c0, c1, c2, c3, c4, c5, c6, c7⟩ := check_form h
  rw [← Int.natCast_mul] at c5 c6
  exact ⟨c0, by omega, by omega, by omega, by omega, by omega, by omega⟩

def tab2 (R C : Nat) (F : Nat → Nat → Int) : List Int := (List.range R).flatMap fun i => (List.range C).map (F i)
theorem tab2_length (R C : Nat) (F : Nat → Nat → Int) : (tab2 R C F).length = R * C := by
  unfold tab2
  induction R with
  | zero => simp
  | succ n ih => rw [List.range_succ, List.flatMap_append, List.length_append, ih]; simp [Nat.succ_mul]
theorem tab2_getD (R C : Nat) (F : Nat → Nat → Int) : ∀ {i j : Nat}, i < R → j < C → (tab2 R C F).getD (i * C + j) 0 = F i j := by
  induction R with
  | zero => intro i j hi; omega
  | succ n ih =>
    intro i j hi hj
    have e : tab2 (n + 1) C F = tab2 n C F ++ (List.range C).map (F n) := by unfold tab2; rw [List.range_succ, List.flatMap_append]; simp
    have hl := tab2_length n C F
    rw [e, List.getD_eq_getElem?_getD]
    by_cases h : i < n
    · rw [List.getElem?_append_left (by rw [hl]; exact cut_lt h hj), ← List.getD_eq_getElem?_getD]
      exact ih h hj
    · have hin : i = n := by omega
      subst hin
      rw [List.getElem?_append_right (by rw [hl]; omega), hl]
      have : i * C + j - i * C = j := by omega
      rw [this]
      simp [hj]
theorem tab2_self {R C : Nat} {l : List Int} (h : l.length = R * C) (f : Int → Int) : tab2 R C (fun i j => f (l.getD (i * C + j) 0)) = l.map f := by
  by_cases hC : C = 0
  · subst hC
    have : l = [] := by cases l with | nil => rfl | cons a b => simp at h
    subst this
    have e := tab2_length R 0 (fun i j => f (([] : List Int).getD (i * 0 + j) 0))
    rw [Nat.mul_zero] at e
    rw [List.eq_nil_of_length_eq_zero e]; rfl
  refine List.ext_getElem (by rw [tab2_length, List.length_map, h]) fun k h1 h2 => ?_
  rw [tab2_length] at h1
  have hk : k = k / C * C + k % C := by have := Nat.div_add_mod k C; rw [Nat.mul_comm]; omega
  have hr : k / C < R := (Nat.div_lt_iff_lt_mul (by omega)).2 h1
  have hc : k % C < C := Nat.mod_lt _ (by omega)
  have e := tab2_getD R C (fun i j => f (l.getD (i * C + j) 0)) hr hc
  have e1 : ∀ (a b : Nat), k = a * C + b → (tab2 R C fun i j => f (l.getD (i * C + j) 0))[k]'(by rw [tab2_length]; exact h1) = (tab2 R C fun i j => f (l.getD (i * C + j) 0)).getD (a * C + b) 0 := by
    intro a b hab
    rw [List.getD_eq_getElem?_getD, ← hab, List.getElem?_eq_getElem (by rw [tab2_length]; exact h1)]; rfl
  rw [e1 _ _ hk, e]
  have : l.getD (k / C * C + k % C) 0 = l[k]'(by omega) := by rw [← hk, List.getD_eq_getElem?_getD, List.getElem?_eq_getElem (by omega)]; rfl
  rw [this, List.getElem_map]
theorem tab2_ext {R C : Nat} {F G : Nat → Nat → Int} (h : ∀ i j, i < R → j < C → F i j = G i j) : tab2 R C F = tab2 R C G := by
  unfold tab2
  have : ∀ i, i ∈ List.range R → (List.range C).map (F i) = (List.range C).map (G i) := fun i hi => List.map_congr_left fun j hj => h i j (List.mem_range.1 hi) (List.mem_range.1 hj)
  generalize List.range R = rs at this
  induction rs with
  | nil => rfl
  | cons a rs ih => simp only [List.flatMap_cons]; rw [this a (by simp), ih (fun i hi => this i (by simp [hi]))]
theorem tab2_mem {R C : Nat} {F : Nat → Nat → Int} {x : Int} (h : x ∈ tab2 R C F) : ∃ i j, i < R ∧ j < C ∧ x = F i j := by
  simp only [tab2, List.mem_flatMap, List.mem_range, List.mem_map] at h
  obtain ⟨i, hi, j, hj, rfl⟩ := h
  exact ⟨i, j, hi, hj, rfl⟩
theorem elem_one (r c wd : Int) (l : List Int) (k : Nat) : elemAt [(r, c, wd, l)] ((0 : Int), ((k : Nat) : Int)) = l.getD k 0 := by
  simp [elemAt, matAt]
theorem grid_map (f : Nat → Nat → Nat) (p0 q0 n m : Nat) (r c wd : Int) (l : List Int) (g : Int → Int) : (gridP f p0 q0 n m).map (fun p => g (elemAt [(r, c, wd, l)] p)) = tab2 m n (fun i j => g (l.getD (f (p0 + i) (q0 + j)) 0)) := by
  simp only [gridP, rowP, tab2, List.map_flatMap, List.map_map, Function.comp_def, elem_one]
theorem row_map {n : Nat} (r c wd : Int) (l : List Int) (g : Int → Int) (h : l.length = n) : (rowP (fun _ b => b) 0 0 n).map (fun p => g (elemAt [(r, c, wd, l)] p)) = l.map g := by
  have e : (rowP (fun _ b => b) 0 0 n).map (fun p => g (elemAt [(r, c, wd, l)] p)) = tab2 1 n (fun i j => g (l.getD (i * n + j) 0)) := by
    simp only [rowP, tab2, List.map_map, Function.comp_def, elem_one]
    simp
  rw [e, tab2_self (by omega)]
theorem turn_map (R C : Nat) (r c wd : Int) (l : List Int) (g : Int → Int) : (turnL R C C).map (fun p => g (elemAt [(r, c, wd, l)] p)) = tab2 C R (fun i j => g (l.getD (j * C + i) 0)) := by
  simp only [turnL, colL, tab2, List.map_flatMap, List.map_map, Function.comp_def, elem_one]

theorem turn_ok {R C : Nat} {wd : Int} {l : List Int} (hck : checkV R C wd l = 0) (A : Option Addr) (cA : Nat) (w : World) (hC : (Kd.int .i64).C w A l.length l) (hcA : l.length ≤ cA) :
    Calls Try.prog 32 #[.agg #[.int .i64 R, .int .i64 C, .int .i64 wd, .slice A l.length cA]] w (AnsP w 0 C R wd (tab2 C R (fun i j => cleanV wd (l.getD (j * C + i) 0)))) := by
  obtain ⟨hw, c1, c2, c3, c4, c5, c6⟩ := nat_form hck
  have h := Turn_calls (l.length + 3) R C wd A cA l (cleanV wd) w c3 c4 c6 (by omega) hC hcA (by rw [check_eq _ _ _ _ _ (by omega) (by omega), hck]) (fun x => clean_at (l.length + 2) x hw)
  rw [turn_map] at h
  exact h
theorem form_ok {R C : Nat} {wd : Int} {l : List Int} (hck : checkV R C wd l = 0) (A : Option Addr) (cA : Nat) (w : World) (hC : (Kd.int .i64).C w A l.length l) (hcA : l.length ≤ cA) (r c : Nat) (h6 : r * c = R * C) (hr : 1 ≤ r) (hc : 1 ≤ c) :
    Calls Try.prog 33 #[.agg #[.int .i64 R, .int .i64 C, .int .i64 wd, .slice A l.length cA], .int .i64 r, .int .i64 c] w (AnsP w 0 r c wd (l.map (cleanV wd))) := by
  obtain ⟨hw, c1, c2, c3, c4, c5, c6⟩ := nat_form hck
  have hl6 : l.length ≤ 1000000 := by omega
  have h7 : 1 ≤ R * C := Nat.mul_pos c1 c2
  have e := row_map (n := R * C - 0) (R : Int) (C : Int) wd l (cleanV wd) (by omega)
  rw [← e]
  refine outer_33 R C wd A cA l.length r c 0 r c wd _ w fun W1 hB h1 h2 => ?_
  exact moved_calls (l.length + 3) 72 #[.pointer (some ⟨w.heap.size + 1, 0, none⟩), .pointer (some ⟨w.heap.size + 1 + 1, 0, none⟩)] R C wd r c wd A cA l _ (cleanV wd) W1 (Kd.C_below hC hB) hcA (by rw [check_eq _ _ _ _ _ (by omega) (by omega), hck]) (fun W' hW' => ⟨fun args => enters_ Try.func72 (by kernel_rfl) (by kernel_rfl) args W', clos_72 R C wd r c 0 r c wd _ _ _ W' (blk_below h1 hW') (blk_below h2 hW') fun W2 hW2 => Forming_good R C wd r c (R * C) W2 c5 rfl h6 h7 (by omega) (by omega)⟩) (by rw [rowP_length]; omega) (row_in c6 (by omega)) (fun x => clean_at (l.length + 2) x hw)
theorem cols_ok {R C : Nat} {wd : Int} {l : List Int} (hck : checkV R C wd l = 0) (A : Option Addr) (cA : Nat) (w : World) (hC : (Kd.int .i64).C w A l.length l) (hcA : l.length ≤ cA) (a b : Nat) (h1 : a < b) (h2 : b ≤ C) :
    Calls Try.prog 34 #[.agg #[.int .i64 R, .int .i64 C, .int .i64 wd, .slice A l.length cA], .int .i64 a, .int .i64 b] w (AnsP w 0 R ((b - a : Nat) : Int) wd (tab2 R (b - a) (fun i j => cleanV wd (l.getD (i * C + (a + j)) 0)))) := by
  obtain ⟨hw, c1, c2, c3, c4, c5, c6⟩ := nat_form hck
  have hl6 : l.length ≤ 1000000 := by omega
  have e := grid_map (fun a b => a * C + b) 0 a (b - a) (R - 0) (R : Int) (C : Int) wd l (cleanV wd)
  simp only [Nat.zero_add] at e
  rw [Nat.sub_zero] at e
  rw [← e]
  refine outer_34 R C wd A cA l.length a b 0 R ((b - a : Nat) : Int) wd _ w fun W1 hB h1 h2 => ?_
  exact moved_calls (l.length + 3) 74 #[.pointer (some ⟨w.heap.size + 1, 0, none⟩), .pointer (some ⟨w.heap.size + 1 + 1, 0, none⟩)] R C wd R ((b - a : Nat) : Int) wd A cA l _ (cleanV wd) W1 (Kd.C_below hC hB) hcA (by rw [check_eq _ _ _ _ _ (by omega) (by omega), hck]) (fun W' hW' => ⟨fun args => enters_ Try.func74 (by kernel_rfl) (by kernel_rfl) args W', clos_74 R C wd a b 0 R ((b - a : Nat) : Int) wd _ _ _ W' (blk_below h1 hW') (blk_below h2 hW') fun W2 hW2 => Cutting_good R C wd 0 R a b W2 c3 c4 (by omega) (Nat.le_refl _) (by omega) (by omega)⟩) (by rw [gridP_length]; exact Nat.le_trans (Nat.mul_le_mul (Nat.le_refl _) (show b - a ≤ C by omega)) (by omega)) (grid_in c6 (fun p q _ hp _ hq => cut_lt (by omega) (by omega))) (fun x => clean_at (l.length + 2) x hw)
theorem rows_ok {R C : Nat} {wd : Int} {l : List Int} (hck : checkV R C wd l = 0) (A : Option Addr) (cA : Nat) (w : World) (hC : (Kd.int .i64).C w A l.length l) (hcA : l.length ≤ cA) (a b : Nat) (h1 : a < b) (h2 : b ≤ R) :
    Calls Try.prog 35 #[.agg #[.int .i64 R, .int .i64 C, .int .i64 wd, .slice A l.length cA], .int .i64 a, .int .i64 b] w (AnsP w 0 ((b - a : Nat) : Int) C wd (tab2 (b - a) C (fun i j => cleanV wd (l.getD ((a + i) * C + j) 0)))) := by
  obtain ⟨hw, c1, c2, c3, c4, c5, c6⟩ := nat_form hck
  have hl6 : l.length ≤ 1000000 := by omega
  have e := grid_map (fun a b => a * C + b) a 0 (C - 0) (b - a) (R : Int) (C : Int) wd l (cleanV wd)
  simp only [Nat.zero_add] at e
  rw [Nat.sub_zero] at e
  rw [← e]
  refine outer_35 R C wd A cA l.length a b 0 ((b - a : Nat) : Int) C wd _ w fun W1 hB h1 h2 => ?_
  exact moved_calls (l.length + 3) 76 #[.pointer (some ⟨w.heap.size + 1, 0, none⟩), .pointer (some ⟨w.heap.size + 1 + 1, 0, none⟩)] R C wd ((b - a : Nat) : Int) C wd A cA l _ (cleanV wd) W1 (Kd.C_below hC hB) hcA (by rw [check_eq _ _ _ _ _ (by omega) (by omega), hck]) (fun W' hW' => ⟨fun args => enters_ Try.func76 (by kernel_rfl) (by kernel_rfl) args W', clos_76 R C wd a b 0 ((b - a : Nat) : Int) C wd _ _ _ W' (blk_below h1 hW') (blk_below h2 hW') fun W2 hW2 => Cutting_good R C wd a b 0 C W2 c3 c4 (by omega) (by omega) (by omega) (Nat.le_refl _)⟩) (by rw [gridP_length]; exact Nat.le_trans (Nat.mul_le_mul (show b - a ≤ R by omega) (Nat.le_refl _)) (by omega)) (grid_in c6 (fun p q _ hp _ hq => cut_lt (by omega) (by omega))) (fun x => clean_at (l.length + 2) x hw)
end Bk
end Go.Proofs.Ytklomikdihlcgaa
