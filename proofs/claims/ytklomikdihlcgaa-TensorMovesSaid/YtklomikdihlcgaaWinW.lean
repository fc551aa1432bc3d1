/- Windowing, on both sides. -/
import Derived.Test.YtklomikdihlcgaaFormW
import Derived.Test.YtklomikdihlcgaaSizedP
namespace Go.Proofs.Ytklomikdihlcgaa
open Go.RowKit PBase
open Go.Proofs.YtklomikdihlcgaaW.PrintWords Go.Proofs.YtklomikdihlcgaaW.PrintLast Go.Proofs.YtklomikdihlcgaaW.PrintMore
set_option linter.unusedVariables false
set_option linter.unusedSimpArgs false

/-- what stands against windows -/
def winE (R C wd size step : Int) : Int := if R ≠ 1 then 4 else if size < 1 ∨ step < 1 then 1 else if size > C then 4 else sizedV ((C - size) / step + 1) size wd

theorem sized_form2 {rows cols wd : Int} (h : sizedV rows cols wd = 0) : rows ≤ 4096 ∧ cols ≤ 4096 ∧ rows * cols ≤ 4096 ∧ 1 ≤ rows ∧ 1 ≤ cols := by
  unfold sizedV at h
  split at h
  · omega
  · split at h
    · omega
    · split at h
      · omega
      · omega

theorem win_place {C n st p q m : Nat} (hC : C ≤ 4096) (hn : n ≤ C) (hm : m = (C - n) / st + 1) (hp : p < m) (hq : q < n) : wrap64 (wrap64 ((p : Int) * (st : Int)) + (q : Int)) = ((p * st + q : Nat) : Int) ∧ p * st + q < C := by
  have h1 : p * st ≤ (C - n) / st * st := Nat.mul_le_mul_right _ (by omega)
  have h2 : (C - n) / st * st ≤ C - n := Nat.div_mul_le_self _ _
  have h3 : ((p : Int) * (st : Int)) = ((p * st : Nat) : Int) := by rw [Int.natCast_mul]
  generalize p * st = z at *
  rw [h3, IntWalk.wrap64_in (z : Int) (by omega), IntWalk.wrap64_in ((z : Int) + (q : Int)) (by omega)]
  exact ⟨by omega, by omega⟩

theorem win_nums {C n st : Nat} (hC : C ≤ 4096) (hn : n ≤ C) (hst : 1 ≤ st) : ∃ d e : Nat, wrap64 ((C : Int) - (n : Int)) = (d : Int) ∧ Int.tdiv (d : Int) (st : Int) = (e : Int) ∧ wrap64 (e : Int) = (e : Int) ∧ wrap64 ((e : Int) + 1) = (((C - n) / st + 1 : Nat) : Int) ∧ (st = 0) = False ∧ ((st : Int) == 0) = false ∧ IntKind.i64.wrap (e : Int) = (e : Int) := by
  have h4 : (C - n) / st ≤ C - n := Nat.div_le_self _ _
  refine ⟨C - n, (C - n) / st, ?_, ?_, ?_, ?_, eq_false (by omega), by simp; omega, ?_⟩
  · rw [IntWalk.wrap64_in ((C : Int) - (n : Int)) (by omega)]; omega
  · rw [Int.tdiv_eq_ediv_of_nonneg (by omega)]; rfl
  · generalize (C - n) / st = z at *
    exact IntWalk.wrap64_in (z : Int) (by omega)
  · generalize (C - n) / st = z at *
    rw [IntWalk.wrap64_in ((z : Int) + 1) (by omega)]; rfl
  · generalize (C - n) / st = z at *
    rw [IntKind.wrap_i64]; omega

set_option maxHeartbeats 2000000 in
set_option maxRecDepth 100000 in
theorem refWin_good (R C : Nat) (wd : Int) (n st m : Nat) (w : World) (hR : R = 1) (hC : C ≤ 4096) (hn1 : 1 ≤ n) (hst : 1 ≤ st) (hn : n ≤ C) (hm : m = (C - n) / st + 1) (hsz : sizedV m n wd = 0) (hm4 : m ≤ 4096) (hn4 : n ≤ 4096) :
    Calls Try.prog 41 #[.agg #[.int .i64 R, .int .i64 C, .int .i64 wd], .int .i64 n, .int .i64 st] w fun e w' => ∃ v, e = .returned (.tuple #[.agg #[.int .i64 m, .int .i64 n, .int .i64 wd, v], .int .i64 0]) ∧ Places w w' v (gridP (fun a b => a * st + b) 0 0 (n - 0) (m - 0)) ∧ Below w.heap.size w w' := by
  go_enter Try.func41, Try.ntmps41
  have HF := Aside0.mk (And.intro hC (And.intro hn (And.intro hst (And.intro hm (And.intro hsz (And.intro hm4 hn4))))))
  obtain ⟨d, e, q1, q2, q3, q4, q5, q6, q7⟩ := win_nums hC hn hst
  rw [← hm] at q4
  have d0 : ((R : Int) != 1) = false := by subst hR; rfl
  have d1 : decide ((n : Int) < 1) = false := decide_eq_false (by omega)
  have d2 : decide ((st : Int) < 1) = false := decide_eq_false (by omega)
  have d3 : decide (C < n) = false := decide_eq_false (by omega)
  clear hC hn hst hm hsz hm4 hn4 hn1 hR
  go_wp2_with fail
  generalize hw1 : ((w.alloc (Obj.cells #[Value.int IntKind.i64 R, Value.int IntKind.i64 C, Value.int IntKind.i64 wd] 34)).alloc (Obj.cells #[Value.int IntKind.i64 0, Value.int IntKind.i64 0, Value.int IntKind.i64 0, Value.slice none 0 0] 60)) = w1
  have H0_1 : Aside0 (IsB w1 w.heap.size (row3 R C wd) 34) := ⟨by rw [← hw1]; exact blk_alloc (blk_new _ _) _⟩
  have H1_1 : Aside0 (IsB w1 (w.heap.size + 1) (row4 0 0 0 (.slice none 0 0)) 60) := ⟨by rw [← hw1]; exact new1 w _ _ 34 60⟩
  have HB_1 : Aside0 (Below w.heap.size w w1) := ⟨by rw [← hw1]; exact below_alloc (below_alloc (Below.refl _ _) _) _⟩
  clear hw1
  refine (pupilref7_Sized.calls 8 m n wd 0 w1 (by rw [refSized_eq 7, HF.out.2.2.2.2.1])).mono ?_
  rintro e_ w2 ⟨rfl, hb⟩
  replace hb := hb.below
  have H0_2 := Aside0.mk (blk_below H0_1.out hb)
  have H1_2 := Aside0.mk (blk_below H1_1.out hb)
  have HB_2 := Aside0.mk (below_step HB_1.out hb)
  clear hb H0_1 H1_1 HB_1
  have a0 := blk_cell H0_2.out 0
  have a1 := blk_cell H0_2.out 1
  have a2 := blk_cell H0_2.out 2
  simp only [List.getElem?_toArray, List.getElem?_cons_zero, List.getElem?_cons_succ] at a0 a1 a2
  go_wp2
  try simp only [q1, q2, q3, q4, q7]
  have H0 := Aside0.mk (blk_alloc H0_2.out (Obj.cells (row4 m n wd (.slice none 0 0)) 60))
  have H1 := Aside0.mk (blk_alloc H1_2.out (Obj.cells (row4 m n wd (.slice none 0 0)) 60))
  have H2 := Aside0.mk (blk_new w2 (Obj.cells (row4 m n wd (.slice none 0 0)) 60))
  have HB := Aside0.mk (below_alloc HB_2.out (Obj.cells (row4 m n wd (.slice none 0 0)) 60))
  have HG := Aside0.mk (show w.heap.size + 1 < w2.heap.size from blk_lt H1_2.out)
  generalize w2.alloc (Obj.cells (row4 m n wd (.slice none 0 0)) 60) = w3 at H0 H1 H2 HB ⊢
  generalize w2.heap.size = g at H2 HG ⊢
  clear a0 a1 a2 H0_2 H1_2 HB_2 d0 d1 d2 d3 q1 q2 q3 q4 q5 q6 q7
  go_loopg [11] m (fun kq vo w' => ∃ p : Nat, vo = .int .i64 p ∧ Aside0 (0 ≤ p ∧ p + kq = m) ∧ Aside0 (IsB w' w.heap.size (row3 R C wd) 34) ∧ Aside0 (IsB w' (w.heap.size + 1) (row4 0 0 0 (.slice none 0 0)) 60) ∧ (∃ v, Aside0 (IsB w' (g) (row4 m n wd v) 60) ∧ Aside0 (Places w w' v (gridP (fun a b => a * st + b) 0 0 (n - 0) (p - 0)))) ∧ Aside0 (Below w.heap.size w w'))
  case atStart => exact ⟨0, rfl, ⟨by omega⟩, H0, H1, ⟨_, H2, ⟨by rw [gridP_zero]; exact Kd.R_nil _ _ _ _ _⟩⟩, HB⟩
  case round =>
    clear H0 H1 H2 HB
    obtain ⟨p, rfl, HJ, H0, H1, ⟨v, H2, HP⟩, HB⟩ := hrel
    have a0 := blk_cell H0.out 0
    have a1 := blk_cell H0.out 1
    have a2 := blk_cell H0.out 2
    simp only [List.getElem?_toArray, List.getElem?_cons_zero, List.getElem?_cons_succ] at a0 a1 a2
    have m0 := blk_cell H2.out 0
    have m1 := blk_cell H2.out 1
    have m2 := blk_cell H2.out 2
    have m3 := blk_cell H2.out 3
    simp only [List.getElem?_toArray, List.getElem?_cons_zero, List.getElem?_cons_succ] at m0 m1 m2 m3
    have n0 := blk_cell H1.out 0
    have n1 := blk_cell H1.out 1
    have n2 := blk_cell H1.out 2
    have n3 := blk_cell H1.out 3
    simp only [List.getElem?_toArray, List.getElem?_cons_zero, List.getElem?_cons_succ] at n0 n1 n2 n3
    have rf0 := blk_frozen H1.out 0
    have rf1 := blk_frozen H1.out 1
    have rf2 := blk_frozen H1.out 2
    have rf3 := blk_frozen H1.out 3
    by_cases hlt : p < m
    · have d1 : decide (p < m) = true := decide_eq_true hlt
      have HLT := Aside0.mk hlt
      clear hlt
      go_wp2
      clear a0 a1 a2 m0 m1 m2 m3 n0 n1 n2 n3 rf0 rf1 rf2 rf3
      have HP0 : Aside0 (Places w wr v (gridP (fun a b => a * st + b) 0 0 (n - 0) (p - 0) ++ rowP (fun a b => a * st + b) p 0 (0 - 0))) := ⟨by rw [rowP_zero]; rw [List.append_nil]; exact HP.out⟩
      clear HP d1
      obtain ⟨gk0, hgk0⟩ : ∃ x : Nat, x = gk := ⟨_, rfl⟩
      have HG0 := Aside0.mk hgk0
      clear hgk0
      go_loopg [12] n (fun kq vi w' => ∃ q : Nat, vi = .int .i64 q ∧ Aside0 (0 ≤ q ∧ q + kq = n) ∧ Aside0 (IsB w' w.heap.size (row3 R C wd) 34) ∧ Aside0 (IsB w' (w.heap.size + 1) (row4 0 0 0 (.slice none 0 0)) 60) ∧ (∃ v, Aside0 (IsB w' (g) (row4 m n wd v) 60) ∧ Aside0 (Places w w' v (gridP (fun a b => a * st + b) 0 0 (n - 0) (p - 0) ++ rowP (fun a b => a * st + b) p 0 (q - 0)))) ∧ Aside0 (Below w.heap.size w w'))
      case atStart => exact ⟨0, rfl, ⟨by omega⟩, H0, H1, ⟨_, H2, HP0⟩, HB⟩
      case round =>
        clear H0 H1 H2 HB HP0
        obtain ⟨q, rfl, HI, H0, H1, ⟨v, H2, HP⟩, HB⟩ := hrel
        have a1 := blk_cell H0.out 1
        have a0 := blk_cell H0.out 0
        have m3 := blk_cell H2.out 3
        simp only [List.getElem?_toArray, List.getElem?_cons_zero, List.getElem?_cons_succ] at a0 a1 m3
        have rf3 := blk_frozen H2.out 3
        by_cases hlt : q < n
        · have d1 : decide (q < n) = true := decide_eq_true hlt
          have HI2 : Aside0 (q < n) := ⟨hlt⟩
          clear hlt
          have HL : Aside0 (((gridP (fun a b => a * st + b) 0 0 (n - 0) (p - 0) ++ rowP (fun a b => a * st + b) p 0 (q - 0)).length + 1) * 16 ≤ 140737488355328) := ⟨len_ok _ HF.out.2.2.2.2.2.1 HF.out.2.2.2.2.2.2 HJ.out.1 HLT.out HI.out.1 HI2.out⟩
          have HX : Aside0 (wrap64 (wrap64 ((p : Int) * (st : Int)) + (q : Int)) = (((fun a b => a * st + b) p q : Nat) : Int)) := ⟨(win_place HF.out.1 HF.out.2.1 HF.out.2.2.2.1 HLT.out HI2.out).1⟩
          go_wp2_with ((with_reducible refine gate_builtin (b := .append) (xs := #[.tmp 62, .tmp 69]) rfl ?_); at_builtin; refine Kd.R_append two (w0 := w) w.heap.size rfl (.tmp 62) (.tmp 69) 58 99 (.agg #[.int .i64 0, .int .i64 0]) 16 rfl Try.underlying58 info99 rfl (by decide) (by omega) v (gridP (fun a b => a * st + b) 0 0 (n - 0) (p - 0) ++ rowP (fun a b => a * st + b) p 0 (q - 0)) (0, wrap64 (wrap64 ((p : Int) * (st : Int)) + (q : Int))) [.int .i64 0, .int .i64 (wrap64 (wrap64 ((p : Int) * (st : Int)) + (q : Int)))] (fun _ => True) (fun _ => False) rfl rfl ?aP (fun _ hk => hk.elim) ?aF ?aO ?aB ?aS ?aL ?_; (case aP => exact ⟨[_], [_], rfl, rfl, rfl⟩); (case aB => exact HB.out); (case aF => exact (fun _ _ => trivial)); (case aO => exact HP.out); (case aS => exact below_size HB.out); (case aL => exact HL.out); intro v9 w7 ho hb hg hat; have HP2 : Aside0 (Places w w7 v9 (gridP (fun a b => a * st + b) 0 0 (n - 0) (p - 0) ++ rowP (fun a b => a * st + b) p 0 (q + 1 - 0))) := ⟨by rw [rowP_succ _ _ _ _ HI.out.1, ← List.append_assoc]; exact Places.snoc ho HX.out⟩; have hne := Kd.R_ne HP.out H0.out (by decide); have HH0 := Aside0.mk (blk_grown H0.out hg (Kd.R_ne HP.out H0.out (by decide))); have HH1 := Aside0.mk (blk_grown H1.out hg (Kd.R_ne HP.out H1.out (by decide))); have HH2 := Aside0.mk (blk_grown H2.out hg (Kd.R_ne HP.out H2.out (by decide))); have HB2 := Aside0.mk hb; clear ho hb hg hat HP H0 H1 H2 HB hne a0 a1 m3 rf3 HL HX; have m3 := blk_cell HH2.out 3; simp at m3; have rf3 := blk_frozen HH2.out 3; obtain ⟨A9, c9, hv9⟩ := Kd.R_slice HP2.out; generalize (gridP (fun a b => a * st + b) 0 0 (n - 0) (p - 0) ++ rowP (fun a b => a * st + b) p 0 (q + 1 - 0)).length = ln at hv9; subst hv9)
          go_roundg (gk - 1)
          case measure => have := HI.out; have := HI2.out; omega
          case rel => exact ⟨q + 1, next_i (by have := HI2.out; have := HF.out.2.2.2.2.2.2; omega), ⟨by have := HI.out; have := HI2.out; omega⟩, ⟨blk_far HH0.out (by have := HG.out; show w.heap.size ≠ g; omega) _⟩, ⟨blk_far HH1.out (by have := HG.out; show w.heap.size + 1 ≠ g; omega) _⟩, ⟨_, ⟨blk_set HH2.out 3 _⟩, ⟨Kd.R_set HP2.out HH2.out (two_E 60 (by decide)) 3 _⟩⟩, ⟨below_set HB2.out (by have := HG.out; omega)⟩⟩
        · have d1 : decide (q < n) = false := decide_eq_false hlt
          have hi : q = n := by have := HI.out; omega
          clear HI
          subst hi
          go_wp2
          go_roundg (gk0 - 1)
          case measure => have := HJ.out; have := HLT.out; have := HG0.out; omega
          case rel => exact ⟨p + 1, next_i (by have := HLT.out; have := HF.out.2.2.2.2.2.1; omega), ⟨by have := HJ.out; have := HLT.out; have := HG0.out; omega⟩, H0, H1, ⟨_, H2, ⟨by rw [gridP_succ _ _ _ _ _ HJ.out.1]; exact HP.out⟩⟩, HB⟩
    · have d1 : decide (p < m) = false := decide_eq_false hlt
      have hj : p = m := by have := HJ.out; omega
      clear HJ
      subst hj
      clear m0 m1 m2 m3
      obtain ⟨A, cp, hv⟩ := Kd.R_slice HP.out
      generalize (gridP (fun a b => a * st + b) 0 0 (n - 0) (p - 0)).length = ln at hv
      subst hv
      have m0 := blk_cell H2.out 0
      have m1 := blk_cell H2.out 1
      have m2 := blk_cell H2.out 2
      have m3 := blk_cell H2.out 3
      simp only [List.getElem?_toArray, List.getElem?_cons_zero, List.getElem?_cons_succ] at m0 m1 m2 m3
      go_wp2
      have HE := isB_set4 H1.out (.int .i64 p) (.int .i64 n) (.int .i64 wd) (.slice A ln cp)
      have e0 := blk_cell HE 0
      have e1 := blk_cell HE 1
      have e2 := blk_cell HE 2
      have e3 := blk_cell HE 3
      simp only [List.getElem?_toArray, List.getElem?_cons_zero, List.getElem?_cons_succ] at e0 e1 e2 e3
      refine bodyPost_ret (v := .tuple #[.agg #[.int .i64 p, .int .i64 n, .int .i64 wd, .slice A ln cp], .int .i64 0]) (by simp [results, Try.results41, go_sem, e0, e1, e2, e3]) rfl ?_
      exact ⟨_, rfl, R_set4 HP.out H1.out (two_E 60 (by decide)) _ _ _ _, below_set4 HB.out (by omega) _ _ _ _⟩

def F78RT7 : Bool × List (List Nat × List Nat) := (true, [([], []), ([0], [0]), ([], []), ([1, 2], [1, 2]), ([], []), ([3, 4], [3, 4]), ([5], [5]), ([], []), ([], []), ([8], [8]), ([6, 7, 9], [6, 7, 9]), ([10], [10]), ([], []), ([12, 11, 0, 1, 2, 3, 4, 5, 6, 7, 8, 9, 10, 11, 12], [11, 12])])
def F78RB7 : List Nat := [0, 1, 0, 7, 0, 31, 63, 0, 0, 256, 1023, 2047, 0, 8191]
theorem F78Rtab7 : rtab .any (opsOf Try.f78 7) = F78RT7 := by kernel_rfl
theorem F78Rbits7 : waitsOk F78RT7.2 F78RB7 = true := by kernel_rfl
set_option maxHeartbeats 2000000 in
set_option maxRecDepth 100000 in
theorem Windowing_good (R C : Nat) (wd : Int) (n st m : Nat) (w : World) (hR : R = 1) (hC : C ≤ 4096) (hn1 : 1 ≤ n) (hst : 1 ≤ st) (hn : n ≤ C) (hm : m = (C - n) / st + 1) (hsz : sizedV m n wd = 0) (hm4 : m ≤ 4096) (hn4 : n ≤ 4096) :
    Calls Try.prog 78 #[.agg #[.int .i64 R, .int .i64 C, .int .i64 wd], .int .i64 n, .int .i64 st] w fun e w' => ∃ v, e = .returned (.tuple #[.agg #[.int .i64 m, .int .i64 n, .int .i64 wd, v], .int .i64 0]) ∧ Places w w' v (gridP (fun a b => a * st + b) 0 0 (n - 0) (m - 0)) ∧ Below w.heap.size w w' := by
  go_enter Try.func78, Try.ntmps78
  have HF := Aside0.mk (And.intro hC (And.intro hn (And.intro hst (And.intro hm (And.intro hsz (And.intro hm4 hn4))))))
  obtain ⟨d, e, q1, q2, q3, q4, q5, q6, q7⟩ := win_nums hC hn hst
  rw [← hm] at q4
  have d0 : ((R : Int) != 1) = false := by subst hR; rfl
  have d1 : decide ((n : Int) < 1) = false := decide_eq_false (by omega)
  have d2 : decide ((st : Int) < 1) = false := decide_eq_false (by omega)
  have d3 : decide (C < n) = false := decide_eq_false (by omega)
  clear hC hn hst hm hsz hm4 hn4 hn1 hR
  go_wp2
  generalize hw1 : ((w.alloc (Obj.cells #[Value.int IntKind.i64 R, Value.int IntKind.i64 C, Value.int IntKind.i64 wd] 34)).alloc (Obj.cells #[Value.int IntKind.i64 0, Value.int IntKind.i64 0, Value.int IntKind.i64 0, Value.slice none 0 0] 93)) = w1
  have H0_1 : Aside0 (IsB w1 w.heap.size (row3 R C wd) 34) := ⟨by rw [← hw1]; exact blk_alloc (blk_new _ _) _⟩
  have H1_1 : Aside0 (IsB w1 (w.heap.size + 1) (row4 0 0 0 (.slice none 0 0)) 93) := ⟨by rw [← hw1]; exact new1 w _ _ 34 93⟩
  have HB_1 : Aside0 (Below w.heap.size w w1) := ⟨by rw [← hw1]; exact below_alloc (below_alloc (Below.refl _ _) _) _⟩
  clear hw1
  have a0 := blk_cell H0_1.out 0
  have a1 := blk_cell H0_1.out 1
  have a2 := blk_cell H0_1.out 2
  simp only [List.getElem?_toArray, List.getElem?_cons_zero, List.getElem?_cons_succ] at a0 a1 a2
  refine start_ (n := 14) (S := fun w' => w'.cell? ⟨w.heap.size, 1, none⟩ = some (.int .i64 C) ∧ w'.cell? ⟨w.heap.size, 2, none⟩ = some (.int .i64 wd)) (ds := [13]) #[false, false, false, false, false, false, false, false, false, false, false, false, false, false] (by kernel_rfl) rfl rfl ⟨a1, a2⟩ (fun hHeld => ?_)
  refine with_tabW F78Rtab7 F78Rbits7 (fun HT_ HW_ => ?_)
  refine pure_ (i := 0) (N := some 31) (v := ?_) (a' := ?_) #[true, false, false, false, false, false, false, false, false, false, false, false, false, false] rfl rfl (any_of HT_.out (by kernel_rfl)) (fun _ _ _ h => h) (Or.inl ⟨by rfl, ?_⟩) ?_ ?_
  rotate_left
  · intro w'
    go_simp
    with_reducible rfl
  rotate_left
  · simp only [Act.put, List.setIfInBounds_toArray, List.set_cons_zero, List.set_cons_succ, i64_w, i32_w]
    rfl
  refine pure_ (i := 2) (N := some 33) (v := ?_) (a' := ?_) #[true, false, true, false, false, false, false, false, false, false, false, false, false, false] rfl rfl (any_of HT_.out (by kernel_rfl)) (fun _ _ _ h => h) (Or.inl ⟨by rfl, ?_⟩) ?_ ?_
  rotate_left
  · intro w'
    go_simp
    with_reducible rfl
  rotate_left
  · simp only [Act.put, List.setIfInBounds_toArray, List.set_cons_zero, List.set_cons_succ, i64_w, i32_w]
    rfl
  refine pure_ (i := 4) (N := some 35) (v := ?_) (a' := ?_) #[true, false, true, false, true, false, false, false, false, false, false, false, false, false] rfl rfl (any_of HT_.out (by kernel_rfl)) (fun _ _ _ h => h) (Or.inl ⟨by rfl, ?_⟩) ?_ ?_
  rotate_left
  · intro w'
    go_simp
    with_reducible rfl
  rotate_left
  · simp only [Act.put, List.setIfInBounds_toArray, List.set_cons_zero, List.set_cons_succ, i64_w, i32_w]
    rfl
  refine pure_ (i := 7) (N := some 38) (v := ?_) (a' := ?_) #[true, false, true, false, true, false, false, true, false, false, false, false, false, false] rfl rfl (any_of HT_.out (by kernel_rfl)) (fun _ _ _ h => h) (Or.inl ⟨by rfl, ?_⟩) ?_ ?_
  rotate_left
  · intro w'
    go_simp
    with_reducible rfl
  rotate_left
  · simp only [Act.put, List.setIfInBounds_toArray, List.set_cons_zero, List.set_cons_succ, i64_w, i32_w]
    rfl
  refine pure_ (i := 8) (N := some 39) (v := ?_) (a' := ?_) #[true, false, true, false, true, false, false, true, true, false, false, false, false, false] rfl rfl (any_of HT_.out (by kernel_rfl)) (fun _ _ _ h => h) (Or.inl ⟨by rfl, ?_⟩) ?_ ?_
  rotate_left
  · intro w'
    go_simp
    with_reducible rfl
  rotate_left
  · simp only [Act.put, List.setIfInBounds_toArray, List.set_cons_zero, List.set_cons_succ, i64_w, i32_w]
    rfl
  refine take_ (i := 1) (N := some 32) (v := ?_) (a' := ?_) #[true, true, true, false, true, false, false, true, true, false, false, false, false, false] rfl rfl (take_ofW HT_.out HW_.out (by kernel_rfl)) (fun _ _ _ h => h) (Or.inl ⟨by rfl, ?_⟩) hHeld ?_ ?_
  rotate_left
  · rintro w' ⟨s0, s1⟩
    go_simp
    with_reducible rfl
  rotate_left
  · simp only [Act.put, List.setIfInBounds_toArray, List.set_cons_zero, List.set_cons_succ, i64_w, i32_w]
    rfl
  refine pure_ (i := 3) (N := some 34) (v := ?_) (a' := ?_) #[true, true, true, true, true, false, false, true, true, false, false, false, false, false] rfl rfl (any_of HT_.out (by kernel_rfl)) (fun _ _ _ h => h) (Or.inl ⟨by rfl, ?_⟩) ?_ ?_
  rotate_left
  · intro w'
    go_simp
    with_reducible rfl
  rotate_left
  · simp only [Act.put, List.setIfInBounds_toArray, List.set_cons_zero, List.set_cons_succ, i64_w, i32_w]
    rfl
  refine pure_ (i := 5) (N := some 36) (v := ?_) (a' := ?_) #[true, true, true, true, true, true, false, true, true, false, false, false, false, false] rfl rfl (any_of HT_.out (by kernel_rfl)) (fun _ _ _ h => h) (Or.inl ⟨by rfl, ?_⟩) ?_ ?_
  rotate_left
  · intro w'
    go_simp
    with_reducible rfl
  rotate_left
  · simp only [Act.put, List.setIfInBounds_toArray, List.set_cons_zero, List.set_cons_succ, i64_w, i32_w]
    rfl
  refine pure_ (i := 6) (N := some 37) (v := ?_) (a' := ?_) #[true, true, true, true, true, true, true, true, true, false, false, false, false, false] rfl rfl (any_of HT_.out (by kernel_rfl)) (fun _ _ _ h => h) (Or.inl ⟨by rfl, ?_⟩) ?_ ?_
  rotate_left
  · intro w'
    go_simp
    with_reducible rfl
  rotate_left
  · simp only [Act.put, List.setIfInBounds_toArray, List.set_cons_zero, List.set_cons_succ, i64_w, i32_w]
    rfl
  refine take_ (i := 9) (N := some 40) (v := ?_) (a' := ?_) #[true, true, true, true, true, true, true, true, true, true, false, false, false, false] rfl rfl (take_ofW HT_.out HW_.out (by kernel_rfl)) (fun _ _ _ h => h) (Or.inl ⟨by rfl, ?_⟩) hHeld ?_ ?_
  rotate_left
  · rintro w' ⟨s0, s1⟩
    go_simp
    with_reducible rfl
  rotate_left
  · simp only [Act.put, List.setIfInBounds_toArray, List.set_cons_zero, List.set_cons_succ, i64_w, i32_w]
    rfl
  refine pure_ (i := 10) (N := some 41) (v := ?_) (a' := ?_) #[true, true, true, true, true, true, true, true, true, true, true, false, false, false] rfl rfl (any_of HT_.out (by kernel_rfl)) (fun _ _ _ h => h) (Or.inl ⟨by rfl, ?_⟩) ?_ ?_
  rotate_left
  · intro w'
    go_simp
    with_reducible rfl
  rotate_left
  · simp only [Act.put, List.setIfInBounds_toArray, List.set_cons_zero, List.set_cons_succ, i64_w, i32_w]
    rfl
  refine pure_ (i := 11) (N := some 42) (v := ?_) (a' := ?_) #[true, true, true, true, true, true, true, true, true, true, true, true, false, false] rfl rfl (any_of HT_.out (by kernel_rfl)) (fun _ _ _ h => h) (Or.inl ⟨by rfl, ?_⟩) ?_ ?_
  rotate_left
  · intro w'
    go_simp
    with_reducible rfl
  rotate_left
  · simp only [Act.put, List.setIfInBounds_toArray, List.set_cons_zero, List.set_cons_succ, i64_w, i32_w]
    rfl
  refine one_ (i := 12) (N := some 8) #[true, true, true, true, true, true, true, true, true, true, true, true, true, false] rfl rfl (one_of HT_.out (by kernel_rfl)) (by decide) (fun K hK => ?_)
  refine value_ (w1 := ?_) (v := ?_) (by rfl) rfl ?_ ?_
  rotate_left 2
  · go_simp
    constructor
    · rfl
    · rfl
  refine hK.out _ _ ⟨(blk_cell (blk_alloc (blk_drew H0_1.out) _) 1).trans rfl, (blk_cell (blk_alloc (blk_drew H0_1.out) _) 2).trans rfl⟩ (fun hHeld => ?_)
  clear hK K
  refine norm_ (a' := ?_) ?_ ?_
  rotate_left
  · show Act.put _ (some 8) _ = _
    simp only [Act.put, List.setIfInBounds_toArray, List.set_cons_zero, List.set_cons_succ, i64_w, i32_w]
    rfl
  refine last_ (i := 13) (N := none) #[true, true, true, true, true, true, true, true, true, true, true, true, true, true] rfl rfl (one_of HT_.out (by kernel_rfl)) (by decide) (fun K hK => ?_)
  refine skip_ (w1 := ?_) (by rfl) rfl ?_ ?_
  rotate_left
  · go_simp
    rfl
  refine hK.out _ _ ?_
  clear hK K
  refine done_ (done_of HT_.out (by kernel_rfl)) ?_
  have H0_2 : Aside0 (IsB (w1.alloc (Obj.cells (row4 m n wd (.slice none 0 0)) 93)).drew w.heap.size (row3 R C wd) 34) := ⟨blk_drew (blk_alloc H0_1.out (Obj.cells (row4 m n wd (.slice none 0 0)) 93))⟩
  have H1_2 : Aside0 (IsB (w1.alloc (Obj.cells (row4 m n wd (.slice none 0 0)) 93)).drew (w.heap.size + 1) (row4 0 0 0 (.slice none 0 0)) 93) := ⟨blk_drew (blk_alloc H1_1.out (Obj.cells (row4 m n wd (.slice none 0 0)) 93))⟩
  have H2_2 : Aside0 (IsB (w1.alloc (Obj.cells (row4 m n wd (.slice none 0 0)) 93)).drew w1.heap.size (row4 m n wd (.slice none 0 0)) 93) := ⟨blk_drew (blk_new w1 (Obj.cells (row4 m n wd (.slice none 0 0)) 93))⟩
  have HB_2 : Aside0 (Below w.heap.size w (w1.alloc (Obj.cells (row4 m n wd (.slice none 0 0)) 93)).drew) := ⟨Below.drew (below_alloc HB_1.out (Obj.cells (row4 m n wd (.slice none 0 0)) 93))⟩
  have HG := Aside0.mk (show w.heap.size + 1 < w1.heap.size from blk_lt H1_1.out)
  clear hHeld a0 a1 a2 H0_1 H1_1 HB_1
  generalize (w1.alloc (Obj.cells #[Value.int IntKind.i64 m, Value.int IntKind.i64 n, Value.int IntKind.i64 wd, Value.slice none 0 0] 93)).drew = w3 at H0_2 H1_2 H2_2 HB_2 ⊢
  generalize w1.heap.size = g at H2_2 HG ⊢
  have a0 := blk_cell H0_2.out 0
  have a1 := blk_cell H0_2.out 1
  have a2 := blk_cell H0_2.out 2
  simp only [List.getElem?_toArray, List.getElem?_cons_zero, List.getElem?_cons_succ] at a0 a1 a2
  have m0 := blk_cell H2_2.out 0
  have m1 := blk_cell H2_2.out 1
  have m2 := blk_cell H2_2.out 2
  have m3 := blk_cell H2_2.out 3
  simp only [List.getElem?_toArray, List.getElem?_cons_zero, List.getElem?_cons_succ] at m0 m1 m2 m3
  go_wp2_with fail
  refine (tensor_Sized.calls 8 m n wd 0 w3 (by rw [Sized_eq 6, HF.out.2.2.2.2.1])).mono ?_
  rintro e_ w4 ⟨rfl, hb⟩
  have H0 := Aside0.mk (blk_below H0_2.out hb)
  have H1 := Aside0.mk (blk_below H1_2.out hb)
  have H2 := Aside0.mk (blk_below H2_2.out hb)
  have HB := Aside0.mk (below_step HB_2.out hb)
  clear hb H0_2 H1_2 H2_2 HB_2 a0 a1 a2 m0 m1 m2 m3
  have m0 := blk_cell H2.out 0
  have m1 := blk_cell H2.out 1
  have m2 := blk_cell H2.out 2
  have m3 := blk_cell H2.out 3
  simp only [List.getElem?_toArray, List.getElem?_cons_zero, List.getElem?_cons_succ] at m0 m1 m2 m3
  go_wp2
  try simp only [q1, q2, q3, q4, q7]
  clear m0 m1 m2 m3 d0 d1 d2 d3 q1 q2 q3 q4 q5 q6 q7
  go_loopg [57] m (fun kq vo w' => ∃ p : Nat, vo = .int .i64 p ∧ Aside0 (0 ≤ p ∧ p + kq = m) ∧ Aside0 (IsB w' w.heap.size (row3 R C wd) 34) ∧ Aside0 (IsB w' (w.heap.size + 1) (row4 0 0 0 (.slice none 0 0)) 93) ∧ (∃ v, Aside0 (IsB w' (g) (row4 m n wd v) 93) ∧ Aside0 (Places w w' v (gridP (fun a b => a * st + b) 0 0 (n - 0) (p - 0)))) ∧ Aside0 (Below w.heap.size w w'))
  case atStart => exact ⟨0, rfl, ⟨by omega⟩, H0, H1, ⟨_, H2, ⟨by rw [gridP_zero]; exact Kd.R_nil _ _ _ _ _⟩⟩, HB⟩
  case round =>
    clear H0 H1 H2 HB
    obtain ⟨p, rfl, HJ, H0, H1, ⟨v, H2, HP⟩, HB⟩ := hrel
    have a0 := blk_cell H0.out 0
    have a1 := blk_cell H0.out 1
    have a2 := blk_cell H0.out 2
    simp only [List.getElem?_toArray, List.getElem?_cons_zero, List.getElem?_cons_succ] at a0 a1 a2
    have m0 := blk_cell H2.out 0
    have m1 := blk_cell H2.out 1
    have m2 := blk_cell H2.out 2
    have m3 := blk_cell H2.out 3
    simp only [List.getElem?_toArray, List.getElem?_cons_zero, List.getElem?_cons_succ] at m0 m1 m2 m3
    have n0 := blk_cell H1.out 0
    have n1 := blk_cell H1.out 1
    have n2 := blk_cell H1.out 2
    have n3 := blk_cell H1.out 3
    simp only [List.getElem?_toArray, List.getElem?_cons_zero, List.getElem?_cons_succ] at n0 n1 n2 n3
    have rf0 := blk_frozen H1.out 0
    have rf1 := blk_frozen H1.out 1
    have rf2 := blk_frozen H1.out 2
    have rf3 := blk_frozen H1.out 3
    by_cases hlt : p < m
    · have d1 : decide (p < m) = true := decide_eq_true hlt
      have HLT := Aside0.mk hlt
      clear hlt
      go_wp2
      clear a0 a1 a2 m0 m1 m2 m3 n0 n1 n2 n3 rf0 rf1 rf2 rf3
      have HP0 : Aside0 (Places w wr v (gridP (fun a b => a * st + b) 0 0 (n - 0) (p - 0) ++ rowP (fun a b => a * st + b) p 0 (0 - 0))) := ⟨by rw [rowP_zero]; rw [List.append_nil]; exact HP.out⟩
      clear HP d1
      obtain ⟨gk0, hgk0⟩ : ∃ x : Nat, x = gk := ⟨_, rfl⟩
      have HG0 := Aside0.mk hgk0
      clear hgk0
      go_loopg [61] n (fun kq vi w' => ∃ q : Nat, vi = .int .i64 q ∧ Aside0 (0 ≤ q ∧ q + kq = n) ∧ Aside0 (IsB w' w.heap.size (row3 R C wd) 34) ∧ Aside0 (IsB w' (w.heap.size + 1) (row4 0 0 0 (.slice none 0 0)) 93) ∧ (∃ v, Aside0 (IsB w' (g) (row4 m n wd v) 93) ∧ Aside0 (Places w w' v (gridP (fun a b => a * st + b) 0 0 (n - 0) (p - 0) ++ rowP (fun a b => a * st + b) p 0 (q - 0)))) ∧ Aside0 (Below w.heap.size w w'))
      case atStart => exact ⟨0, rfl, ⟨by omega⟩, H0, H1, ⟨_, H2, HP0⟩, HB⟩
      case round =>
        clear H0 H1 H2 HB HP0
        obtain ⟨q, rfl, HI, H0, H1, ⟨v, H2, HP⟩, HB⟩ := hrel
        have a1 := blk_cell H0.out 1
        have a0 := blk_cell H0.out 0
        have m3 := blk_cell H2.out 3
        simp only [List.getElem?_toArray, List.getElem?_cons_zero, List.getElem?_cons_succ] at a0 a1 m3
        have rf3 := blk_frozen H2.out 3
        by_cases hlt : q < n
        · have d1 : decide (q < n) = true := decide_eq_true hlt
          have HI2 : Aside0 (q < n) := ⟨hlt⟩
          clear hlt
          have HL : Aside0 (((gridP (fun a b => a * st + b) 0 0 (n - 0) (p - 0) ++ rowP (fun a b => a * st + b) p 0 (q - 0)).length + 1) * 16 ≤ 140737488355328) := ⟨len_ok _ HF.out.2.2.2.2.2.1 HF.out.2.2.2.2.2.2 HJ.out.1 HLT.out HI.out.1 HI2.out⟩
          have HX : Aside0 (wrap64 (wrap64 ((p : Int) * (st : Int)) + (q : Int)) = (((fun a b => a * st + b) p q : Nat) : Int)) := ⟨(win_place HF.out.1 HF.out.2.1 HF.out.2.2.2.1 HLT.out HI2.out).1⟩
          go_wp2_with ((with_reducible refine gate_builtin (b := .append) (xs := #[.tmp 65, .tmp 72]) rfl ?_); at_builtin; refine Kd.R_append two (w0 := w) w.heap.size rfl (.tmp 65) (.tmp 72) 58 99 (.agg #[.int .i64 0, .int .i64 0]) 16 rfl Try.underlying58 info99 rfl (by decide) (by omega) v (gridP (fun a b => a * st + b) 0 0 (n - 0) (p - 0) ++ rowP (fun a b => a * st + b) p 0 (q - 0)) (0, wrap64 (wrap64 ((p : Int) * (st : Int)) + (q : Int))) [.int .i64 0, .int .i64 (wrap64 (wrap64 ((p : Int) * (st : Int)) + (q : Int)))] (fun _ => True) (fun _ => False) rfl rfl ?aP (fun _ hk => hk.elim) ?aF ?aO ?aB ?aS ?aL ?_; (case aP => exact ⟨[_], [_], rfl, rfl, rfl⟩); (case aB => exact HB.out); (case aF => exact (fun _ _ => trivial)); (case aO => exact HP.out); (case aS => exact below_size HB.out); (case aL => exact HL.out); intro v9 w7 ho hb hg hat; have HP2 : Aside0 (Places w w7 v9 (gridP (fun a b => a * st + b) 0 0 (n - 0) (p - 0) ++ rowP (fun a b => a * st + b) p 0 (q + 1 - 0))) := ⟨by rw [rowP_succ _ _ _ _ HI.out.1, ← List.append_assoc]; exact Places.snoc ho HX.out⟩; have hne := Kd.R_ne HP.out H0.out (by decide); have HH0 := Aside0.mk (blk_grown H0.out hg (Kd.R_ne HP.out H0.out (by decide))); have HH1 := Aside0.mk (blk_grown H1.out hg (Kd.R_ne HP.out H1.out (by decide))); have HH2 := Aside0.mk (blk_grown H2.out hg (Kd.R_ne HP.out H2.out (by decide))); have HB2 := Aside0.mk hb; clear ho hb hg hat HP H0 H1 H2 HB hne a0 a1 m3 rf3 HL HX; have m3 := blk_cell HH2.out 3; simp at m3; have rf3 := blk_frozen HH2.out 3; obtain ⟨A9, c9, hv9⟩ := Kd.R_slice HP2.out; generalize (gridP (fun a b => a * st + b) 0 0 (n - 0) (p - 0) ++ rowP (fun a b => a * st + b) p 0 (q + 1 - 0)).length = ln at hv9; subst hv9)
          go_roundg (gk - 1)
          case measure => have := HI.out; have := HI2.out; omega
          case rel => exact ⟨q + 1, next_i (by have := HI2.out; have := HF.out.2.2.2.2.2.2; omega), ⟨by have := HI.out; have := HI2.out; omega⟩, ⟨blk_far HH0.out (by have := HG.out; show w.heap.size ≠ g; omega) _⟩, ⟨blk_far HH1.out (by have := HG.out; show w.heap.size + 1 ≠ g; omega) _⟩, ⟨_, ⟨blk_set HH2.out 3 _⟩, ⟨Kd.R_set HP2.out HH2.out (two_E 93 (by decide)) 3 _⟩⟩, ⟨below_set HB2.out (by have := HG.out; omega)⟩⟩
        · have d1 : decide (q < n) = false := decide_eq_false hlt
          have hi : q = n := by have := HI.out; omega
          clear HI
          subst hi
          go_wp2
          go_roundg (gk0 - 1)
          case measure => have := HJ.out; have := HLT.out; have := HG0.out; omega
          case rel => exact ⟨p + 1, next_i (by have := HLT.out; have := HF.out.2.2.2.2.2.1; omega), ⟨by have := HJ.out; have := HLT.out; have := HG0.out; omega⟩, H0, H1, ⟨_, H2, ⟨by rw [gridP_succ _ _ _ _ _ HJ.out.1]; exact HP.out⟩⟩, HB⟩
    · have d1 : decide (p < m) = false := decide_eq_false hlt
      have hj : p = m := by have := HJ.out; omega
      clear HJ
      subst hj
      clear m0 m1 m2 m3
      obtain ⟨A, cp, hv⟩ := Kd.R_slice HP.out
      generalize (gridP (fun a b => a * st + b) 0 0 (n - 0) (p - 0)).length = ln at hv
      subst hv
      have m0 := blk_cell H2.out 0
      have m1 := blk_cell H2.out 1
      have m2 := blk_cell H2.out 2
      have m3 := blk_cell H2.out 3
      simp only [List.getElem?_toArray, List.getElem?_cons_zero, List.getElem?_cons_succ] at m0 m1 m2 m3
      go_wp2
      have HE := isB_set4 H1.out (.int .i64 p) (.int .i64 n) (.int .i64 wd) (.slice A ln cp)
      have e0 := blk_cell HE 0
      have e1 := blk_cell HE 1
      have e2 := blk_cell HE 2
      have e3 := blk_cell HE 3
      simp only [List.getElem?_toArray, List.getElem?_cons_zero, List.getElem?_cons_succ] at e0 e1 e2 e3
      refine bodyPost_ret (v := .tuple #[.agg #[.int .i64 p, .int .i64 n, .int .i64 wd, .slice A ln cp], .int .i64 0]) (by simp [results, Try.results78, go_sem, e0, e1, e2, e3]) rfl ?_
      exact ⟨_, rfl, R_set4 HP.out H1.out (two_E 93 (by decide)) _ _ _ _, below_set4 HB.out (by omega) _ _ _ _⟩

theorem win_err {R C : Nat} {wd size step er : Int} (h : winE R C wd size step = er) (hC : C ≤ 4096) : (R ≠ 1 ∧ er = 4) ∨ (R = 1 ∧ (size < 1 ∨ step < 1) ∧ er = 1) ∨ (R = 1 ∧ 1 ≤ size ∧ 1 ≤ step ∧ size > C ∧ er = 4) ∨
    (R = 1 ∧ ∃ n st m : Nat, size = n ∧ step = st ∧ 1 ≤ n ∧ 1 ≤ st ∧ n ≤ C ∧ m = (C - n) / st + 1 ∧ m ≤ 4096 ∧ sizedV m n wd = er) := by
  unfold winE at h
  by_cases h1 : R = 1
  · rw [if_neg (by omega)] at h
    by_cases h2 : size < 1 ∨ step < 1
    · rw [if_pos h2] at h
      exact Or.inr (Or.inl ⟨h1, h2, h.symm⟩)
    · rw [if_neg h2] at h
      by_cases h3 : size > C
      · rw [if_pos h3] at h
        exact Or.inr (Or.inr (Or.inl ⟨h1, by omega, by omega, h3, h.symm⟩))
      · rw [if_neg h3] at h
        obtain ⟨n, rfl⟩ : ∃ n : Nat, size = n := ⟨size.toNat, by omega⟩
        obtain ⟨st, rfl⟩ : ∃ n : Nat, step = n := ⟨step.toNat, by omega⟩
        have hm : (((C : Int) - (n : Int)) / (st : Int) + 1) = (((C - n) / st + 1 : Nat) : Int) := by
          rw [show ((C : Int) - (n : Int)) = ((C - n : Nat) : Int) by omega]; rfl
        rw [hm] at h
        have hd : (C - n) / st ≤ C - n := Nat.div_le_self _ _
        exact Or.inr (Or.inr (Or.inr ⟨h1, n, st, _, rfl, rfl, by omega, by omega, by omega, rfl, by omega, h⟩))
  · rw [if_pos (by omega)] at h
    exact Or.inl ⟨h1, h.symm⟩

set_option maxHeartbeats 2000000 in
set_option maxRecDepth 100000 in
theorem refWin_bad (R C : Nat) (wd size step er : Int) (w : World) (hC : C ≤ 4096) (hE : winE R C wd size step = er) (hne : er ≠ 0) :
    Calls Try.prog 41 #[.agg #[.int .i64 R, .int .i64 C, .int .i64 wd], .int .i64 size, .int .i64 step] w fun e w' => e = .returned (.tuple #[.agg (row4 0 0 0 (.slice none 0 0)), .int .i64 er]) ∧ Below w.heap.size w w' := by
  rcases win_err hE hC with ⟨hR, rfl⟩ | ⟨hR, h, rfl⟩ | ⟨hR, h1, h2, h3, rfl⟩ | ⟨hR, n, st, m, rfl, rfl, hn1, hst, hn, hm, hm4, hsz⟩
  · have d0 : ((R : Int) != 1) = true := by simp; omega
    clear hR hE
    go_enter Try.func41, Try.ntmps41
    go_wp2
    refine bodyPost_ret (v := .tuple #[.agg (row4 0 0 0 (.slice none 0 0)), .int .i64 4]) (by simp [results, Try.results41, go_sem]) rfl ?_
    exact ⟨rfl, below_alloc (below_alloc (Below.refl _ _) _) _⟩
  · have d0 : ((R : Int) != 1) = false := by subst hR; rfl
    clear hR hE
    go_enter Try.func41, Try.ntmps41
    by_cases g : size < 1
    · skip
      go_wp2
      refine bodyPost_ret (v := .tuple #[.agg (row4 0 0 0 (.slice none 0 0)), .int .i64 1]) (by simp [results, Try.results41, go_sem]) rfl ?_
      exact ⟨rfl, below_alloc (below_alloc (Below.refl _ _) _) _⟩
    · have g2 : step < 1 := by omega
      go_wp2
      refine bodyPost_ret (v := .tuple #[.agg (row4 0 0 0 (.slice none 0 0)), .int .i64 1]) (by simp [results, Try.results41, go_sem]) rfl ?_
      exact ⟨rfl, below_alloc (below_alloc (Below.refl _ _) _) _⟩
  · have d0 : ((R : Int) != 1) = false := by subst hR; rfl
    have g1 : ¬ size < 1 := by omega
    have g2 : ¬ step < 1 := by omega
    clear hR hE
    go_enter Try.func41, Try.ntmps41
    go_wp2
    refine bodyPost_ret (v := .tuple #[.agg (row4 0 0 0 (.slice none 0 0)), .int .i64 4]) (by simp [results, Try.results41, go_sem]) rfl ?_
    exact ⟨rfl, below_alloc (below_alloc (Below.refl _ _) _) _⟩
  · clear hE
    go_enter Try.func41, Try.ntmps41
    have HF := Aside0.mk (And.intro hsz hne)
    obtain ⟨d, e, q1, q2, q3, q4, q5, q6, q7⟩ := win_nums hC hn hst
    rw [← hm] at q4
    have d0 : ((R : Int) != 1) = false := by subst hR; rfl
    have d1 : decide ((n : Int) < 1) = false := decide_eq_false (by omega)
    have d2 : decide ((st : Int) < 1) = false := decide_eq_false (by omega)
    have d3 : decide (C < n) = false := decide_eq_false (by omega)
    clear hC hn hst hm hsz hm4 hn1 hR hne
    go_wp2_with fail
    generalize hw1 : ((w.alloc (Obj.cells #[Value.int IntKind.i64 R, Value.int IntKind.i64 C, Value.int IntKind.i64 wd] 34)).alloc (Obj.cells #[Value.int IntKind.i64 0, Value.int IntKind.i64 0, Value.int IntKind.i64 0, Value.slice none 0 0] 60)) = w1
    have H0_1 : Aside0 (IsB w1 w.heap.size (row3 R C wd) 34) := ⟨by rw [← hw1]; exact blk_alloc (blk_new _ _) _⟩
    have H1_1 : Aside0 (IsB w1 (w.heap.size + 1) (row4 0 0 0 (.slice none 0 0)) 60) := ⟨by rw [← hw1]; exact new1 w _ _ 34 60⟩
    have HB_1 : Aside0 (Below w.heap.size w w1) := ⟨by rw [← hw1]; exact below_alloc (below_alloc (Below.refl _ _) _) _⟩
    clear hw1
    refine (pupilref7_Sized.calls 8 m n wd er w1 (by rw [refSized_eq 7, HF.out.1])).mono ?_
    rintro e_ w2 ⟨rfl, hb⟩
    replace hb := hb.below
    have H1_2 := Aside0.mk (blk_below H1_1.out hb)
    have HB_2 := Aside0.mk (below_step HB_1.out hb)
    clear hb H0_1 H1_1 HB_1
    have b0 := blk_cell H1_2.out 0
    have b1 := blk_cell H1_2.out 1
    have b2 := blk_cell H1_2.out 2
    have b3 := blk_cell H1_2.out 3
    simp only [List.getElem?_toArray, List.getElem?_cons_zero, List.getElem?_cons_succ] at b0 b1 b2 b3
    have bf0 := blk_frozen H1_2.out 0
    have bf1 := blk_frozen H1_2.out 1
    have bf2 := blk_frozen H1_2.out 2
    have bf3 := blk_frozen H1_2.out 3
    have hne2 : (er != 0) = true := by simpa using HF.out.2
    go_wp2
    have HE := isB_set4 H1_2.out (.int .i64 0) (.int .i64 0) (.int .i64 0) (.slice none 0 0)
    have e0 := blk_cell (Aside0.mk HE).out 0
    have e1 := blk_cell (Aside0.mk HE).out 1
    have e2 := blk_cell (Aside0.mk HE).out 2
    have e3 := blk_cell (Aside0.mk HE).out 3
    simp only [List.getElem?_toArray, List.getElem?_cons_zero, List.getElem?_cons_succ] at e0 e1 e2 e3
    refine bodyPost_ret (v := .tuple #[.agg (row4 0 0 0 (.slice none 0 0)), .int .i64 er]) (by simp [results, Try.results41, go_sem, e0, e1, e2, e3]) rfl ?_
    exact ⟨rfl, below_set4 HB_2.out (by omega) _ _ _ _⟩

set_option maxHeartbeats 2000000 in
set_option maxRecDepth 100000 in
theorem Windowing_bad (R C : Nat) (wd size step er : Int) (w : World) (hC : C ≤ 4096) (hE : winE R C wd size step = er) (hne : er ≠ 0) :
    Calls Try.prog 78 #[.agg #[.int .i64 R, .int .i64 C, .int .i64 wd], .int .i64 size, .int .i64 step] w fun e w' => e = .returned (.tuple #[.agg (row4 0 0 0 (.slice none 0 0)), .int .i64 er]) ∧ Below w.heap.size w w' := by
  rcases win_err hE hC with ⟨hR, rfl⟩ | ⟨hR, h, rfl⟩ | ⟨hR, h1, h2, h3, rfl⟩ | ⟨hR, n, st, m, rfl, rfl, hn1, hst, hn, hm, hm4, hsz⟩
  · have d0 : ((R : Int) != 1) = true := by simp; omega
    clear hR hE
    go_enter Try.func78, Try.ntmps78
    go_wp2
    refine bodyPost_ret (v := .tuple #[.agg (row4 0 0 0 (.slice none 0 0)), .int .i64 4]) (by simp [results, Try.results78, go_sem]) rfl ?_
    exact ⟨rfl, below_alloc (below_alloc (Below.refl _ _) _) _⟩
  · have d0 : ((R : Int) != 1) = false := by subst hR; rfl
    clear hR hE
    go_enter Try.func78, Try.ntmps78
    by_cases g : size < 1
    · skip
      go_wp2
      refine bodyPost_ret (v := .tuple #[.agg (row4 0 0 0 (.slice none 0 0)), .int .i64 1]) (by simp [results, Try.results78, go_sem]) rfl ?_
      exact ⟨rfl, below_alloc (below_alloc (Below.refl _ _) _) _⟩
    · have g2 : step < 1 := by omega
      go_wp2
      refine bodyPost_ret (v := .tuple #[.agg (row4 0 0 0 (.slice none 0 0)), .int .i64 1]) (by simp [results, Try.results78, go_sem]) rfl ?_
      exact ⟨rfl, below_alloc (below_alloc (Below.refl _ _) _) _⟩
  · have d0 : ((R : Int) != 1) = false := by subst hR; rfl
    have g1 : ¬ size < 1 := by omega
    have g2 : ¬ step < 1 := by omega
    clear hR hE
    go_enter Try.func78, Try.ntmps78
    go_wp2
    refine bodyPost_ret (v := .tuple #[.agg (row4 0 0 0 (.slice none 0 0)), .int .i64 4]) (by simp [results, Try.results78, go_sem]) rfl ?_
    exact ⟨rfl, below_alloc (below_alloc (Below.refl _ _) _) _⟩
  · clear hE
    go_enter Try.func78, Try.ntmps78
    have HF := Aside0.mk (And.intro hsz hne)
    obtain ⟨d, e, q1, q2, q3, q4, q5, q6, q7⟩ := win_nums hC hn hst
    rw [← hm] at q4
    have d0 : ((R : Int) != 1) = false := by subst hR; rfl
    have d1 : decide ((n : Int) < 1) = false := decide_eq_false (by omega)
    have d2 : decide ((st : Int) < 1) = false := decide_eq_false (by omega)
    have d3 : decide (C < n) = false := decide_eq_false (by omega)
    clear hC hn hst hm hsz hm4 hn1 hR hne
    go_wp2
    generalize hw1 : ((w.alloc (Obj.cells #[Value.int IntKind.i64 R, Value.int IntKind.i64 C, Value.int IntKind.i64 wd] 34)).alloc (Obj.cells #[Value.int IntKind.i64 0, Value.int IntKind.i64 0, Value.int IntKind.i64 0, Value.slice none 0 0] 93)) = w1
    have H0_1 : Aside0 (IsB w1 w.heap.size (row3 R C wd) 34) := ⟨by rw [← hw1]; exact blk_alloc (blk_new _ _) _⟩
    have H1_1 : Aside0 (IsB w1 (w.heap.size + 1) (row4 0 0 0 (.slice none 0 0)) 93) := ⟨by rw [← hw1]; exact new1 w _ _ 34 93⟩
    have HB_1 : Aside0 (Below w.heap.size w w1) := ⟨by rw [← hw1]; exact below_alloc (below_alloc (Below.refl _ _) _) _⟩
    clear hw1
    have a0 := blk_cell H0_1.out 0
    have a1 := blk_cell H0_1.out 1
    have a2 := blk_cell H0_1.out 2
    simp only [List.getElem?_toArray, List.getElem?_cons_zero, List.getElem?_cons_succ] at a0 a1 a2
    refine start_ (n := 14) (S := fun w' => w'.cell? ⟨w.heap.size, 1, none⟩ = some (.int .i64 C) ∧ w'.cell? ⟨w.heap.size, 2, none⟩ = some (.int .i64 wd)) (ds := [13]) #[false, false, false, false, false, false, false, false, false, false, false, false, false, false] (by kernel_rfl) rfl rfl ⟨a1, a2⟩ (fun hHeld => ?_)
    refine with_tabW F78Rtab7 F78Rbits7 (fun HT_ HW_ => ?_)
    refine pure_ (i := 0) (N := some 31) (v := ?_) (a' := ?_) #[true, false, false, false, false, false, false, false, false, false, false, false, false, false] rfl rfl (any_of HT_.out (by kernel_rfl)) (fun _ _ _ h => h) (Or.inl ⟨by rfl, ?_⟩) ?_ ?_
    rotate_left
    · intro w'
      go_simp
      with_reducible rfl
    rotate_left
    · simp only [Act.put, List.setIfInBounds_toArray, List.set_cons_zero, List.set_cons_succ, i64_w, i32_w]
      rfl
    refine pure_ (i := 2) (N := some 33) (v := ?_) (a' := ?_) #[true, false, true, false, false, false, false, false, false, false, false, false, false, false] rfl rfl (any_of HT_.out (by kernel_rfl)) (fun _ _ _ h => h) (Or.inl ⟨by rfl, ?_⟩) ?_ ?_
    rotate_left
    · intro w'
      go_simp
      with_reducible rfl
    rotate_left
    · simp only [Act.put, List.setIfInBounds_toArray, List.set_cons_zero, List.set_cons_succ, i64_w, i32_w]
      rfl
    refine pure_ (i := 4) (N := some 35) (v := ?_) (a' := ?_) #[true, false, true, false, true, false, false, false, false, false, false, false, false, false] rfl rfl (any_of HT_.out (by kernel_rfl)) (fun _ _ _ h => h) (Or.inl ⟨by rfl, ?_⟩) ?_ ?_
    rotate_left
    · intro w'
      go_simp
      with_reducible rfl
    rotate_left
    · simp only [Act.put, List.setIfInBounds_toArray, List.set_cons_zero, List.set_cons_succ, i64_w, i32_w]
      rfl
    refine pure_ (i := 7) (N := some 38) (v := ?_) (a' := ?_) #[true, false, true, false, true, false, false, true, false, false, false, false, false, false] rfl rfl (any_of HT_.out (by kernel_rfl)) (fun _ _ _ h => h) (Or.inl ⟨by rfl, ?_⟩) ?_ ?_
    rotate_left
    · intro w'
      go_simp
      with_reducible rfl
    rotate_left
    · simp only [Act.put, List.setIfInBounds_toArray, List.set_cons_zero, List.set_cons_succ, i64_w, i32_w]
      rfl
    refine pure_ (i := 8) (N := some 39) (v := ?_) (a' := ?_) #[true, false, true, false, true, false, false, true, true, false, false, false, false, false] rfl rfl (any_of HT_.out (by kernel_rfl)) (fun _ _ _ h => h) (Or.inl ⟨by rfl, ?_⟩) ?_ ?_
    rotate_left
    · intro w'
      go_simp
      with_reducible rfl
    rotate_left
    · simp only [Act.put, List.setIfInBounds_toArray, List.set_cons_zero, List.set_cons_succ, i64_w, i32_w]
      rfl
    refine take_ (i := 1) (N := some 32) (v := ?_) (a' := ?_) #[true, true, true, false, true, false, false, true, true, false, false, false, false, false] rfl rfl (take_ofW HT_.out HW_.out (by kernel_rfl)) (fun _ _ _ h => h) (Or.inl ⟨by rfl, ?_⟩) hHeld ?_ ?_
    rotate_left
    · rintro w' ⟨s0, s1⟩
      go_simp
      with_reducible rfl
    rotate_left
    · simp only [Act.put, List.setIfInBounds_toArray, List.set_cons_zero, List.set_cons_succ, i64_w, i32_w]
      rfl
    refine pure_ (i := 3) (N := some 34) (v := ?_) (a' := ?_) #[true, true, true, true, true, false, false, true, true, false, false, false, false, false] rfl rfl (any_of HT_.out (by kernel_rfl)) (fun _ _ _ h => h) (Or.inl ⟨by rfl, ?_⟩) ?_ ?_
    rotate_left
    · intro w'
      go_simp
      with_reducible rfl
    rotate_left
    · simp only [Act.put, List.setIfInBounds_toArray, List.set_cons_zero, List.set_cons_succ, i64_w, i32_w]
      rfl
    refine pure_ (i := 5) (N := some 36) (v := ?_) (a' := ?_) #[true, true, true, true, true, true, false, true, true, false, false, false, false, false] rfl rfl (any_of HT_.out (by kernel_rfl)) (fun _ _ _ h => h) (Or.inl ⟨by rfl, ?_⟩) ?_ ?_
    rotate_left
    · intro w'
      go_simp
      with_reducible rfl
    rotate_left
    · simp only [Act.put, List.setIfInBounds_toArray, List.set_cons_zero, List.set_cons_succ, i64_w, i32_w]
      rfl
    refine pure_ (i := 6) (N := some 37) (v := ?_) (a' := ?_) #[true, true, true, true, true, true, true, true, true, false, false, false, false, false] rfl rfl (any_of HT_.out (by kernel_rfl)) (fun _ _ _ h => h) (Or.inl ⟨by rfl, ?_⟩) ?_ ?_
    rotate_left
    · intro w'
      go_simp
      with_reducible rfl
    rotate_left
    · simp only [Act.put, List.setIfInBounds_toArray, List.set_cons_zero, List.set_cons_succ, i64_w, i32_w]
      rfl
    refine take_ (i := 9) (N := some 40) (v := ?_) (a' := ?_) #[true, true, true, true, true, true, true, true, true, true, false, false, false, false] rfl rfl (take_ofW HT_.out HW_.out (by kernel_rfl)) (fun _ _ _ h => h) (Or.inl ⟨by rfl, ?_⟩) hHeld ?_ ?_
    rotate_left
    · rintro w' ⟨s0, s1⟩
      go_simp
      with_reducible rfl
    rotate_left
    · simp only [Act.put, List.setIfInBounds_toArray, List.set_cons_zero, List.set_cons_succ, i64_w, i32_w]
      rfl
    refine pure_ (i := 10) (N := some 41) (v := ?_) (a' := ?_) #[true, true, true, true, true, true, true, true, true, true, true, false, false, false] rfl rfl (any_of HT_.out (by kernel_rfl)) (fun _ _ _ h => h) (Or.inl ⟨by rfl, ?_⟩) ?_ ?_
    rotate_left
    · intro w'
      go_simp
      with_reducible rfl
    rotate_left
    · simp only [Act.put, List.setIfInBounds_toArray, List.set_cons_zero, List.set_cons_succ, i64_w, i32_w]
      rfl
    refine pure_ (i := 11) (N := some 42) (v := ?_) (a' := ?_) #[true, true, true, true, true, true, true, true, true, true, true, true, false, false] rfl rfl (any_of HT_.out (by kernel_rfl)) (fun _ _ _ h => h) (Or.inl ⟨by rfl, ?_⟩) ?_ ?_
    rotate_left
    · intro w'
      go_simp
      with_reducible rfl
    rotate_left
    · simp only [Act.put, List.setIfInBounds_toArray, List.set_cons_zero, List.set_cons_succ, i64_w, i32_w]
      rfl
    refine one_ (i := 12) (N := some 8) #[true, true, true, true, true, true, true, true, true, true, true, true, true, false] rfl rfl (one_of HT_.out (by kernel_rfl)) (by decide) (fun K hK => ?_)
    refine value_ (w1 := ?_) (v := ?_) (by rfl) rfl ?_ ?_
    rotate_left 2
    · go_simp
      constructor
      · rfl
      · rfl
    refine hK.out _ _ ⟨(blk_cell (blk_alloc (blk_drew H0_1.out) _) 1).trans rfl, (blk_cell (blk_alloc (blk_drew H0_1.out) _) 2).trans rfl⟩ (fun hHeld => ?_)
    clear hK K
    refine norm_ (a' := ?_) ?_ ?_
    rotate_left
    · show Act.put _ (some 8) _ = _
      simp only [Act.put, List.setIfInBounds_toArray, List.set_cons_zero, List.set_cons_succ, i64_w, i32_w]
      rfl
    refine last_ (i := 13) (N := none) #[true, true, true, true, true, true, true, true, true, true, true, true, true, true] rfl rfl (one_of HT_.out (by kernel_rfl)) (by decide) (fun K hK => ?_)
    refine skip_ (w1 := ?_) (by rfl) rfl ?_ ?_
    rotate_left
    · go_simp
      rfl
    refine hK.out _ _ ?_
    clear hK K
    refine done_ (done_of HT_.out (by kernel_rfl)) ?_
    have H0_2 : Aside0 (IsB (w1.alloc (Obj.cells (row4 m n wd (.slice none 0 0)) 93)).drew w.heap.size (row3 R C wd) 34) := ⟨blk_drew (blk_alloc H0_1.out (Obj.cells (row4 m n wd (.slice none 0 0)) 93))⟩
    have H1_2 : Aside0 (IsB (w1.alloc (Obj.cells (row4 m n wd (.slice none 0 0)) 93)).drew (w.heap.size + 1) (row4 0 0 0 (.slice none 0 0)) 93) := ⟨blk_drew (blk_alloc H1_1.out (Obj.cells (row4 m n wd (.slice none 0 0)) 93))⟩
    have H2_2 : Aside0 (IsB (w1.alloc (Obj.cells (row4 m n wd (.slice none 0 0)) 93)).drew w1.heap.size (row4 m n wd (.slice none 0 0)) 93) := ⟨blk_drew (blk_new w1 (Obj.cells (row4 m n wd (.slice none 0 0)) 93))⟩
    have HB_2 : Aside0 (Below w.heap.size w (w1.alloc (Obj.cells (row4 m n wd (.slice none 0 0)) 93)).drew) := ⟨Below.drew (below_alloc HB_1.out (Obj.cells (row4 m n wd (.slice none 0 0)) 93))⟩
    have HG := Aside0.mk (show w.heap.size + 1 < w1.heap.size from blk_lt H1_1.out)
    clear hHeld a0 a1 a2 H0_1 H1_1 HB_1
    generalize (w1.alloc (Obj.cells #[Value.int IntKind.i64 m, Value.int IntKind.i64 n, Value.int IntKind.i64 wd, Value.slice none 0 0] 93)).drew = w3 at H0_2 H1_2 H2_2 HB_2 ⊢
    generalize w1.heap.size = g at H2_2 HG ⊢
    have a0 := blk_cell H0_2.out 0
    have a1 := blk_cell H0_2.out 1
    have a2 := blk_cell H0_2.out 2
    simp only [List.getElem?_toArray, List.getElem?_cons_zero, List.getElem?_cons_succ] at a0 a1 a2
    have m0 := blk_cell H2_2.out 0
    have m1 := blk_cell H2_2.out 1
    have m2 := blk_cell H2_2.out 2
    have m3 := blk_cell H2_2.out 3
    simp only [List.getElem?_toArray, List.getElem?_cons_zero, List.getElem?_cons_succ] at m0 m1 m2 m3
    go_wp2_with fail
    refine (tensor_Sized.calls 8 m n wd er w3 (by rw [Sized_eq 6, HF.out.1])).mono ?_
    rintro e_ w4 ⟨rfl, hb⟩
    have H1_2 := Aside0.mk (blk_below H1_2.out hb)
    have HB_2 := Aside0.mk (below_step HB_2.out hb)
    clear hb a0 a1 a2 m0 m1 m2 m3
    have b0 := blk_cell H1_2.out 0
    have b1 := blk_cell H1_2.out 1
    have b2 := blk_cell H1_2.out 2
    have b3 := blk_cell H1_2.out 3
    simp only [List.getElem?_toArray, List.getElem?_cons_zero, List.getElem?_cons_succ] at b0 b1 b2 b3
    have bf0 := blk_frozen H1_2.out 0
    have bf1 := blk_frozen H1_2.out 1
    have bf2 := blk_frozen H1_2.out 2
    have bf3 := blk_frozen H1_2.out 3
    have hne2 : (er != 0) = true := by simpa using HF.out.2
    go_wp2
    have HE := isB_set4 H1_2.out (.int .i64 0) (.int .i64 0) (.int .i64 0) (.slice none 0 0)
    have e0 := blk_cell (Aside0.mk HE).out 0
    have e1 := blk_cell (Aside0.mk HE).out 1
    have e2 := blk_cell (Aside0.mk HE).out 2
    have e3 := blk_cell (Aside0.mk HE).out 3
    simp only [List.getElem?_toArray, List.getElem?_cons_zero, List.getElem?_cons_succ] at e0 e1 e2 e3
    refine bodyPost_ret (v := .tuple #[.agg (row4 0 0 0 (.slice none 0 0)), .int .i64 er]) (by simp [results, Try.results78, go_sem, e0, e1, e2, e3]) rfl ?_
    exact ⟨rfl, below_set4 HB_2.out (by omega) _ _ _ _⟩


end Go.Proofs.Ytklomikdihlcgaa
