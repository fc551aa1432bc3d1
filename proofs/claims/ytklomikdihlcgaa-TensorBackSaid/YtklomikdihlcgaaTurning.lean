/- tensor.Turning: what it tells. -/
import Derived.Test.YtklomikdihlcgaaPBasea
import Derived.Test.YtklomikdihlcgaaWMore
import Derived.Outline
import Derived.IntWalk
import Derived.BigRegion
import Derived.Deep.LoopGhost
namespace Go.Proofs.Ytklomikdihlcgaa
open Go.RowKit PBase
open Go.Proofs.YtklomikdihlcgaaW.PrintWords Go.Proofs.YtklomikdihlcgaaW.PrintLast Go.Proofs.YtklomikdihlcgaaW.PrintMore
set_option linter.unusedVariables false
set_option linter.unusedSimpArgs false

/-- a block -/
abbrev IsB (W : World) (g : Nat) (cs : Array Value) (t : Nat) : Prop := W.heap[g]? = some (.cells cs t (0, 0))
/-- rows of places: of which matrix, and where -/
abbrev two : Kd (Int × Int) := Kd.pair (Kd.int .i64) (Kd.int .i64)
abbrev Places (w W : World) (v : Value) (xs : List (Int × Int)) : Prop := Kd.R two 99 W w.heap.size (fun _ => True) v xs

theorem info99 : (Try.prog.info? 99).map (fun i => (i.zero, i.size, i.bytes)) = some (some (.agg #[.int .i64 0, .int .i64 0]), 2, 16) := by kernel_rfl

def colL (r c cc n : Nat) : List (Int × Int) := (List.range n).map fun (rr : Nat) => ((0 : Int), ((rr * c + cc : Nat) : Int))
def turnL (r c n : Nat) : List (Int × Int) := (List.range n).flatMap fun cc => colL r c cc r
theorem colL_succ (r c cc n : Nat) : colL r c cc (n + 1) = colL r c cc n ++ [((0 : Int), ((n * c + cc : Nat) : Int))] := by simp [colL, List.range_succ]
theorem turnL_succ (r c n : Nat) : turnL r c (n + 1) = turnL r c n ++ colL r c n r := by simp [turnL, List.range_succ]
theorem colL_length (r c cc n : Nat) : (colL r c cc n).length = n := by simp [colL]
theorem turnL_length (r c n : Nat) : (turnL r c n).length = n * r := by
  induction n with
  | zero => simp [turnL]
  | succ n ih => rw [turnL_succ, List.length_append, ih, colL_length]; rw [Nat.add_mul, Nat.one_mul]


theorem place_ok {i c j : Nat} (hi : i ≤ 4096) (hc : c ≤ 4096) (hj : j ≤ 4096) : wrap64 (wrap64 ((i : Int) * (c : Int)) + (j : Int)) = ((i * c + j : Nat) : Int) := by
  have h : i * c ≤ 4096 * 4096 := Nat.mul_le_mul hi hc
  have h2 : ((i : Int) * (c : Int)) = ((i * c : Nat) : Int) := by rw [Int.natCast_mul]
  rw [h2, IntWalk.wrap64_in ((i * c : Nat) : Int) (by omega), IntWalk.wrap64_in (((i * c : Nat) : Int) + (j : Int)) (by omega)]
  omega

theorem next_i {i : Nat} (h : i ≤ 4096) : Value.int .i64 (wrap64 ((i : Int) + 1)) = .int .i64 ((i + 1 : Nat) : Int) := by
  rw [IntWalk.wrap64_in ((i : Int) + 1) (by omega)]; rfl

theorem Places.snoc {w W : World} {v : Value} {xs : List (Int × Int)} {x y : Int} (h : Places w W v (xs ++ [((0 : Int), x)])) (e : x = y) : Places w W v (xs ++ [((0 : Int), y)]) := e ▸ h

theorem isB_set4 {W : World} {g t : Nat} {x0 x1 x2 x3 : Value} (h : IsB W g #[x0, x1, x2, x3] t) (a b c d : Value) :
    IsB ((((W.setCell ⟨g, 0, none⟩ a).setCell ⟨g, 1, none⟩ b).setCell ⟨g, 2, none⟩ c).setCell ⟨g, 3, none⟩ d) g #[a, b, c, d] t := blk_set (blk_set (blk_set (blk_set h 0 a) 1 b) 2 c) 3 d
theorem R_set4 {α : Type} {d' : Kd α} {e base : Nat} {ok : Nat → Prop} {W : World} {v : Value} {xs : List α} (h : d'.R e W base ok v xs) {g t : Nat} {cs : Array Value} (hb : W.heap[g]? = some (.cells cs t (0, 0))) (ht : ∀ q, q ∈ e :: d'.E → q ≠ t) (a b c d : Value) :
    d'.R e ((((W.setCell ⟨g, 0, none⟩ a).setCell ⟨g, 1, none⟩ b).setCell ⟨g, 2, none⟩ c).setCell ⟨g, 3, none⟩ d) base ok v xs :=
  Kd.R_set (Kd.R_set (Kd.R_set (Kd.R_set h hb ht 0 a) (blk_set hb 0 a) ht 1 b) (blk_set (blk_set hb 0 a) 1 b) ht 2 c) (blk_set (blk_set (blk_set hb 0 a) 1 b) 2 c) ht 3 d
theorem below_set4 {w W : World} {g : Nat} (h : Below w.heap.size w W) (hg : w.heap.size ≤ g) (a b c d : Value) :
    Below w.heap.size w ((((W.setCell ⟨g, 0, none⟩ a).setCell ⟨g, 1, none⟩ b).setCell ⟨g, 2, none⟩ c).setCell ⟨g, 3, none⟩ d) := below_set (below_set (below_set (below_set h hg) hg) hg) hg
theorem two_E (t : Nat) (ht : (99 : Nat) ≠ t) : ∀ q, q ∈ 99 :: two.E → q ≠ t := by
  intro q hq
  have : q ∈ [99] := hq
  simp at this; subst this; exact ht

abbrev row4 (a b c : Int) (v : Value) : Array Value := #[.int .i64 a, .int .i64 b, .int .i64 c, v]
abbrev row3 (a b c : Int) : Array Value := #[.int .i64 a, .int .i64 b, .int .i64 c]

set_option maxHeartbeats 1000000 in
set_option maxRecDepth 100000 in
theorem Turning_calls (r c : Nat) (wd : Int) (w : World) (hr : r ≤ 4096) (hc : c ≤ 4096) :
    Calls Try.prog 71 #[.agg #[.int .i64 r, .int .i64 c, .int .i64 wd]] w fun e w' => ∃ v, e = .returned (.agg #[.int .i64 c, .int .i64 r, .int .i64 wd, v]) ∧ Places w w' v (turnL r c c) ∧ Below w.heap.size w w' := by
  go_enter Try.func71, Try.ntmps71
  go_wp2
  generalize hw1 : (((w.alloc (Obj.cells #[Value.int IntKind.i64 ↑r, Value.int IntKind.i64 ↑c, Value.int IntKind.i64 wd] 34)).alloc (Obj.cells #[Value.int IntKind.i64 0, Value.int IntKind.i64 0, Value.int IntKind.i64 0, Value.slice none 0 0] 93)).alloc (Obj.cells #[Value.int IntKind.i64 ↑c, Value.int IntKind.i64 ↑r, Value.int IntKind.i64 wd, Value.slice none 0 0] 93)) = w1
  have H0 : Aside0 (IsB w1 w.heap.size (row3 r c wd) 34) := ⟨by rw [← hw1]; exact blk_alloc (blk_alloc (blk_new _ _) _) _⟩
  have H1 : Aside0 (IsB w1 (w.heap.size + 1) (row4 0 0 0 (.slice none 0 0)) 93) := ⟨by rw [← hw1]; exact blk_alloc (by have h := blk_new (w.alloc (Obj.cells #[Value.int IntKind.i64 ↑r, Value.int IntKind.i64 ↑c, Value.int IntKind.i64 wd] 34)) (Obj.cells #[Value.int IntKind.i64 0, Value.int IntKind.i64 0, Value.int IntKind.i64 0, Value.slice none 0 0] 93); simpa using h) _⟩
  have H2 : Aside0 (IsB w1 (w.heap.size + 1 + 1) (row4 c r wd (.slice none 0 0)) 93) := ⟨by rw [← hw1]; have h := blk_new ((w.alloc (Obj.cells #[Value.int IntKind.i64 ↑r, Value.int IntKind.i64 ↑c, Value.int IntKind.i64 wd] 34)).alloc (Obj.cells #[Value.int IntKind.i64 0, Value.int IntKind.i64 0, Value.int IntKind.i64 0, Value.slice none 0 0] 93)) (Obj.cells #[Value.int IntKind.i64 ↑c, Value.int IntKind.i64 ↑r, Value.int IntKind.i64 wd, Value.slice none 0 0] 93); simp only [World.size_alloc] at h; exact h⟩
  have HB : Aside0 (Below w.heap.size w w1) := ⟨by rw [← hw1]; exact below_alloc (below_alloc (below_alloc (Below.refl _ _) _) _) _⟩
  clear hw1
  have HRC := Aside0.mk (And.intro hr hc)
  clear hr hc
  go_loopg [16] c (fun kq v16 w' => ∃ j : Nat, v16 = .int .i64 j ∧ Aside0 (j + kq = c) ∧ Aside0 (IsB w' w.heap.size (row3 r c wd) 34) ∧ Aside0 (IsB w' (w.heap.size + 1) (row4 0 0 0 (.slice none 0 0)) 93) ∧ (∃ v, Aside0 (IsB w' (w.heap.size + 1 + 1) (row4 c r wd v) 93) ∧ Aside0 (Places w w' v (turnL r c j))) ∧ Aside0 (Below w.heap.size w w'))
  case atStart => exact ⟨0, rfl, ⟨by omega⟩, H0, H1, ⟨_, H2, ⟨Kd.R_nil _ _ _ _ _⟩⟩, HB⟩
  case round =>
    clear H0 H1 H2 HB
    obtain ⟨j, rfl, HJ, H0, H1, ⟨v, H2, HP⟩, HB⟩ := hrel
    have a1 := blk_cell H0.out 1
    have a0 := blk_cell H0.out 0
    have m0 := blk_cell H2.out 0
    have m1 := blk_cell H2.out 1
    have m2 := blk_cell H2.out 2
    have m3 := blk_cell H2.out 3
    simp at a1 a0 m0 m1 m2 m3
    have n0 := blk_cell H1.out 0
    have n1 := blk_cell H1.out 1
    have n2 := blk_cell H1.out 2
    have n3 := blk_cell H1.out 3
    simp at n0 n1 n2 n3
    have rf0 := blk_frozen H1.out 0
    have rf1 := blk_frozen H1.out 1
    have rf2 := blk_frozen H1.out 2
    have rf3 := blk_frozen H1.out 3
    by_cases hlt : j < c
    · have d1 : decide (j < c) = true := decide_eq_true (by omega)
      have HLT := Aside0.mk hlt
      clear hlt
      go_wp2
      clear a0 a1 m0 m1 m2 m3 n0 n1 n2 n3 rf0 rf1 rf2 rf3
      have HP0 : Aside0 (Places w wr v (turnL r c j ++ colL r c j 0)) := ⟨by simpa [colL] using HP.out⟩
      clear HP d1
      obtain ⟨gk0, hgk0⟩ : ∃ x : Nat, x = gk := ⟨_, rfl⟩
      have HG0 := Aside0.mk hgk0
      clear hgk0
      go_loopg [21] r (fun kq v21 w' => ∃ i : Nat, v21 = .int .i64 i ∧ Aside0 (i + kq = r) ∧ Aside0 (IsB w' w.heap.size (row3 r c wd) 34) ∧ Aside0 (IsB w' (w.heap.size + 1) (row4 0 0 0 (.slice none 0 0)) 93) ∧ (∃ v, Aside0 (IsB w' (w.heap.size + 1 + 1) (row4 c r wd v) 93) ∧ Aside0 (Places w w' v (turnL r c j ++ colL r c j i))) ∧ Aside0 (Below w.heap.size w w'))
      case atStart => exact ⟨0, rfl, ⟨by omega⟩, H0, H1, ⟨_, H2, HP0⟩, HB⟩
      case round =>
        clear H0 H1 H2 HB HP0
        obtain ⟨i, rfl, HI, H0, H1, ⟨v, H2, HP⟩, HB⟩ := hrel
        have a1 := blk_cell H0.out 1
        have m3 := blk_cell H2.out 3
        simp at a1 m3
        have rf3 := blk_frozen H2.out 3
        by_cases hlt : i < r
        · have d1 : decide (i < r) = true := decide_eq_true (by omega)
          have HL : Aside0 (((turnL r c j ++ colL r c j i).length + 1) * 16 ≤ 140737488355328) := ⟨by
            have h := HRC.out
            have h1 := HLT.out
            have h3 : j * r ≤ 4096 * 4096 := Nat.mul_le_mul (by omega) h.1
            rw [List.length_append, turnL_length, colL_length]
            omega⟩
          have HX := Aside0.mk (place_ok (i := i) (c := c) (j := j) (by have := HRC.out; omega) HRC.out.2 (by have := HRC.out; have := HLT.out; omega))
          have HI2 : Aside0 (i < r) := ⟨hlt⟩
          clear hlt
          go_wp2_with ((with_reducible refine gate_builtin (b := .append) (xs := #[.tmp 25, .tmp 33]) rfl ?_); at_builtin; refine Kd.R_append two (w0 := w) w.heap.size rfl (.tmp 25) (.tmp 33) 58 99 (.agg #[.int .i64 0, .int .i64 0]) 16 rfl Try.underlying58 info99 rfl (by decide) (by omega) v (turnL r c j ++ colL r c j i) (0, wrap64 (wrap64 ((i : Int) * (c : Int)) + (j : Int))) [.int .i64 0, .int .i64 (wrap64 (wrap64 ((i : Int) * (c : Int)) + (j : Int)))] (fun _ => True) (fun _ => False) rfl rfl ?aP (fun _ hk => hk.elim) ?aF ?aO ?aB ?aS ?aL ?_; (case aP => exact ⟨[_], [_], rfl, rfl, rfl⟩); (case aB => exact HB.out); (case aF => exact (fun _ _ => trivial)); (case aO => exact HP.out); (case aS => exact below_size HB.out); (case aL => exact HL.out); intro v9 w7 ho hb hg hat; have HP2 : Aside0 (Places w w7 v9 (turnL r c j ++ colL r c j (i + 1))) := ⟨by rw [colL_succ, ← List.append_assoc]; exact Places.snoc ho HX.out⟩; have hne := Kd.R_ne HP.out H0.out (by decide); have HH0 := Aside0.mk (blk_grown H0.out hg (Kd.R_ne HP.out H0.out (by decide))); have HH1 := Aside0.mk (blk_grown H1.out hg (Kd.R_ne HP.out H1.out (by decide))); have HH2 := Aside0.mk (blk_grown H2.out hg (Kd.R_ne HP.out H2.out (by decide))); have HB2 := Aside0.mk hb; clear ho hb hg hat HP H0 H1 H2 HB hne a1 m3 rf3 HL HX; have m3 := blk_cell HH2.out 3; simp at m3; have rf3 := blk_frozen HH2.out 3; obtain ⟨A9, c9, hv9⟩ := Kd.R_slice HP2.out; generalize (turnL r c j ++ colL r c j (i + 1)).length = ln at hv9; subst hv9)
          go_roundg (gk - 1)
          case measure => have := HI.out; have := HI2.out; omega
          case rel => exact ⟨i + 1, next_i (by have := HRC.out.1; have := HI2.out; omega), ⟨by have := HI.out; have := HI2.out; omega⟩, ⟨blk_far HH0.out (by show w.heap.size ≠ w.heap.size + 1 + 1; omega) _⟩, ⟨blk_far HH1.out (by show w.heap.size + 1 ≠ w.heap.size + 1 + 1; omega) _⟩, ⟨_, ⟨blk_set HH2.out 3 _⟩, ⟨Kd.R_set HP2.out HH2.out (two_E 93 (by decide)) 3 _⟩⟩, ⟨below_set HB2.out (by omega)⟩⟩
        · have d1 : decide (i < r) = false := decide_eq_false (by omega)
          have hi : i = r := by have := HI.out; omega
          clear HI
          subst hi
          go_wp2
          go_roundg (gk0 - 1)
          case measure => have := HJ.out; have := HLT.out; have := HG0.out; omega
          case rel => exact ⟨j + 1, next_i (by have := HRC.out.2; have := HLT.out; omega), ⟨by have := HJ.out; have := HLT.out; have := HG0.out; omega⟩, H0, H1, ⟨_, H2, ⟨by rw [turnL_succ]; exact HP.out⟩⟩, HB⟩
    · have d1 : decide (j < c) = false := decide_eq_false (by omega)
      have hj : j = c := by have := HJ.out; omega
      clear HJ
      subst hj
      obtain ⟨A, cp, hv⟩ := Kd.R_slice HP.out
      generalize (turnL r j j).length = ln at hv
      subst hv
      go_wp2
      have HE := isB_set4 H1.out (.int .i64 j) (.int .i64 r) (.int .i64 wd) (.slice A ln cp)
      have e0 := blk_cell HE 0
      have e1 := blk_cell HE 1
      have e2 := blk_cell HE 2
      have e3 := blk_cell HE 3
      simp only [List.getElem?_toArray, List.getElem?_cons_zero, List.getElem?_cons_succ] at e0 e1 e2 e3
      refine bodyPost_ret (v := .agg #[.int .i64 j, .int .i64 r, .int .i64 wd, .slice A ln cp]) (by simp [results, Try.results71, go_sem, e0, e1, e2, e3]) rfl ?_
      exact ⟨_, rfl, R_set4 HP.out H1.out (two_E 93 (by decide)) _ _ _ _, below_set4 HB.out (by omega) _ _ _ _⟩

end Go.Proofs.Ytklomikdihlcgaa
