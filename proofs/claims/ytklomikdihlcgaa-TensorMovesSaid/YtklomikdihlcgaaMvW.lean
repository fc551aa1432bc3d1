/- TensorMoves: the law comes to true. -/
import Derived.Test.YtklomikdihlcgaaSameW
import Derived.Test.YtklomikdihlcgaaSpoil
namespace Go.Proofs.Ytklomikdihlcgaa
open Go.RowKit PBase
open Go.Proofs.YtklomikdihlcgaaW.PrintWords Go.Proofs.YtklomikdihlcgaaW.PrintLast Go.Proofs.YtklomikdihlcgaaW.PrintMore
set_option linter.unusedVariables false
set_option linter.unusedSimpArgs false

theorem C_front {w : World} {A : Option Addr} {l : List Int} {x : Int} (h : (Kd.int .i64).C w A (l.length + 1) (l ++ [x])) : (Kd.int .i64).C w A l.length l := by
  obtain ⟨h1, h2, h3⟩ := h
  refine ⟨rfl, by omega, fun hp => ?_⟩
  obtain ⟨ad, hA, hc⟩ := h3 (by omega)
  exact ⟨ad, hA, fun j p hj => hc j p (by rw [List.getElem?_append_left (by exact (List.getElem?_eq_some_iff.1 hj).1)]; exact hj)⟩

/-- a row whose block lies between two marks -/
def Row (W : World) (N N' : Nat) (v : Value) (L : List Int) : Prop := Kd.R (Kd.int .i64) 3 W N (fun k => N ≤ k ∧ k < N') v L
theorem row_of {w w' : World} {v : Value} {L : List Int} (h : Ints w w' v L) : Row w' w.heap.size w'.heap.size v L := Kd.R_mono (Kd.R_bound h) (fun _ hk => ⟨hk.2.1, hk.2.2.1⟩)
theorem row_step {W W1 : World} {N N' : Nat} {v : Value} {L : List Int} (h : Row W N N' v L) (hm : ∀ k, N ≤ k → k < N' → k < W.heap.size → W1.heap[k]? = W.heap[k]?) : Row W1 N N' v L := Kd.R_step h (fun k hk hlt => hm k hk.1 hk.2 hlt)
theorem row_below {W W1 : World} {N N' : Nat} {v : Value} {L : List Int} (h : Row W N N' v L) (hb : Below W.heap.size W W1) : Row W1 N N' v L := row_step h (fun k _ _ hlt => hb.block k hlt)
theorem row_reads {W : World} {N N' : Nat} {A : Option Addr} {n c : Nat} {L : List Int} (h : Row W N N' (.slice A n c) L) : n = L.length ∧ L.length ≤ c ∧ (Kd.int .i64).C W A L.length L := by
  obtain ⟨A8, c8, hv, hle, hC⟩ := Kd.R_reads h
  injection hv with e1 e2 e3
  subst e1 e3
  exact ⟨e2, hle, hC⟩
/-- five stores: a matrix and its error -/
abbrev put5 (W : World) (gA gE o0 o1 o2 o3 j : Nat) (x y z : Int) (v : Value) (e : Int) : World :=
  ((((W.setCell ⟨gA, o0, none⟩ (.int .i64 x)).setCell ⟨gA, o1, none⟩ (.int .i64 y)).setCell ⟨gA, o2, none⟩ (.int .i64 z)).setCell ⟨gA, o3, none⟩ v).setCell ⟨gE, j, none⟩ (.int .i64 e)
section
variable {W : World} {gA gE o0 o1 o2 o3 j t : Nat} {x y z e : Int} {v' : Value}
theorem put5_heap (k : Nat) (h1 : k ≠ gA) (h2 : k ≠ gE) : (put5 W gA gE o0 o1 o2 o3 j x y z v' e).heap[k]? = W.heap[k]? := by
  unfold put5
  rw [Below.heap_setCell _ _ _ k h2, Below.heap_setCell _ _ _ k h1, Below.heap_setCell _ _ _ k h1, Below.heap_setCell _ _ _ k h1, Below.heap_setCell _ _ _ k h1]
theorem put5_size : (put5 W gA gE o0 o1 o2 o3 j x y z v' e).heap.size = W.heap.size := by
  unfold put5
  simp [World.setCell]
theorem put5_row {v : Value} {N N' : Nat} {L : List Int} (h : Row W N N' v L) (h1 : gA < N) (h2 : gE < N) : Row (put5 W gA gE o0 o1 o2 o3 j x y z v' e) N N' v L :=
  row_step h (fun k hk _ _ => put5_heap k (by omega) (by omega))
theorem put5_below {n : Nat} {w : World} (h : Below n w W) (h1 : n ≤ gA) (h2 : n ≤ gE) : Below n w (put5 W gA gE o0 o1 o2 o3 j x y z v' e) :=
  Below.setCell (Below.setCell (Below.setCell (Below.setCell (Below.setCell h (p := ⟨gA, o0, none⟩) h1 _) (p := ⟨gA, o1, none⟩) h1 _) (p := ⟨gA, o2, none⟩) h1 _) (p := ⟨gA, o3, none⟩) h1 _) (p := ⟨gE, j, none⟩) h2 _
theorem put5_A {cs cs' : Array Value} (h : IsB W gA cs t) (hne : gA ≠ gE) (he : (((cs.setIfInBounds o0 (.int .i64 x)).setIfInBounds o1 (.int .i64 y)).setIfInBounds o2 (.int .i64 z)).setIfInBounds o3 v' = cs') : IsB (put5 W gA gE o0 o1 o2 o3 j x y z v' e) gA cs' t := by
  subst he
  exact blk_far (blk_set (blk_set (blk_set (blk_set h o0 _) o1 _) o2 _) o3 _) (p := ⟨gE, j, none⟩) hne _
theorem put5_E {cs cs' : Array Value} (h : IsB W gE cs t) (hne : gE ≠ gA) (he : cs.setIfInBounds j (.int .i64 e) = cs') : IsB (put5 W gA gE o0 o1 o2 o3 j x y z v' e) gE cs' t := by
  subst he
  exact blk_set (blk_far (blk_far (blk_far (blk_far h (p := ⟨gA, o0, none⟩) hne _) (p := ⟨gA, o1, none⟩) hne _) (p := ⟨gA, o2, none⟩) hne _) (p := ⟨gA, o3, none⟩) hne _) j _
end


def Com (w4 wL : World) (N5 : Nat) (ga ge : Array Value) (W : World) : Prop := IsB W w4.heap.size ga 55 ∧ IsB W (w4.heap.size + 1) ge 56 ∧ Below w4.heap.size w4 W ∧ wL.heap.size ≤ W.heap.size ∧ ∀ k, N5 ≤ k → k < wL.heap.size → W.heap[k]? = wL.heap[k]?
theorem com_below {w4 wL W W1 : World} {N5 : Nat} {ga ge : Array Value} (h : Com w4 wL N5 ga ge W) (hb : Below W.heap.size W W1) : Com w4 wL N5 ga ge W1 :=
  ⟨blk_below h.1 hb, blk_below h.2.1 hb, below_step h.2.2.1 hb, Nat.le_trans h.2.2.2.1 hb.size, fun k h1 h2 => (hb.block k (Nat.lt_of_lt_of_le h2 h.2.2.2.1)).trans (h.2.2.2.2 k h1 h2)⟩
theorem keep_out {W : World} {N N' k : Nat} {v : Value} {L : List Int} (h : Row W N N' v L) (hk : k < N ∨ N' ≤ k) : some k ≠ v.ownBlock := by
  intro e
  have := h.1 k e.symm
  omega
theorem com_spoil {w4 wL W W1 : World} {N N' N5 : Nat} {ga ge : Array Value} {v : Value} {L : List Int} (h : Com w4 wL N5 ga ge W) (hR : Row W N N' v L) (h1 : w4.heap.size + 1 < N) (h2 : N' ≤ N5) (h3 : N5 < wL.heap.size) (hb : Below w4.heap.size w4 W1) (hk : KeepsRow W W1 v.ownBlock) : Com w4 wL N5 ga ge W1 := by
  have hkk : ∀ k, N5 ≤ k → k < wL.heap.size → W1.heap[k]? = wL.heap[k]? := fun k a b => (hk k (Nat.lt_of_lt_of_le b h.2.2.2.1) (keep_out hR (Or.inr (by omega)))).trans (h.2.2.2.2 k a b)
  refine ⟨keeps_blk hk h.1 (keep_out hR (Or.inl (by omega))), keeps_blk hk h.2.1 (keep_out hR (Or.inl (by omega))), hb, ?_, hkk⟩
  have hl := hkk (wL.heap.size - 1) (by omega) (by omega)
  have hl2 : wL.heap[wL.heap.size - 1]? = some wL.heap[wL.heap.size - 1] := Array.getElem?_eq_getElem (by omega)
  rw [hl2] at hl
  have := (Array.getElem?_eq_some_iff.1 hl).1
  omega
theorem row_spoil {W W1 : World} {N N' M M' : Nat} {v v2 : Value} {L L2 : List Int} (h : Row W M M' v2 L2) (hR : Row W N N' v L) (hd : N' ≤ M) (hk : KeepsRow W W1 v.ownBlock) : Row W1 M M' v2 L2 :=
  row_step h (fun k a b c => hk k c (keep_out hR (Or.inr (by omega))))
theorem com_V {w4 wL W : World} {N5 g t : Nat} {ga ge cs : Array Value} (h : Com w4 wL N5 ga ge W) (hI : IsB wL g cs t) (hg : N5 ≤ g) : IsB W g cs t := (h.2.2.2.2 g hg (blk_lt hI)).trans hI
theorem com_set4 {w4 wL W : World} {N5 gw : Nat} {ga ge : Array Value} {x y z v : Value} (h : Com w4 wL N5 ga ge W) (h1 : wL.heap.size ≤ gw) (h2 : w4.heap.size + 1 < gw) : Com w4 wL N5 ga ge ((((W.setCell ⟨gw, 0, none⟩ x).setCell ⟨gw, 1, none⟩ y).setCell ⟨gw, 2, none⟩ z).setCell ⟨gw, 3, none⟩ v) := by
  have hh : ∀ k, k ≠ gw → ((((W.setCell ⟨gw, 0, none⟩ x).setCell ⟨gw, 1, none⟩ y).setCell ⟨gw, 2, none⟩ z).setCell ⟨gw, 3, none⟩ v).heap[k]? = W.heap[k]? := fun k hk => by
    rw [Below.heap_setCell _ _ _ k hk, Below.heap_setCell _ _ _ k hk, Below.heap_setCell _ _ _ k hk, Below.heap_setCell _ _ _ k hk]
  refine ⟨(hh _ (by omega)).trans h.1, (hh _ (by omega)).trans h.2.1, below_set4 h.2.2.1 (by omega) _ _ _ _, ?_, fun k a b => (hh k (by omega)).trans (h.2.2.2.2 k a b)⟩
  have := h.2.2.2.1
  simpa [World.setCell] using this
theorem row_set4 {W : World} {N N' gw : Nat} {v' : Value} {L : List Int} {x y z v : Value} (h : Row W N N' v' L) (h1 : N' ≤ gw) : Row ((((W.setCell ⟨gw, 0, none⟩ x).setCell ⟨gw, 1, none⟩ y).setCell ⟨gw, 2, none⟩ z).setCell ⟨gw, 3, none⟩ v) N N' v' L :=
  row_step h (fun k _ b _ => by
    have hk : k ≠ gw := by omega
    rw [Below.heap_setCell _ _ _ k hk, Below.heap_setCell _ _ _ k hk, Below.heap_setCell _ _ _ k hk, Below.heap_setCell _ _ _ k hk])
theorem row_of_ints {w W : World} {v : Value} {L : List Int} (h : Ints w W v L) : Row W w.heap.size W.heap.size v L := Kd.R_mono (Kd.R_bound h) (fun _ hk => ⟨hk.2.1, hk.2.2.1⟩)
theorem row_ints {w4 W : World} {N N' : Nat} {v : Value} {L : List Int} (h : Row W N N' v L) (hN : w4.heap.size ≤ N) : Ints w4 W v L := Kd.R_lower (Kd.R_mono h (fun _ _ => trivial)) hN


/-- one of the five answers: what the program answered (p q s, the row A n k with elements L, the error e; its block lies between lo and hi), and what the document's move is (a b d, the places' row B x y, its error f) -/
structure MD where
  p : Int
  q : Int
  s : Int
  e : Int
  A : Option Addr
  n : Nat
  k : Nat
  L : List Int
  a : Int
  b : Int
  d : Int
  f : Int
  B : Option Addr
  x : Nat
  y : Nat
  lo : Nat
  hi : Nat
theorem arr_cells {W : World} {g t : Nat} (P Q S : Nat → Int) (V : Nat → Value) (h : IsB W g #[.int .i64 (P 0), .int .i64 (Q 0), .int .i64 (S 0), V 0, .int .i64 (P 1), .int .i64 (Q 1), .int .i64 (S 1), V 1, .int .i64 (P 2), .int .i64 (Q 2), .int .i64 (S 2), V 2, .int .i64 (P 3), .int .i64 (Q 3), .int .i64 (S 3), V 3, .int .i64 (P 4), .int .i64 (Q 4), .int .i64 (S 4), V 4] t) (i : Nat) (hi : i < 5) :
    W.cell? ⟨g, i * 4, none⟩ = some (.int .i64 (P i)) ∧ W.cell? ⟨g, i * 4 + 1, none⟩ = some (.int .i64 (Q i)) ∧ W.cell? ⟨g, i * 4 + 2, none⟩ = some (.int .i64 (S i)) ∧ W.cell? ⟨g, i * 4 + 3, none⟩ = some (V i) := by
  rcases i with _ | _ | _ | _ | _ | i
  · exact ⟨blk_cell h 0, blk_cell h 1, blk_cell h 2, blk_cell h 3⟩
  · exact ⟨blk_cell h 4, blk_cell h 5, blk_cell h 6, blk_cell h 7⟩
  · exact ⟨blk_cell h 8, blk_cell h 9, blk_cell h 10, blk_cell h 11⟩
  · exact ⟨blk_cell h 12, blk_cell h 13, blk_cell h 14, blk_cell h 15⟩
  · exact ⟨blk_cell h 16, blk_cell h 17, blk_cell h 18, blk_cell h 19⟩
  · omega
theorem row_cells {W : World} {g t : Nat} (P : Nat → Int) (h : IsB W g #[.int .i64 (P 0), .int .i64 (P 1), .int .i64 (P 2), .int .i64 (P 3), .int .i64 (P 4)] t) (i : Nat) (hi : i < 5) : W.cell? ⟨g, i, none⟩ = some (.int .i64 (P i)) := by
  rcases i with _ | _ | _ | _ | _ | i
  · exact blk_cell h 0
  · exact blk_cell h 1
  · exact blk_cell h 2
  · exact blk_cell h 3
  · exact blk_cell h 4
  · omega
def MGot (D : Nat → MD) (g : Nat) (W : World) : Prop := ∀ i, i < 5 → W.cell? ⟨g, i * 4, none⟩ = some (.int .i64 (D i).p) ∧ W.cell? ⟨g, i * 4 + 1, none⟩ = some (.int .i64 (D i).q) ∧ W.cell? ⟨g, i * 4 + 2, none⟩ = some (.int .i64 (D i).s) ∧ W.cell? ⟨g, i * 4 + 3, none⟩ = some (.slice (D i).A (D i).n (D i).k)
def MErr (D : Nat → MD) (g : Nat) (W : World) : Prop := ∀ i, i < 5 → W.cell? ⟨g, i, none⟩ = some (.int .i64 (D i).e)
def MMov (D : Nat → MD) (g : Nat) (W : World) : Prop := ∀ i, i < 5 → W.cell? ⟨g, i * 4, none⟩ = some (.int .i64 (D i).a) ∧ W.cell? ⟨g, i * 4 + 1, none⟩ = some (.int .i64 (D i).b) ∧ W.cell? ⟨g, i * 4 + 2, none⟩ = some (.int .i64 (D i).d) ∧ W.cell? ⟨g, i * 4 + 3, none⟩ = some (.slice (D i).B (D i).x (D i).y)
def MFal (D : Nat → MD) (g : Nat) (W : World) : Prop := ∀ i, i < 5 → W.cell? ⟨g, i, none⟩ = some (.int .i64 (D i).f)
def MRows (D : Nat → MD) (i : Nat) (W : World) : Prop := ∀ j, i ≤ j → j < 5 → Row W (D j).lo (D j).hi (.slice (D j).A (D j).n (D j).k) (D j).L
/-- what the loop is handed -/
structure MSet (D : Nat → MD) (w4 wL : World) (N5 : Nat) (ga ge : Array Value) (m : Value) : Prop where
  got : ∀ W, IsB W w4.heap.size ga 55 → MGot D w4.heap.size W
  err : ∀ W, IsB W (w4.heap.size + 1) ge 56 → MErr D (w4.heap.size + 1) W
  mov : ∀ W, Com w4 wL N5 ga ge W → MMov D N5 W
  fal : ∀ W, Com w4 wL N5 ga ge W → MFal D (N5 + 1) W
  calls : ∀ i, i < 5 → ∀ W, Below w4.heap.size w4 W → (∀ k, N5 ≤ k → k < wL.heap.size → W.heap[k]? = wL.heap[k]?) → Calls Try.prog 42 #[m, .agg #[.int .i64 (D i).a, .int .i64 (D i).b, .int .i64 (D i).d, .slice (D i).B (D i).x (D i).y], .int .i64 (D i).f] W (AnsP W (D i).e (D i).p (D i).q (D i).s (D i).L)
  mark : ∀ j, j < 5 → w4.heap.size + 1 < (D j).lo ∧ (D j).hi ≤ N5 ∧ (D j).n = (D j).L.length ∧ (D j).L.length ≤ 100000
  apart : ∀ i j, i < j → j < 5 → (D i).hi ≤ (D j).lo
  room : N5 < wL.heap.size ∧ w4.heap.size + 1 < N5

set_option maxHeartbeats 4000000 in
set_option maxRecDepth 100000 in
theorem mv_long (r c wd : Int) (A : Option Addr) (cA : Nat) (l : List Int) (a b : Int) (hl : l.length > 5000) (w : World) (hC : (Kd.int .i64).C w A l.length l) (hcA : l.length ≤ cA) (hr : InR l) :
    Calls Try.prog 7 #[.agg #[.int .i64 r, .int .i64 c, .int .i64 wd, .slice A l.length cA], .int .i64 a, .int .i64 b] w fun e w' => e = .returned (.bool true) ∧ Below w.heap.size w w' := by
  have d1 : decide ((5000 : Int) < (l.length : Int)) = true := decide_eq_true (by omega)
  have HH := Aside0.mk (And.intro hC (And.intro hcA hr))
  clear hC hcA hr
  go_enter Try.func7, Try.ntmps7
  go_wp2_with fail
  generalize hw1 : w.alloc (Obj.cells #[Value.int IntKind.i64 r, Value.int IntKind.i64 c, Value.int IntKind.i64 wd, Value.slice A l.length cA] 25) = w1
  have HB_1 : Aside0 (Below w.heap.size w w1) := ⟨by rw [← hw1]; exact below_alloc (Below.refl _ _) _⟩
  have H0_1 : Aside0 (IsB w1 w.heap.size (row4 r c wd (.slice A l.length cA)) 25) := ⟨by rw [← hw1]; exact blk_new _ _⟩
  clear hw1
  refine (alive_calls w1).mono ?_
  rintro e w2 ⟨rfl, hb⟩
  have H0_2 := Aside0.mk (blk_below H0_1.out hb)
  have HB_2 := Aside0.mk (below_step HB_1.out hb)
  clear hb H0_1 HB_1
  have a0 := blk_cell H0_2.out 0
  have a1 := blk_cell H0_2.out 1
  have a2 := blk_cell H0_2.out 2
  have a3 := blk_cell H0_2.out 3
  simp only [List.getElem?_toArray, List.getElem?_cons_zero, List.getElem?_cons_succ] at a0 a1 a2 a3
  go_wp2
  go_ret
  exact ⟨rfl, HB_2.out⟩

def F7RT28 : Bool × List (List Nat × List Nat) := (true, [([], []), ([], []), ([1], [1]), ([2], [2]), ([], []), ([4], [4]), ([5], [5]), ([0, 3, 6], [0, 3, 6]), ([7], [7]), ([8], [8]), ([8], [8]), ([], []), ([11, 9, 7, 0, 1, 2, 3, 4, 5, 6, 7, 8, 9, 11], [9, 11]), ([10, 12, 0, 1, 2, 3, 4, 5, 6, 7, 8, 9, 10, 11, 12], [10])])
def F7RB28 : List Nat := [0, 0, 2, 6, 0, 16, 48, 127, 255, 511, 511, 0, 3071, 8191]
theorem F7Rtab28 : rtab .any (opsOf Try.f7 28) = F7RT28 := by kernel_rfl
theorem F7Rbits28 : waitsOk F7RT28.2 F7RB28 = true := by kernel_rfl
def F7RT29 : Bool × List (List Nat × List Nat) := (true, [([], []), ([0], [0]), ([1], [1]), ([2], [2]), ([], []), ([3, 4], [3, 4]), ([5, 3], [5]), ([6], [6]), ([7, 6], [6, 7]), ([8, 6], [6, 8]), ([6], [6]), ([9, 10, 6, 6], [6, 9, 10]), ([11, 6], [6, 11]), ([6, 12], [6, 12])])
def F7RB29 : List Nat := [0, 1, 3, 7, 0, 31, 63, 127, 255, 511, 127, 2047, 4095, 8191]
theorem F7Rtab29 : rtab .any (opsOf Try.f7 29) = F7RT29 := by kernel_rfl
theorem F7Rbits29 : waitsOk F7RT29.2 F7RB29 = true := by kernel_rfl
set_option maxHeartbeats 4000000 in
set_option maxRecDepth 100000 in
theorem mv_bad (r c wd : Int) (A : Option Addr) (cA : Nat) (l : List Int) (a b : Int) (er : Int) (hT0 : ∀ (A : Option Addr) (cA : Nat) (w : World), (Kd.int .i64).C w A l.length l → l.length ≤ cA → Calls Try.prog 32 #[.agg #[.int .i64 r, .int .i64 c, .int .i64 wd, .slice A l.length cA]] w (AnsP w er 0 0 0 [])) (hT1 : ∀ (A : Option Addr) (cA : Nat) (w : World), (Kd.int .i64).C w A l.length l → l.length ≤ cA → Calls Try.prog 33 #[.agg #[.int .i64 r, .int .i64 c, .int .i64 wd, .slice A l.length cA], .int .i64 a, .int .i64 b] w (AnsP w er 0 0 0 [])) (hT2 : ∀ (A : Option Addr) (cA : Nat) (w : World), (Kd.int .i64).C w A l.length l → l.length ≤ cA → Calls Try.prog 34 #[.agg #[.int .i64 r, .int .i64 c, .int .i64 wd, .slice A l.length cA], .int .i64 a, .int .i64 b] w (AnsP w er 0 0 0 [])) (hT3 : ∀ (A : Option Addr) (cA : Nat) (w : World), (Kd.int .i64).C w A l.length l → l.length ≤ cA → Calls Try.prog 35 #[.agg #[.int .i64 r, .int .i64 c, .int .i64 wd, .slice A l.length cA], .int .i64 a, .int .i64 b] w (AnsP w er 0 0 0 [])) (hT4 : ∀ (A : Option Addr) (cA : Nat) (w : World), (Kd.int .i64).C w A l.length l → l.length ≤ cA → Calls Try.prog 36 #[.agg #[.int .i64 r, .int .i64 c, .int .i64 wd, .slice A l.length cA], .int .i64 a, .int .i64 b] w (AnsP w er 0 0 0 [])) (hl : l.length ≤ 5000) (hE : checkV r c wd l = er ∧ er ≠ 0) (w : World) (hC : (Kd.int .i64).C w A l.length l) (hcA : l.length ≤ cA) (hr : InR l) :
    Calls Try.prog 7 #[.agg #[.int .i64 r, .int .i64 c, .int .i64 wd, .slice A l.length cA], .int .i64 a, .int .i64 b] w fun e w' => e = .returned (.bool true) ∧ Below w.heap.size w w' := by
  have HE_R := Aside0.mk hE
  clear hE
  have HLL0 : Aside0 (([] : List Int).length ≤ 100000) := ⟨by simp⟩
  have HLL1 : Aside0 (([] : List Int).length ≤ 100000) := ⟨by simp⟩
  have HLL2 : Aside0 (([] : List Int).length ≤ 100000) := ⟨by simp⟩
  have HLL3 : Aside0 (([] : List Int).length ≤ 100000) := ⟨by simp⟩
  have HLL4 : Aside0 (([] : List Int).length ≤ 100000) := ⟨by simp⟩
  have HL := Aside0.mk hl
  have d1 : decide ((5000 : Int) < (l.length : Int)) = false := decide_eq_false (by omega)
  clear hl
  have HT0 := Aside0.mk hT0
  have HT1 := Aside0.mk hT1
  have HT2 := Aside0.mk hT2
  have HT3 := Aside0.mk hT3
  have HT4 := Aside0.mk hT4
  clear hT0 hT1 hT2 hT3 hT4
  have HH := Aside0.mk (And.intro hC (And.intro hcA hr))
  clear hC hcA hr
  go_enter Try.func7, Try.ntmps7
  go_wp2_with fail
  generalize hw1 : w.alloc (Obj.cells #[Value.int IntKind.i64 r, Value.int IntKind.i64 c, Value.int IntKind.i64 wd, Value.slice A l.length cA] 25) = w1
  have HB_1 : Aside0 (Below w.heap.size w w1) := ⟨by rw [← hw1]; exact below_alloc (Below.refl _ _) _⟩
  have H0_1 : Aside0 (IsB w1 w.heap.size (row4 r c wd (.slice A l.length cA)) 25) := ⟨by rw [← hw1]; exact blk_new _ _⟩
  clear hw1
  refine (alive_calls w1).mono ?_
  rintro e w2 ⟨rfl, hb⟩
  have H0_2 := Aside0.mk (blk_below H0_1.out hb)
  have HB_2 := Aside0.mk (below_step HB_1.out hb)
  clear hb H0_1 HB_1
  have a0 := blk_cell H0_2.out 0
  have a1 := blk_cell H0_2.out 1
  have a2 := blk_cell H0_2.out 2
  have a3 := blk_cell H0_2.out 3
  simp only [List.getElem?_toArray, List.getElem?_cons_zero, List.getElem?_cons_succ] at a0 a1 a2 a3
  go_wp2_with fail
  refine (lent_calls r c wd A cA l w2 (Kd.C_below HH.out.1 HB_2.out) HH.out.2.1 (by have := HL.out; omega)).mono ?_
  rintro e w3 ⟨A9, c9, rfl, hc9, hR9, hb⟩
  have H0_4 := Aside0.mk (blk_alloc (blk_below H0_2.out hb) (Obj.cells (row4 r c wd (.slice A9 l.length c9)) 25))
  have H1_4 := Aside0.mk (blk_new w3 (Obj.cells (row4 r c wd (.slice A9 l.length c9)) 25))
  have HB_4 := Aside0.mk (below_alloc (below_step HB_2.out hb) (Obj.cells (row4 r c wd (.slice A9 l.length c9)) 25))
  have hCf : (Kd.int .i64).C w3 A9 (l.length + 1) (l ++ [-71]) := by
    obtain ⟨A8, c8, hv, _, hC⟩ := Kd.R_reads hR9
    injection hv with g1_ g2_ g3_
    subst g1_
    have hll : (l ++ [(-71 : Int)]).length = l.length + 1 := by simp
    rw [hll] at hC
    exact hC
  have HCF := Aside0.mk (And.intro hc9 (Kd.C_alloc hCf (Obj.cells (row4 r c wd (.slice A9 l.length c9)) 25)))
  clear hb hR9 hc9 hCf H0_2 HB_2
  clear a0 a1 a2 a3
  obtain ⟨w4, hw4⟩ : ∃ w4, w4 = w3.alloc (Obj.cells (row4 r c wd (.slice A9 l.length c9)) 25) := ⟨_, rfl⟩
  have hsz4 : w4.heap.size = w3.heap.size + 1 := by rw [hw4, World.size_alloc]
  have HW4 := Aside0.mk hw4
  rw [← hw4] at H0_4 H1_4 HB_4 HCF
  have HCM := Aside0.mk (Kd.C_below HH.out.1 HB_4.out)
  obtain ⟨w5, hw5⟩ : ∃ w5, w5 = (w4.alloc (Obj.cells #[Value.int IntKind.i64 0, Value.int IntKind.i64 0, Value.int IntKind.i64 0, Value.slice none 0 0, Value.int IntKind.i64 0, Value.int IntKind.i64 0, Value.int IntKind.i64 0, Value.slice none 0 0, Value.int IntKind.i64 0, Value.int IntKind.i64 0, Value.int IntKind.i64 0, Value.slice none 0 0, Value.int IntKind.i64 0, Value.int IntKind.i64 0, Value.int IntKind.i64 0, Value.slice none 0 0, Value.int IntKind.i64 0, Value.int IntKind.i64 0, Value.int IntKind.i64 0, Value.slice none 0 0] 55)).alloc (Obj.cells #[Value.int IntKind.i64 0, Value.int IntKind.i64 0, Value.int IntKind.i64 0, Value.int IntKind.i64 0, Value.int IntKind.i64 0] 56) := ⟨_, rfl⟩
  have HS_5 : Aside0 (Below w4.heap.size w4 w5) := ⟨by rw [hw5]; exact below_alloc (below_alloc (Below.refl _ _) _) _⟩
  have HA_5 : Aside0 (IsB w5 w4.heap.size #[.int .i64 0, .int .i64 0, .int .i64 0, .slice none 0 0, .int .i64 0, .int .i64 0, .int .i64 0, .slice none 0 0, .int .i64 0, .int .i64 0, .int .i64 0, .slice none 0 0, .int .i64 0, .int .i64 0, .int .i64 0, .slice none 0 0, .int .i64 0, .int .i64 0, .int .i64 0, .slice none 0 0] 55) := ⟨by rw [hw5]; exact blk_alloc (blk_new _ _) _⟩
  have HE_5 : Aside0 (IsB w5 (w4.heap.size + 1) #[.int .i64 0, .int .i64 0, .int .i64 0, .int .i64 0, .int .i64 0] 56) := ⟨by rw [hw5]; exact new1 w4 _ _ 55 56⟩
  have HN0 : Aside0 (w5.heap.size = w4.heap.size + 1 + 1) := ⟨by rw [hw5]; simp [World.size_alloc]⟩
  have H1_5 := Aside0.mk (blk_below H1_4.out HS_5.out)
  have b0 := blk_cell H1_5.out 0
  have b1 := blk_cell H1_5.out 1
  have b2 := blk_cell H1_5.out 2
  have b3 := blk_cell H1_5.out 3
  simp only [List.getElem?_toArray, List.getElem?_cons_zero, List.getElem?_cons_succ] at b0 b1 b2 b3
  rw [hw5, hw4] at b0 b1 b2 b3
  go_wp2_with fail
  rw [← hw4, ← hsz4]
  rw [← hw5]
  clear hw5 hw4 hsz4 b0 b1 b2 b3
  refine (HT0.out A9 c9 w5 (Kd.C_below (C_front HCF.out.2) HS_5.out) (by have := HCF.out.1; omega)).mono ?_
  rintro e u0 ⟨v, rfl, hP, hb⟩
  have R0 := Aside0.mk (row_of hP)
  have HSu := Aside0.mk (below_step HS_5.out hb)
  have HAu := Aside0.mk (blk_below HA_5.out hb)
  have HEu := Aside0.mk (blk_below HE_5.out hb)
  have HO0 : Aside0 (w5.heap.size ≤ u0.heap.size) := ⟨hb.size⟩
  obtain ⟨A_0, k_0, hv⟩ := Kd.R_slice hP
  obtain ⟨n_0, hn⟩ : ∃ n, n = ([] : List Int).length := ⟨_, rfl⟩
  have HNL0 := Aside0.mk hn
  rw [← hn] at hv
  clear hn
  subst hv
  clear hP hb HS_5 HA_5 HE_5
  have HS_m0 : Aside0 (Below w4.heap.size w4 (((((u0.setCell ⟨w4.heap.size, 0, none⟩ (.int .i64 0)).setCell ⟨w4.heap.size, 1, none⟩ (.int .i64 0)).setCell ⟨w4.heap.size, 2, none⟩ (.int .i64 0)).setCell ⟨w4.heap.size, 3, none⟩ (.slice A_0 n_0 k_0)).setCell ⟨w4.heap.size + 1, 0, none⟩ (.int .i64 er))) := ⟨put5_below HSu.out (Nat.le_refl _) (Nat.le_succ _)⟩
  have HA_m0 : Aside0 (IsB (((((u0.setCell ⟨w4.heap.size, 0, none⟩ (.int .i64 0)).setCell ⟨w4.heap.size, 1, none⟩ (.int .i64 0)).setCell ⟨w4.heap.size, 2, none⟩ (.int .i64 0)).setCell ⟨w4.heap.size, 3, none⟩ (.slice A_0 n_0 k_0)).setCell ⟨w4.heap.size + 1, 0, none⟩ (.int .i64 er)) w4.heap.size #[.int .i64 0, .int .i64 0, .int .i64 0, .slice A_0 n_0 k_0, .int .i64 0, .int .i64 0, .int .i64 0, .slice none 0 0, .int .i64 0, .int .i64 0, .int .i64 0, .slice none 0 0, .int .i64 0, .int .i64 0, .int .i64 0, .slice none 0 0, .int .i64 0, .int .i64 0, .int .i64 0, .slice none 0 0] 55) := ⟨put5_A HAu.out (by omega) rfl⟩
  have HE_m0 : Aside0 (IsB (((((u0.setCell ⟨w4.heap.size, 0, none⟩ (.int .i64 0)).setCell ⟨w4.heap.size, 1, none⟩ (.int .i64 0)).setCell ⟨w4.heap.size, 2, none⟩ (.int .i64 0)).setCell ⟨w4.heap.size, 3, none⟩ (.slice A_0 n_0 k_0)).setCell ⟨w4.heap.size + 1, 0, none⟩ (.int .i64 er)) (w4.heap.size + 1) #[.int .i64 er, .int .i64 0, .int .i64 0, .int .i64 0, .int .i64 0] 56) := ⟨put5_E HEu.out (by omega) rfl⟩
  have hsz : (((((u0.setCell ⟨w4.heap.size, 0, none⟩ (.int .i64 0)).setCell ⟨w4.heap.size, 1, none⟩ (.int .i64 0)).setCell ⟨w4.heap.size, 2, none⟩ (.int .i64 0)).setCell ⟨w4.heap.size, 3, none⟩ (.slice A_0 n_0 k_0)).setCell ⟨w4.heap.size + 1, 0, none⟩ (.int .i64 er)).heap.size = u0.heap.size := put5_size
  replace R0 : Aside0 (Row (((((u0.setCell ⟨w4.heap.size, 0, none⟩ (.int .i64 0)).setCell ⟨w4.heap.size, 1, none⟩ (.int .i64 0)).setCell ⟨w4.heap.size, 2, none⟩ (.int .i64 0)).setCell ⟨w4.heap.size, 3, none⟩ (.slice A_0 n_0 k_0)).setCell ⟨w4.heap.size + 1, 0, none⟩ (.int .i64 er)) _ _ (.slice A_0 n_0 k_0) ([] : List Int)) := ⟨put5_row R0.out (by have := HN0.out; have := HO0.out; omega) (by have := HN0.out; have := HO0.out; omega)⟩
  rw [← hsz] at R0 HO0
  clear hsz
  have H1_m0 := Aside0.mk (blk_below H1_4.out HS_m0.out)
  have x0 := blk_cell HAu.out 0
  have xf0 := blk_frozen HAu.out 0
  have x1 := blk_cell HAu.out 1
  have xf1 := blk_frozen HAu.out 1
  have x2 := blk_cell HAu.out 2
  have xf2 := blk_frozen HAu.out 2
  have x3 := blk_cell HAu.out 3
  have xf3 := blk_frozen HAu.out 3
  have y0 := blk_cell HEu.out 0
  have yf0 := blk_frozen HEu.out 0
  simp only [List.getElem?_toArray, List.getElem?_cons_zero, List.getElem?_cons_succ] at x0 x1 x2 x3 y0
  have b0 := blk_cell H1_m0.out 0
  have b1 := blk_cell H1_m0.out 1
  have b2 := blk_cell H1_m0.out 2
  have b3 := blk_cell H1_m0.out 3
  simp only [List.getElem?_toArray, List.getElem?_cons_zero, List.getElem?_cons_succ] at b0 b1 b2 b3
  go_wp2_with fail
  generalize (((((u0.setCell ⟨w4.heap.size, 0, none⟩ (.int .i64 0)).setCell ⟨w4.heap.size, 1, none⟩ (.int .i64 0)).setCell ⟨w4.heap.size, 2, none⟩ (.int .i64 0)).setCell ⟨w4.heap.size, 3, none⟩ (.slice A_0 n_0 k_0)).setCell ⟨w4.heap.size + 1, 0, none⟩ (.int .i64 er)) = m0 at HS_m0 HA_m0 HE_m0 H1_m0 HO0 R0 ⊢
  clear HSu HAu HEu x0 x1 x2 x3 y0 xf0 xf1 xf2 xf3 yf0 b0 b1 b2 b3 H1_m0
  refine (HT1.out A9 c9 m0 (Kd.C_below (C_front HCF.out.2) HS_m0.out) (by have := HCF.out.1; omega)).mono ?_
  rintro e u1 ⟨v, rfl, hP, hb⟩
  have R1 := Aside0.mk (row_of hP)
  replace R0 := Aside0.mk (row_below R0.out hb)
  have HSu := Aside0.mk (below_step HS_m0.out hb)
  have HAu := Aside0.mk (blk_below HA_m0.out hb)
  have HEu := Aside0.mk (blk_below HE_m0.out hb)
  have HO1 : Aside0 (m0.heap.size ≤ u1.heap.size) := ⟨hb.size⟩
  obtain ⟨A_1, k_1, hv⟩ := Kd.R_slice hP
  obtain ⟨n_1, hn⟩ : ∃ n, n = ([] : List Int).length := ⟨_, rfl⟩
  have HNL1 := Aside0.mk hn
  rw [← hn] at hv
  clear hn
  subst hv
  clear hP hb HS_m0 HA_m0 HE_m0
  have HS_m1 : Aside0 (Below w4.heap.size w4 (((((u1.setCell ⟨w4.heap.size, 4, none⟩ (.int .i64 0)).setCell ⟨w4.heap.size, 5, none⟩ (.int .i64 0)).setCell ⟨w4.heap.size, 6, none⟩ (.int .i64 0)).setCell ⟨w4.heap.size, 7, none⟩ (.slice A_1 n_1 k_1)).setCell ⟨w4.heap.size + 1, 1, none⟩ (.int .i64 er))) := ⟨put5_below HSu.out (Nat.le_refl _) (Nat.le_succ _)⟩
  have HA_m1 : Aside0 (IsB (((((u1.setCell ⟨w4.heap.size, 4, none⟩ (.int .i64 0)).setCell ⟨w4.heap.size, 5, none⟩ (.int .i64 0)).setCell ⟨w4.heap.size, 6, none⟩ (.int .i64 0)).setCell ⟨w4.heap.size, 7, none⟩ (.slice A_1 n_1 k_1)).setCell ⟨w4.heap.size + 1, 1, none⟩ (.int .i64 er)) w4.heap.size #[.int .i64 0, .int .i64 0, .int .i64 0, .slice A_0 n_0 k_0, .int .i64 0, .int .i64 0, .int .i64 0, .slice A_1 n_1 k_1, .int .i64 0, .int .i64 0, .int .i64 0, .slice none 0 0, .int .i64 0, .int .i64 0, .int .i64 0, .slice none 0 0, .int .i64 0, .int .i64 0, .int .i64 0, .slice none 0 0] 55) := ⟨put5_A HAu.out (by omega) rfl⟩
  have HE_m1 : Aside0 (IsB (((((u1.setCell ⟨w4.heap.size, 4, none⟩ (.int .i64 0)).setCell ⟨w4.heap.size, 5, none⟩ (.int .i64 0)).setCell ⟨w4.heap.size, 6, none⟩ (.int .i64 0)).setCell ⟨w4.heap.size, 7, none⟩ (.slice A_1 n_1 k_1)).setCell ⟨w4.heap.size + 1, 1, none⟩ (.int .i64 er)) (w4.heap.size + 1) #[.int .i64 er, .int .i64 er, .int .i64 0, .int .i64 0, .int .i64 0] 56) := ⟨put5_E HEu.out (by omega) rfl⟩
  have hsz : (((((u1.setCell ⟨w4.heap.size, 4, none⟩ (.int .i64 0)).setCell ⟨w4.heap.size, 5, none⟩ (.int .i64 0)).setCell ⟨w4.heap.size, 6, none⟩ (.int .i64 0)).setCell ⟨w4.heap.size, 7, none⟩ (.slice A_1 n_1 k_1)).setCell ⟨w4.heap.size + 1, 1, none⟩ (.int .i64 er)).heap.size = u1.heap.size := put5_size
  replace R0 : Aside0 (Row (((((u1.setCell ⟨w4.heap.size, 4, none⟩ (.int .i64 0)).setCell ⟨w4.heap.size, 5, none⟩ (.int .i64 0)).setCell ⟨w4.heap.size, 6, none⟩ (.int .i64 0)).setCell ⟨w4.heap.size, 7, none⟩ (.slice A_1 n_1 k_1)).setCell ⟨w4.heap.size + 1, 1, none⟩ (.int .i64 er)) _ _ (.slice A_0 n_0 k_0) ([] : List Int)) := ⟨put5_row R0.out (by have := HN0.out; have := HO0.out; have := HO1.out; omega) (by have := HN0.out; have := HO0.out; have := HO1.out; omega)⟩
  replace R1 : Aside0 (Row (((((u1.setCell ⟨w4.heap.size, 4, none⟩ (.int .i64 0)).setCell ⟨w4.heap.size, 5, none⟩ (.int .i64 0)).setCell ⟨w4.heap.size, 6, none⟩ (.int .i64 0)).setCell ⟨w4.heap.size, 7, none⟩ (.slice A_1 n_1 k_1)).setCell ⟨w4.heap.size + 1, 1, none⟩ (.int .i64 er)) _ _ (.slice A_1 n_1 k_1) ([] : List Int)) := ⟨put5_row R1.out (by have := HN0.out; have := HO0.out; have := HO1.out; omega) (by have := HN0.out; have := HO0.out; have := HO1.out; omega)⟩
  rw [← hsz] at R1 HO1
  clear hsz
  have H1_m1 := Aside0.mk (blk_below H1_4.out HS_m1.out)
  have x0 := blk_cell HAu.out 4
  have xf0 := blk_frozen HAu.out 4
  have x1 := blk_cell HAu.out 5
  have xf1 := blk_frozen HAu.out 5
  have x2 := blk_cell HAu.out 6
  have xf2 := blk_frozen HAu.out 6
  have x3 := blk_cell HAu.out 7
  have xf3 := blk_frozen HAu.out 7
  have y0 := blk_cell HEu.out 1
  have yf0 := blk_frozen HEu.out 1
  simp only [List.getElem?_toArray, List.getElem?_cons_zero, List.getElem?_cons_succ] at x0 x1 x2 x3 y0
  have b0 := blk_cell H1_m1.out 0
  have b1 := blk_cell H1_m1.out 1
  have b2 := blk_cell H1_m1.out 2
  have b3 := blk_cell H1_m1.out 3
  simp only [List.getElem?_toArray, List.getElem?_cons_zero, List.getElem?_cons_succ] at b0 b1 b2 b3
  go_wp2_with fail
  generalize (((((u1.setCell ⟨w4.heap.size, 4, none⟩ (.int .i64 0)).setCell ⟨w4.heap.size, 5, none⟩ (.int .i64 0)).setCell ⟨w4.heap.size, 6, none⟩ (.int .i64 0)).setCell ⟨w4.heap.size, 7, none⟩ (.slice A_1 n_1 k_1)).setCell ⟨w4.heap.size + 1, 1, none⟩ (.int .i64 er)) = m1 at HS_m1 HA_m1 HE_m1 H1_m1 HO1 R0 R1 ⊢
  clear HSu HAu HEu x0 x1 x2 x3 y0 xf0 xf1 xf2 xf3 yf0 b0 b1 b2 b3 H1_m1
  refine (HT2.out A9 c9 m1 (Kd.C_below (C_front HCF.out.2) HS_m1.out) (by have := HCF.out.1; omega)).mono ?_
  rintro e u2 ⟨v, rfl, hP, hb⟩
  have R2 := Aside0.mk (row_of hP)
  replace R0 := Aside0.mk (row_below R0.out hb)
  replace R1 := Aside0.mk (row_below R1.out hb)
  have HSu := Aside0.mk (below_step HS_m1.out hb)
  have HAu := Aside0.mk (blk_below HA_m1.out hb)
  have HEu := Aside0.mk (blk_below HE_m1.out hb)
  have HO2 : Aside0 (m1.heap.size ≤ u2.heap.size) := ⟨hb.size⟩
  obtain ⟨A_2, k_2, hv⟩ := Kd.R_slice hP
  obtain ⟨n_2, hn⟩ : ∃ n, n = ([] : List Int).length := ⟨_, rfl⟩
  have HNL2 := Aside0.mk hn
  rw [← hn] at hv
  clear hn
  subst hv
  clear hP hb HS_m1 HA_m1 HE_m1
  have HS_m2 : Aside0 (Below w4.heap.size w4 (((((u2.setCell ⟨w4.heap.size, 8, none⟩ (.int .i64 0)).setCell ⟨w4.heap.size, 9, none⟩ (.int .i64 0)).setCell ⟨w4.heap.size, 10, none⟩ (.int .i64 0)).setCell ⟨w4.heap.size, 11, none⟩ (.slice A_2 n_2 k_2)).setCell ⟨w4.heap.size + 1, 2, none⟩ (.int .i64 er))) := ⟨put5_below HSu.out (Nat.le_refl _) (Nat.le_succ _)⟩
  have HA_m2 : Aside0 (IsB (((((u2.setCell ⟨w4.heap.size, 8, none⟩ (.int .i64 0)).setCell ⟨w4.heap.size, 9, none⟩ (.int .i64 0)).setCell ⟨w4.heap.size, 10, none⟩ (.int .i64 0)).setCell ⟨w4.heap.size, 11, none⟩ (.slice A_2 n_2 k_2)).setCell ⟨w4.heap.size + 1, 2, none⟩ (.int .i64 er)) w4.heap.size #[.int .i64 0, .int .i64 0, .int .i64 0, .slice A_0 n_0 k_0, .int .i64 0, .int .i64 0, .int .i64 0, .slice A_1 n_1 k_1, .int .i64 0, .int .i64 0, .int .i64 0, .slice A_2 n_2 k_2, .int .i64 0, .int .i64 0, .int .i64 0, .slice none 0 0, .int .i64 0, .int .i64 0, .int .i64 0, .slice none 0 0] 55) := ⟨put5_A HAu.out (by omega) rfl⟩
  have HE_m2 : Aside0 (IsB (((((u2.setCell ⟨w4.heap.size, 8, none⟩ (.int .i64 0)).setCell ⟨w4.heap.size, 9, none⟩ (.int .i64 0)).setCell ⟨w4.heap.size, 10, none⟩ (.int .i64 0)).setCell ⟨w4.heap.size, 11, none⟩ (.slice A_2 n_2 k_2)).setCell ⟨w4.heap.size + 1, 2, none⟩ (.int .i64 er)) (w4.heap.size + 1) #[.int .i64 er, .int .i64 er, .int .i64 er, .int .i64 0, .int .i64 0] 56) := ⟨put5_E HEu.out (by omega) rfl⟩
  have hsz : (((((u2.setCell ⟨w4.heap.size, 8, none⟩ (.int .i64 0)).setCell ⟨w4.heap.size, 9, none⟩ (.int .i64 0)).setCell ⟨w4.heap.size, 10, none⟩ (.int .i64 0)).setCell ⟨w4.heap.size, 11, none⟩ (.slice A_2 n_2 k_2)).setCell ⟨w4.heap.size + 1, 2, none⟩ (.int .i64 er)).heap.size = u2.heap.size := put5_size
  replace R0 : Aside0 (Row (((((u2.setCell ⟨w4.heap.size, 8, none⟩ (.int .i64 0)).setCell ⟨w4.heap.size, 9, none⟩ (.int .i64 0)).setCell ⟨w4.heap.size, 10, none⟩ (.int .i64 0)).setCell ⟨w4.heap.size, 11, none⟩ (.slice A_2 n_2 k_2)).setCell ⟨w4.heap.size + 1, 2, none⟩ (.int .i64 er)) _ _ (.slice A_0 n_0 k_0) ([] : List Int)) := ⟨put5_row R0.out (by have := HN0.out; have := HO0.out; have := HO1.out; have := HO2.out; omega) (by have := HN0.out; have := HO0.out; have := HO1.out; have := HO2.out; omega)⟩
  replace R1 : Aside0 (Row (((((u2.setCell ⟨w4.heap.size, 8, none⟩ (.int .i64 0)).setCell ⟨w4.heap.size, 9, none⟩ (.int .i64 0)).setCell ⟨w4.heap.size, 10, none⟩ (.int .i64 0)).setCell ⟨w4.heap.size, 11, none⟩ (.slice A_2 n_2 k_2)).setCell ⟨w4.heap.size + 1, 2, none⟩ (.int .i64 er)) _ _ (.slice A_1 n_1 k_1) ([] : List Int)) := ⟨put5_row R1.out (by have := HN0.out; have := HO0.out; have := HO1.out; have := HO2.out; omega) (by have := HN0.out; have := HO0.out; have := HO1.out; have := HO2.out; omega)⟩
  replace R2 : Aside0 (Row (((((u2.setCell ⟨w4.heap.size, 8, none⟩ (.int .i64 0)).setCell ⟨w4.heap.size, 9, none⟩ (.int .i64 0)).setCell ⟨w4.heap.size, 10, none⟩ (.int .i64 0)).setCell ⟨w4.heap.size, 11, none⟩ (.slice A_2 n_2 k_2)).setCell ⟨w4.heap.size + 1, 2, none⟩ (.int .i64 er)) _ _ (.slice A_2 n_2 k_2) ([] : List Int)) := ⟨put5_row R2.out (by have := HN0.out; have := HO0.out; have := HO1.out; have := HO2.out; omega) (by have := HN0.out; have := HO0.out; have := HO1.out; have := HO2.out; omega)⟩
  rw [← hsz] at R2 HO2
  clear hsz
  have H1_m2 := Aside0.mk (blk_below H1_4.out HS_m2.out)
  have x0 := blk_cell HAu.out 8
  have xf0 := blk_frozen HAu.out 8
  have x1 := blk_cell HAu.out 9
  have xf1 := blk_frozen HAu.out 9
  have x2 := blk_cell HAu.out 10
  have xf2 := blk_frozen HAu.out 10
  have x3 := blk_cell HAu.out 11
  have xf3 := blk_frozen HAu.out 11
  have y0 := blk_cell HEu.out 2
  have yf0 := blk_frozen HEu.out 2
  simp only [List.getElem?_toArray, List.getElem?_cons_zero, List.getElem?_cons_succ] at x0 x1 x2 x3 y0
  have b0 := blk_cell H1_m2.out 0
  have b1 := blk_cell H1_m2.out 1
  have b2 := blk_cell H1_m2.out 2
  have b3 := blk_cell H1_m2.out 3
  simp only [List.getElem?_toArray, List.getElem?_cons_zero, List.getElem?_cons_succ] at b0 b1 b2 b3
  go_wp2_with fail
  generalize (((((u2.setCell ⟨w4.heap.size, 8, none⟩ (.int .i64 0)).setCell ⟨w4.heap.size, 9, none⟩ (.int .i64 0)).setCell ⟨w4.heap.size, 10, none⟩ (.int .i64 0)).setCell ⟨w4.heap.size, 11, none⟩ (.slice A_2 n_2 k_2)).setCell ⟨w4.heap.size + 1, 2, none⟩ (.int .i64 er)) = m2 at HS_m2 HA_m2 HE_m2 H1_m2 HO2 R0 R1 R2 ⊢
  clear HSu HAu HEu x0 x1 x2 x3 y0 xf0 xf1 xf2 xf3 yf0 b0 b1 b2 b3 H1_m2
  refine (HT3.out A9 c9 m2 (Kd.C_below (C_front HCF.out.2) HS_m2.out) (by have := HCF.out.1; omega)).mono ?_
  rintro e u3 ⟨v, rfl, hP, hb⟩
  have R3 := Aside0.mk (row_of hP)
  replace R0 := Aside0.mk (row_below R0.out hb)
  replace R1 := Aside0.mk (row_below R1.out hb)
  replace R2 := Aside0.mk (row_below R2.out hb)
  have HSu := Aside0.mk (below_step HS_m2.out hb)
  have HAu := Aside0.mk (blk_below HA_m2.out hb)
  have HEu := Aside0.mk (blk_below HE_m2.out hb)
  have HO3 : Aside0 (m2.heap.size ≤ u3.heap.size) := ⟨hb.size⟩
  obtain ⟨A_3, k_3, hv⟩ := Kd.R_slice hP
  obtain ⟨n_3, hn⟩ : ∃ n, n = ([] : List Int).length := ⟨_, rfl⟩
  have HNL3 := Aside0.mk hn
  rw [← hn] at hv
  clear hn
  subst hv
  clear hP hb HS_m2 HA_m2 HE_m2
  have HS_m3 : Aside0 (Below w4.heap.size w4 (((((u3.setCell ⟨w4.heap.size, 12, none⟩ (.int .i64 0)).setCell ⟨w4.heap.size, 13, none⟩ (.int .i64 0)).setCell ⟨w4.heap.size, 14, none⟩ (.int .i64 0)).setCell ⟨w4.heap.size, 15, none⟩ (.slice A_3 n_3 k_3)).setCell ⟨w4.heap.size + 1, 3, none⟩ (.int .i64 er))) := ⟨put5_below HSu.out (Nat.le_refl _) (Nat.le_succ _)⟩
  have HA_m3 : Aside0 (IsB (((((u3.setCell ⟨w4.heap.size, 12, none⟩ (.int .i64 0)).setCell ⟨w4.heap.size, 13, none⟩ (.int .i64 0)).setCell ⟨w4.heap.size, 14, none⟩ (.int .i64 0)).setCell ⟨w4.heap.size, 15, none⟩ (.slice A_3 n_3 k_3)).setCell ⟨w4.heap.size + 1, 3, none⟩ (.int .i64 er)) w4.heap.size #[.int .i64 0, .int .i64 0, .int .i64 0, .slice A_0 n_0 k_0, .int .i64 0, .int .i64 0, .int .i64 0, .slice A_1 n_1 k_1, .int .i64 0, .int .i64 0, .int .i64 0, .slice A_2 n_2 k_2, .int .i64 0, .int .i64 0, .int .i64 0, .slice A_3 n_3 k_3, .int .i64 0, .int .i64 0, .int .i64 0, .slice none 0 0] 55) := ⟨put5_A HAu.out (by omega) rfl⟩
  have HE_m3 : Aside0 (IsB (((((u3.setCell ⟨w4.heap.size, 12, none⟩ (.int .i64 0)).setCell ⟨w4.heap.size, 13, none⟩ (.int .i64 0)).setCell ⟨w4.heap.size, 14, none⟩ (.int .i64 0)).setCell ⟨w4.heap.size, 15, none⟩ (.slice A_3 n_3 k_3)).setCell ⟨w4.heap.size + 1, 3, none⟩ (.int .i64 er)) (w4.heap.size + 1) #[.int .i64 er, .int .i64 er, .int .i64 er, .int .i64 er, .int .i64 0] 56) := ⟨put5_E HEu.out (by omega) rfl⟩
  have hsz : (((((u3.setCell ⟨w4.heap.size, 12, none⟩ (.int .i64 0)).setCell ⟨w4.heap.size, 13, none⟩ (.int .i64 0)).setCell ⟨w4.heap.size, 14, none⟩ (.int .i64 0)).setCell ⟨w4.heap.size, 15, none⟩ (.slice A_3 n_3 k_3)).setCell ⟨w4.heap.size + 1, 3, none⟩ (.int .i64 er)).heap.size = u3.heap.size := put5_size
  replace R0 : Aside0 (Row (((((u3.setCell ⟨w4.heap.size, 12, none⟩ (.int .i64 0)).setCell ⟨w4.heap.size, 13, none⟩ (.int .i64 0)).setCell ⟨w4.heap.size, 14, none⟩ (.int .i64 0)).setCell ⟨w4.heap.size, 15, none⟩ (.slice A_3 n_3 k_3)).setCell ⟨w4.heap.size + 1, 3, none⟩ (.int .i64 er)) _ _ (.slice A_0 n_0 k_0) ([] : List Int)) := ⟨put5_row R0.out (by have := HN0.out; have := HO0.out; have := HO1.out; have := HO2.out; have := HO3.out; omega) (by have := HN0.out; have := HO0.out; have := HO1.out; have := HO2.out; have := HO3.out; omega)⟩
  replace R1 : Aside0 (Row (((((u3.setCell ⟨w4.heap.size, 12, none⟩ (.int .i64 0)).setCell ⟨w4.heap.size, 13, none⟩ (.int .i64 0)).setCell ⟨w4.heap.size, 14, none⟩ (.int .i64 0)).setCell ⟨w4.heap.size, 15, none⟩ (.slice A_3 n_3 k_3)).setCell ⟨w4.heap.size + 1, 3, none⟩ (.int .i64 er)) _ _ (.slice A_1 n_1 k_1) ([] : List Int)) := ⟨put5_row R1.out (by have := HN0.out; have := HO0.out; have := HO1.out; have := HO2.out; have := HO3.out; omega) (by have := HN0.out; have := HO0.out; have := HO1.out; have := HO2.out; have := HO3.out; omega)⟩
  replace R2 : Aside0 (Row (((((u3.setCell ⟨w4.heap.size, 12, none⟩ (.int .i64 0)).setCell ⟨w4.heap.size, 13, none⟩ (.int .i64 0)).setCell ⟨w4.heap.size, 14, none⟩ (.int .i64 0)).setCell ⟨w4.heap.size, 15, none⟩ (.slice A_3 n_3 k_3)).setCell ⟨w4.heap.size + 1, 3, none⟩ (.int .i64 er)) _ _ (.slice A_2 n_2 k_2) ([] : List Int)) := ⟨put5_row R2.out (by have := HN0.out; have := HO0.out; have := HO1.out; have := HO2.out; have := HO3.out; omega) (by have := HN0.out; have := HO0.out; have := HO1.out; have := HO2.out; have := HO3.out; omega)⟩
  replace R3 : Aside0 (Row (((((u3.setCell ⟨w4.heap.size, 12, none⟩ (.int .i64 0)).setCell ⟨w4.heap.size, 13, none⟩ (.int .i64 0)).setCell ⟨w4.heap.size, 14, none⟩ (.int .i64 0)).setCell ⟨w4.heap.size, 15, none⟩ (.slice A_3 n_3 k_3)).setCell ⟨w4.heap.size + 1, 3, none⟩ (.int .i64 er)) _ _ (.slice A_3 n_3 k_3) ([] : List Int)) := ⟨put5_row R3.out (by have := HN0.out; have := HO0.out; have := HO1.out; have := HO2.out; have := HO3.out; omega) (by have := HN0.out; have := HO0.out; have := HO1.out; have := HO2.out; have := HO3.out; omega)⟩
  rw [← hsz] at R3 HO3
  clear hsz
  have H1_m3 := Aside0.mk (blk_below H1_4.out HS_m3.out)
  have x0 := blk_cell HAu.out 12
  have xf0 := blk_frozen HAu.out 12
  have x1 := blk_cell HAu.out 13
  have xf1 := blk_frozen HAu.out 13
  have x2 := blk_cell HAu.out 14
  have xf2 := blk_frozen HAu.out 14
  have x3 := blk_cell HAu.out 15
  have xf3 := blk_frozen HAu.out 15
  have y0 := blk_cell HEu.out 3
  have yf0 := blk_frozen HEu.out 3
  simp only [List.getElem?_toArray, List.getElem?_cons_zero, List.getElem?_cons_succ] at x0 x1 x2 x3 y0
  have b0 := blk_cell H1_m3.out 0
  have b1 := blk_cell H1_m3.out 1
  have b2 := blk_cell H1_m3.out 2
  have b3 := blk_cell H1_m3.out 3
  simp only [List.getElem?_toArray, List.getElem?_cons_zero, List.getElem?_cons_succ] at b0 b1 b2 b3
  go_wp2_with fail
  generalize (((((u3.setCell ⟨w4.heap.size, 12, none⟩ (.int .i64 0)).setCell ⟨w4.heap.size, 13, none⟩ (.int .i64 0)).setCell ⟨w4.heap.size, 14, none⟩ (.int .i64 0)).setCell ⟨w4.heap.size, 15, none⟩ (.slice A_3 n_3 k_3)).setCell ⟨w4.heap.size + 1, 3, none⟩ (.int .i64 er)) = m3 at HS_m3 HA_m3 HE_m3 H1_m3 HO3 R0 R1 R2 R3 ⊢
  clear HSu HAu HEu x0 x1 x2 x3 y0 xf0 xf1 xf2 xf3 yf0 b0 b1 b2 b3 H1_m3
  refine (HT4.out A9 c9 m3 (Kd.C_below (C_front HCF.out.2) HS_m3.out) (by have := HCF.out.1; omega)).mono ?_
  rintro e u4 ⟨v, rfl, hP, hb⟩
  have R4 := Aside0.mk (row_of hP)
  replace R0 := Aside0.mk (row_below R0.out hb)
  replace R1 := Aside0.mk (row_below R1.out hb)
  replace R2 := Aside0.mk (row_below R2.out hb)
  replace R3 := Aside0.mk (row_below R3.out hb)
  have HSu := Aside0.mk (below_step HS_m3.out hb)
  have HAu := Aside0.mk (blk_below HA_m3.out hb)
  have HEu := Aside0.mk (blk_below HE_m3.out hb)
  have HO4 : Aside0 (m3.heap.size ≤ u4.heap.size) := ⟨hb.size⟩
  obtain ⟨A_4, k_4, hv⟩ := Kd.R_slice hP
  obtain ⟨n_4, hn⟩ : ∃ n, n = ([] : List Int).length := ⟨_, rfl⟩
  have HNL4 := Aside0.mk hn
  rw [← hn] at hv
  clear hn
  subst hv
  clear hP hb HS_m3 HA_m3 HE_m3
  have HS_m4 : Aside0 (Below w4.heap.size w4 (((((u4.setCell ⟨w4.heap.size, 16, none⟩ (.int .i64 0)).setCell ⟨w4.heap.size, 17, none⟩ (.int .i64 0)).setCell ⟨w4.heap.size, 18, none⟩ (.int .i64 0)).setCell ⟨w4.heap.size, 19, none⟩ (.slice A_4 n_4 k_4)).setCell ⟨w4.heap.size + 1, 4, none⟩ (.int .i64 er))) := ⟨put5_below HSu.out (Nat.le_refl _) (Nat.le_succ _)⟩
  have HA_m4 : Aside0 (IsB (((((u4.setCell ⟨w4.heap.size, 16, none⟩ (.int .i64 0)).setCell ⟨w4.heap.size, 17, none⟩ (.int .i64 0)).setCell ⟨w4.heap.size, 18, none⟩ (.int .i64 0)).setCell ⟨w4.heap.size, 19, none⟩ (.slice A_4 n_4 k_4)).setCell ⟨w4.heap.size + 1, 4, none⟩ (.int .i64 er)) w4.heap.size #[.int .i64 0, .int .i64 0, .int .i64 0, .slice A_0 n_0 k_0, .int .i64 0, .int .i64 0, .int .i64 0, .slice A_1 n_1 k_1, .int .i64 0, .int .i64 0, .int .i64 0, .slice A_2 n_2 k_2, .int .i64 0, .int .i64 0, .int .i64 0, .slice A_3 n_3 k_3, .int .i64 0, .int .i64 0, .int .i64 0, .slice A_4 n_4 k_4] 55) := ⟨put5_A HAu.out (by omega) rfl⟩
  have HE_m4 : Aside0 (IsB (((((u4.setCell ⟨w4.heap.size, 16, none⟩ (.int .i64 0)).setCell ⟨w4.heap.size, 17, none⟩ (.int .i64 0)).setCell ⟨w4.heap.size, 18, none⟩ (.int .i64 0)).setCell ⟨w4.heap.size, 19, none⟩ (.slice A_4 n_4 k_4)).setCell ⟨w4.heap.size + 1, 4, none⟩ (.int .i64 er)) (w4.heap.size + 1) #[.int .i64 er, .int .i64 er, .int .i64 er, .int .i64 er, .int .i64 er] 56) := ⟨put5_E HEu.out (by omega) rfl⟩
  have hsz : (((((u4.setCell ⟨w4.heap.size, 16, none⟩ (.int .i64 0)).setCell ⟨w4.heap.size, 17, none⟩ (.int .i64 0)).setCell ⟨w4.heap.size, 18, none⟩ (.int .i64 0)).setCell ⟨w4.heap.size, 19, none⟩ (.slice A_4 n_4 k_4)).setCell ⟨w4.heap.size + 1, 4, none⟩ (.int .i64 er)).heap.size = u4.heap.size := put5_size
  replace R0 : Aside0 (Row (((((u4.setCell ⟨w4.heap.size, 16, none⟩ (.int .i64 0)).setCell ⟨w4.heap.size, 17, none⟩ (.int .i64 0)).setCell ⟨w4.heap.size, 18, none⟩ (.int .i64 0)).setCell ⟨w4.heap.size, 19, none⟩ (.slice A_4 n_4 k_4)).setCell ⟨w4.heap.size + 1, 4, none⟩ (.int .i64 er)) _ _ (.slice A_0 n_0 k_0) ([] : List Int)) := ⟨put5_row R0.out (by have := HN0.out; have := HO0.out; have := HO1.out; have := HO2.out; have := HO3.out; have := HO4.out; omega) (by have := HN0.out; have := HO0.out; have := HO1.out; have := HO2.out; have := HO3.out; have := HO4.out; omega)⟩
  replace R1 : Aside0 (Row (((((u4.setCell ⟨w4.heap.size, 16, none⟩ (.int .i64 0)).setCell ⟨w4.heap.size, 17, none⟩ (.int .i64 0)).setCell ⟨w4.heap.size, 18, none⟩ (.int .i64 0)).setCell ⟨w4.heap.size, 19, none⟩ (.slice A_4 n_4 k_4)).setCell ⟨w4.heap.size + 1, 4, none⟩ (.int .i64 er)) _ _ (.slice A_1 n_1 k_1) ([] : List Int)) := ⟨put5_row R1.out (by have := HN0.out; have := HO0.out; have := HO1.out; have := HO2.out; have := HO3.out; have := HO4.out; omega) (by have := HN0.out; have := HO0.out; have := HO1.out; have := HO2.out; have := HO3.out; have := HO4.out; omega)⟩
  replace R2 : Aside0 (Row (((((u4.setCell ⟨w4.heap.size, 16, none⟩ (.int .i64 0)).setCell ⟨w4.heap.size, 17, none⟩ (.int .i64 0)).setCell ⟨w4.heap.size, 18, none⟩ (.int .i64 0)).setCell ⟨w4.heap.size, 19, none⟩ (.slice A_4 n_4 k_4)).setCell ⟨w4.heap.size + 1, 4, none⟩ (.int .i64 er)) _ _ (.slice A_2 n_2 k_2) ([] : List Int)) := ⟨put5_row R2.out (by have := HN0.out; have := HO0.out; have := HO1.out; have := HO2.out; have := HO3.out; have := HO4.out; omega) (by have := HN0.out; have := HO0.out; have := HO1.out; have := HO2.out; have := HO3.out; have := HO4.out; omega)⟩
  replace R3 : Aside0 (Row (((((u4.setCell ⟨w4.heap.size, 16, none⟩ (.int .i64 0)).setCell ⟨w4.heap.size, 17, none⟩ (.int .i64 0)).setCell ⟨w4.heap.size, 18, none⟩ (.int .i64 0)).setCell ⟨w4.heap.size, 19, none⟩ (.slice A_4 n_4 k_4)).setCell ⟨w4.heap.size + 1, 4, none⟩ (.int .i64 er)) _ _ (.slice A_3 n_3 k_3) ([] : List Int)) := ⟨put5_row R3.out (by have := HN0.out; have := HO0.out; have := HO1.out; have := HO2.out; have := HO3.out; have := HO4.out; omega) (by have := HN0.out; have := HO0.out; have := HO1.out; have := HO2.out; have := HO3.out; have := HO4.out; omega)⟩
  replace R4 : Aside0 (Row (((((u4.setCell ⟨w4.heap.size, 16, none⟩ (.int .i64 0)).setCell ⟨w4.heap.size, 17, none⟩ (.int .i64 0)).setCell ⟨w4.heap.size, 18, none⟩ (.int .i64 0)).setCell ⟨w4.heap.size, 19, none⟩ (.slice A_4 n_4 k_4)).setCell ⟨w4.heap.size + 1, 4, none⟩ (.int .i64 er)) _ _ (.slice A_4 n_4 k_4) ([] : List Int)) := ⟨put5_row R4.out (by have := HN0.out; have := HO0.out; have := HO1.out; have := HO2.out; have := HO3.out; have := HO4.out; omega) (by have := HN0.out; have := HO0.out; have := HO1.out; have := HO2.out; have := HO3.out; have := HO4.out; omega)⟩
  rw [← hsz] at R4 HO4
  clear hsz
  have H1_m4 := Aside0.mk (blk_below H1_4.out HS_m4.out)
  have x0 := blk_cell HAu.out 16
  have xf0 := blk_frozen HAu.out 16
  have x1 := blk_cell HAu.out 17
  have xf1 := blk_frozen HAu.out 17
  have x2 := blk_cell HAu.out 18
  have xf2 := blk_frozen HAu.out 18
  have x3 := blk_cell HAu.out 19
  have xf3 := blk_frozen HAu.out 19
  have y0 := blk_cell HEu.out 4
  have yf0 := blk_frozen HEu.out 4
  simp only [List.getElem?_toArray, List.getElem?_cons_zero, List.getElem?_cons_succ] at x0 x1 x2 x3 y0
  have b0 := blk_cell H1_m4.out 0
  have b1 := blk_cell H1_m4.out 1
  have b2 := blk_cell H1_m4.out 2
  have b3 := blk_cell H1_m4.out 3
  simp only [List.getElem?_toArray, List.getElem?_cons_zero, List.getElem?_cons_succ] at b0 b1 b2 b3
  have a0 := blk_cell (Aside0.mk (blk_below H0_4.out HS_m4.out)).out 0
  have a1 := blk_cell (Aside0.mk (blk_below H0_4.out HS_m4.out)).out 1
  have a2 := blk_cell (Aside0.mk (blk_below H0_4.out HS_m4.out)).out 2
  have a3 := blk_cell (Aside0.mk (blk_below H0_4.out HS_m4.out)).out 3
  simp only [List.getElem?_toArray, List.getElem?_cons_zero, List.getElem?_cons_succ] at a0 a1 a2 a3
  go_wp2_with fail
  generalize (((((u4.setCell ⟨w4.heap.size, 16, none⟩ (.int .i64 0)).setCell ⟨w4.heap.size, 17, none⟩ (.int .i64 0)).setCell ⟨w4.heap.size, 18, none⟩ (.int .i64 0)).setCell ⟨w4.heap.size, 19, none⟩ (.slice A_4 n_4 k_4)).setCell ⟨w4.heap.size + 1, 4, none⟩ (.int .i64 er)) = m4 at HS_m4 HA_m4 HE_m4 H1_m4 HO4 R0 R1 R2 R3 R4 ⊢
  clear HSu HAu HEu x0 x1 x2 x3 y0 xf0 xf1 xf2 xf3 yf0 b0 b1 b2 b3 H1_m4 a0 a1 a2 a3
  refine (stays_calls r c wd A A9 cA c9 l m4 (Kd.C_below HCM.out HS_m4.out) HH.out.2.1 (by have := HL.out; omega) (Kd.C_below HCF.out.2 HS_m4.out) HCF.out.1).mono ?_
  rintro e x1 ⟨rfl, hb⟩
  have HS_x1 := Aside0.mk (below_step HS_m4.out hb)
  have HA_x1 := Aside0.mk (blk_below HA_m4.out hb)
  have HE_x1 := Aside0.mk (blk_below HE_m4.out hb)
  have HZ1 : Aside0 (m4.heap.size ≤ x1.heap.size) := ⟨hb.size⟩
  replace R0 := Aside0.mk (row_below R0.out hb)
  replace R1 := Aside0.mk (row_below R1.out hb)
  replace R2 := Aside0.mk (row_below R2.out hb)
  replace R3 := Aside0.mk (row_below R3.out hb)
  replace R4 := Aside0.mk (row_below R4.out hb)
  clear hb HS_m4 HA_m4 HE_m4
  have a0 := blk_cell (Aside0.mk (blk_below H0_4.out HS_x1.out)).out 0
  have a1 := blk_cell (Aside0.mk (blk_below H0_4.out HS_x1.out)).out 1
  have a2 := blk_cell (Aside0.mk (blk_below H0_4.out HS_x1.out)).out 2
  have a3 := blk_cell (Aside0.mk (blk_below H0_4.out HS_x1.out)).out 3
  simp only [List.getElem?_toArray, List.getElem?_cons_zero, List.getElem?_cons_succ] at a0 a1 a2 a3
  go_wp2_with fail
  refine (pupilref7_Check.calls (2 * (l.length + 1)) r c wd A cA l er x1 (Kd.C_below HCM.out HS_x1.out) HH.out.2.1 (by rw [refCheck_eq _ r c wd l (by have := HL.out; omega) (by omega), HE_R.out.1])).mono ?_
  rintro e x2 ⟨rfl, hb⟩
  have HS_x2 := Aside0.mk (below_step HS_x1.out hb)
  have HA_x2 := Aside0.mk (blk_below HA_x1.out hb)
  have HE_x2 := Aside0.mk (blk_below HE_x1.out hb)
  have HN5 : Aside0 (m4.heap.size ≤ x2.heap.size) := ⟨Nat.le_trans HZ1.out hb.size⟩
  replace R0 := Aside0.mk (row_below R0.out hb)
  replace R1 := Aside0.mk (row_below R1.out hb)
  replace R2 := Aside0.mk (row_below R2.out hb)
  replace R3 := Aside0.mk (row_below R3.out hb)
  replace R4 := Aside0.mk (row_below R4.out hb)
  clear hb HS_x1 HA_x1 HE_x1 HZ1 a0 a1 a2 a3
  have hne2 : (er == 0) = false := by simpa using HE_R.out.2
  go_wp2
  obtain ⟨N5, hN5⟩ : ∃ N5, N5 = x2.heap.size := ⟨_, rfl⟩
  obtain ⟨wL, hwL⟩ : ∃ wL, wL = (x2.alloc (Obj.cells #[Value.int IntKind.i64 0, Value.int IntKind.i64 0, Value.int IntKind.i64 0, Value.slice none 0 0, Value.int IntKind.i64 0, Value.int IntKind.i64 0, Value.int IntKind.i64 0, Value.slice none 0 0, Value.int IntKind.i64 0, Value.int IntKind.i64 0, Value.int IntKind.i64 0, Value.slice none 0 0, Value.int IntKind.i64 0, Value.int IntKind.i64 0, Value.int IntKind.i64 0, Value.slice none 0 0, Value.int IntKind.i64 0, Value.int IntKind.i64 0, Value.int IntKind.i64 0, Value.slice none 0 0] 61)).alloc (Obj.cells #[Value.int IntKind.i64 0, Value.int IntKind.i64 0, Value.int IntKind.i64 0, Value.int IntKind.i64 0, Value.int IntKind.i64 0] 62) := ⟨_, rfl⟩
  have hb : Below x2.heap.size x2 wL := by rw [hwL]; exact below_alloc (below_alloc (Below.refl _ _) _) _
  have HV : Aside0 (IsB wL N5 #[.int .i64 0, .int .i64 0, .int .i64 0, .slice none 0 0, .int .i64 0, .int .i64 0, .int .i64 0, .slice none 0 0, .int .i64 0, .int .i64 0, .int .i64 0, .slice none 0 0, .int .i64 0, .int .i64 0, .int .i64 0, .slice none 0 0, .int .i64 0, .int .i64 0, .int .i64 0, .slice none 0 0] 61) := ⟨by rw [hwL, hN5]; exact blk_alloc (blk_new _ _) _⟩
  have HF : Aside0 (IsB wL (N5 + 1) #[.int .i64 0, .int .i64 0, .int .i64 0, .int .i64 0, .int .i64 0] 62) := ⟨by rw [hwL, hN5]; exact new1 x2 _ _ 61 62⟩
  have HC : Aside0 (Com w4 wL N5 #[.int .i64 0, .int .i64 0, .int .i64 0, .slice A_0 n_0 k_0, .int .i64 0, .int .i64 0, .int .i64 0, .slice A_1 n_1 k_1, .int .i64 0, .int .i64 0, .int .i64 0, .slice A_2 n_2 k_2, .int .i64 0, .int .i64 0, .int .i64 0, .slice A_3 n_3 k_3, .int .i64 0, .int .i64 0, .int .i64 0, .slice A_4 n_4 k_4] #[.int .i64 er, .int .i64 er, .int .i64 er, .int .i64 er, .int .i64 er] wL) := ⟨blk_below HA_x2.out hb, blk_below HE_x2.out hb, below_step HS_x2.out hb, Nat.le_refl _, fun k _ _ => rfl⟩
  have HNL_ : Aside0 (N5 < wL.heap.size) := ⟨by rw [hwL, hN5]; simp [World.size_alloc]; omega⟩
  replace R0 := Aside0.mk (row_below R0.out hb)
  replace R1 := Aside0.mk (row_below R1.out hb)
  replace R2 := Aside0.mk (row_below R2.out hb)
  replace R3 := Aside0.mk (row_below R3.out hb)
  replace R4 := Aside0.mk (row_below R4.out hb)
  rw [← hwL, ← hN5]
  rw [← hN5] at HN5
  clear hwL hb HS_x2 HA_x2 HE_x2 hN5
  obtain ⟨D, hD⟩ : ∃ D : Nat → MD, D = fun i => [MD.mk 0 0 0 er A_0 n_0 k_0 [] 0 0 0 0 none 0 0 w5.heap.size m0.heap.size, MD.mk 0 0 0 er A_1 n_1 k_1 [] 0 0 0 0 none 0 0 m0.heap.size m1.heap.size, MD.mk 0 0 0 er A_2 n_2 k_2 [] 0 0 0 0 none 0 0 m1.heap.size m2.heap.size, MD.mk 0 0 0 er A_3 n_3 k_3 [] 0 0 0 0 none 0 0 m2.heap.size m3.heap.size, MD.mk 0 0 0 er A_4 n_4 k_4 [] 0 0 0 0 none 0 0 m3.heap.size m4.heap.size].getD i (MD.mk 0 0 0 0 none 0 0 [] 0 0 0 0 none 0 0 0 0) := ⟨_, rfl⟩
  have HMS : Aside0 (MSet D w4 wL N5 #[.int .i64 0, .int .i64 0, .int .i64 0, .slice A_0 n_0 k_0, .int .i64 0, .int .i64 0, .int .i64 0, .slice A_1 n_1 k_1, .int .i64 0, .int .i64 0, .int .i64 0, .slice A_2 n_2 k_2, .int .i64 0, .int .i64 0, .int .i64 0, .slice A_3 n_3 k_3, .int .i64 0, .int .i64 0, .int .i64 0, .slice A_4 n_4 k_4] #[.int .i64 er, .int .i64 er, .int .i64 er, .int .i64 er, .int .i64 er] (.agg #[.int .i64 r, .int .i64 c, .int .i64 wd, .slice A l.length cA])) := ⟨by
    subst hD
    refine ⟨fun W h => arr_cells _ _ _ (fun i => .slice _ _ _) h, fun W h => row_cells _ h, fun W h => arr_cells _ _ _ (fun i => .slice _ _ _) (com_V h HV.out (Nat.le_refl _)), fun W h => row_cells _ (com_V h HF.out (Nat.le_succ _)), ?_, ?_, ?_, ?_⟩
    · intro i hi W hB _
      rcases i with _ | _ | _ | _ | _ | i
      iterate 5 exact lm_badC r c wd A cA l 0 0 0 0 none 0 [] W (Kd.C_below HCM.out hB) HH.out.2.1 (by have := HL.out; omega) er HE_R.out
      omega
    · intro j hj
      rcases j with _ | _ | _ | _ | _ | j
      iterate 5 exact ⟨by have := HN0.out; have := HO0.out; have := HO1.out; have := HO2.out; have := HO3.out; have := HO4.out; have := HN5.out; simp only [Nat.zero_add, Nat.reduceAdd, List.getD_cons_zero, List.getD_cons_succ]; omega, by have := HN0.out; have := HO0.out; have := HO1.out; have := HO2.out; have := HO3.out; have := HO4.out; have := HN5.out; simp only [Nat.zero_add, Nat.reduceAdd, List.getD_cons_zero, List.getD_cons_succ]; omega, by first | exact HNL0.out | exact HNL1.out | exact HNL2.out | exact HNL3.out | exact HNL4.out, by show ([] : List Int).length ≤ 100000; simp⟩
      omega
    · intro i j hij hj
      have := HN0.out
      have := HO0.out
      have := HO1.out
      have := HO2.out
      have := HO3.out
      have := HO4.out
      have := HN5.out
      rcases j with _ | _ | _ | _ | _ | j <;> rcases i with _ | _ | _ | _ | _ | i <;> first | omega | (simp only [Nat.zero_add, Nat.reduceAdd, List.getD_cons_zero, List.getD_cons_succ]; omega)
    · have h1 := HNL_.out
      have := HN0.out
      have := HO0.out
      have := HO1.out
      have := HO2.out
      have := HO3.out
      have := HO4.out
      have := HN5.out
      exact ⟨h1, by omega⟩⟩
  have HRW0 : Aside0 (MRows D 0 wL) := ⟨by
    subst hD
    intro j h1 h2
    rcases j with _ | _ | _ | _ | _ | j
    · exact R0.out
    · exact R1.out
    · exact R2.out
    · exact R3.out
    · exact R4.out
    · omega⟩
  clear hD
  generalize (#[.int .i64 0, .int .i64 0, .int .i64 0, .slice A_0 n_0 k_0, .int .i64 0, .int .i64 0, .int .i64 0, .slice A_1 n_1 k_1, .int .i64 0, .int .i64 0, .int .i64 0, .slice A_2 n_2 k_2, .int .i64 0, .int .i64 0, .int .i64 0, .slice A_3 n_3 k_3, .int .i64 0, .int .i64 0, .int .i64 0, .slice A_4 n_4 k_4] : Array Value) = ga at HMS HC
  generalize (#[.int .i64 er, .int .i64 er, .int .i64 er, .int .i64 er, .int .i64 er] : Array Value) = ge at HMS HC
  go_loopg [16] 5 (fun kq vo w_ => ∃ i : Nat, vo = .int .i64 i ∧ Aside0 (i + kq = 5) ∧ Aside0 (MRows D i w_) ∧ Aside0 (Com w4 wL N5 ga ge w_))
  case atStart => exact ⟨0, rfl, ⟨by omega⟩, HRW0, HC⟩
  case round =>
    clear HRW0 HC
    obtain ⟨i, rfl, HKK, HRW, HC⟩ := hrel
    by_cases hlt : i < 5
    · have d1 : decide ((i : Int) < 5) = true := decide_eq_true (by omega)
      have di := eq_true (show (i : Int) < 5 by omega)
      have di2 := eq_true hlt
      have HMV := Aside0.mk (HMS.out.calls i hlt)
      have HMVC : Aside0 (∀ W, Com w4 wL N5 ga ge W → _) := ⟨fun W h => HMS.out.mov W h i hlt⟩
      have HMFC : Aside0 (∀ W, Com w4 wL N5 ga ge W → _) := ⟨fun W h => HMS.out.fal W h i hlt⟩
      have HMGC : Aside0 (∀ W, IsB W w4.heap.size ga 55 → _) := ⟨fun W h => HMS.out.got W h i hlt⟩
      have HMEC : Aside0 (∀ W, IsB W (w4.heap.size + 1) ge 56 → _) := ⟨fun W h => HMS.out.err W h i hlt⟩
      have HROW : Aside0 (∀ W, MRows D i W → Row W (D i).lo (D i).hi (.slice (D i).A (D i).n (D i).k) (D i).L) := ⟨fun W h => h i (Nat.le_refl _) hlt⟩
      have HMK := Aside0.mk (And.intro (HMS.out.mark i hlt).1 (And.intro (HMS.out.mark i hlt).2.1 (HMS.out.mark i hlt).2.2.2))
      have HNLL := Aside0.mk (HMS.out.mark i hlt).2.2.1
      have HMH : Aside0 (∀ j, i + 1 ≤ j → j < 5 → (D i).hi ≤ (D j).lo) := ⟨fun j h1 h2 => HMS.out.apart i j h1 h2⟩
      generalize D i = Di at HMV HMVC HMFC HMGC HMEC HROW HMK HNLL HMH
      obtain ⟨p_, q_, s_, e_, A_, n_, k_, L_, a_, b_, d_, f_, B_, x_, y_, lo_, hi_⟩ := Di
      dsimp only at HMV HMVC HMFC HMGC HMEC HROW HMK HNLL HMH
      have HMI := Aside0.mk (blk_below H0_4.out HC.out.2.2.1)
      obtain ⟨v0_, v1_, v2_, v3_⟩ := HMVC.out _ HC.out
      have f0_ := HMFC.out _ HC.out
      have a0 := blk_cell HMI.out 0
      have a1 := blk_cell HMI.out 1
      have a2 := blk_cell HMI.out 2
      have a3 := blk_cell HMI.out 3
      simp only [List.getElem?_toArray, List.getElem?_cons_zero, List.getElem?_cons_succ] at a0 a1 a2 a3
      go_wp2
      refine start_ (n := 14) (S := fun w' => w'.cell? ⟨w.heap.size, 0, none⟩ = some (.int .i64 r) ∧ w'.cell? ⟨w.heap.size, 1, none⟩ = some (.int .i64 c) ∧ w'.cell? ⟨w.heap.size, 2, none⟩ = some (.int .i64 wd) ∧ w'.cell? ⟨w.heap.size, 3, none⟩ = some (.slice A l.length cA) ∧ w'.cell? ⟨N5, i * 4, none⟩ = some (.int .i64 a_) ∧ w'.cell? ⟨N5, i * 4 + 1, none⟩ = some (.int .i64 b_) ∧ w'.cell? ⟨N5, i * 4 + 2, none⟩ = some (.int .i64 d_) ∧ w'.cell? ⟨N5, i * 4 + 3, none⟩ = some (.slice B_ x_ y_) ∧ w'.cell? ⟨N5 + 1, i, none⟩ = some (.int .i64 f_)) (ds := [12]) #[false, false, false, false, false, false, false, false, false, false, false, false, false, false] (by kernel_rfl) rfl rfl ⟨a0, a1, a2, a3, v0_, v1_, v2_, v3_, f0_⟩ (fun hHeld => ?_)
      refine with_tabW F7Rtab28 F7Rbits28 (fun HT_ HW_ => ?_)
      refine pure_ (i := 1) (N := some 134) (v := ?_) (a' := ?_) #[false, true, false, false, false, false, false, false, false, false, false, false, false, false] rfl rfl (any_of HT_.out (by kernel_rfl)) (fun _ _ _ h => h) (Or.inl ⟨by rfl, ?_⟩) ?_ ?_
      rotate_left
      · intro w'
        go_simp
        with_reducible rfl
      rotate_left
      · simp only [Act.put, List.setIfInBounds_toArray, List.set_cons_zero, List.set_cons_succ, i64_w, i32_w]
        rfl
      refine pure_ (i := 2) (N := some 135) (v := ?_) (a' := ?_) #[false, true, true, false, false, false, false, false, false, false, false, false, false, false] rfl rfl (any_of HT_.out (by kernel_rfl)) (fun _ _ _ h => h) (Or.inl ⟨by rfl, ?_⟩) ?_ ?_
      rotate_left
      · intro w'
        go_simp
        with_reducible rfl
      rotate_left
      · simp only [Act.put, List.setIfInBounds_toArray, List.set_cons_zero, List.set_cons_succ, i64_w, i32_w]
        rfl
      refine pure_ (i := 4) (N := some 137) (v := ?_) (a' := ?_) #[false, true, true, false, true, false, false, false, false, false, false, false, false, false] rfl rfl (any_of HT_.out (by kernel_rfl)) (fun _ _ _ h => h) (Or.inl ⟨by rfl, ?_⟩) ?_ ?_
      rotate_left
      · intro w'
        go_simp
        with_reducible rfl
      rotate_left
      · simp only [Act.put, List.setIfInBounds_toArray, List.set_cons_zero, List.set_cons_succ, i64_w, i32_w]
        rfl
      refine pure_ (i := 5) (N := some 138) (v := ?_) (a' := ?_) #[false, true, true, false, true, true, false, false, false, false, false, false, false, false] rfl rfl (any_of HT_.out (by kernel_rfl)) (fun _ _ _ h => h) (Or.inl ⟨by rfl, ?_⟩) ?_ ?_
      rotate_left
      · intro w'
        go_simp
        with_reducible rfl
      rotate_left
      · simp only [Act.put, List.setIfInBounds_toArray, List.set_cons_zero, List.set_cons_succ, i64_w, i32_w]
        rfl
      refine take_ (i := 0) (N := some 133) (v := ?_) (a' := ?_) #[true, true, true, false, true, true, false, false, false, false, false, false, false, false] rfl rfl (take_ofW HT_.out HW_.out (by kernel_rfl)) (fun _ _ _ h => h) (Or.inl ⟨by rfl, ?_⟩) hHeld ?_ ?_
      rotate_left
      · rintro w' ⟨s0, s1, s2, s3, s4, s5, s6, s7, s8⟩
        go_simp
        with_reducible rfl
      rotate_left
      · simp only [Act.put, List.setIfInBounds_toArray, List.set_cons_zero, List.set_cons_succ, i64_w, i32_w]
        rfl
      refine take_ (i := 3) (N := some 136) (v := ?_) (a' := ?_) #[true, true, true, true, true, true, false, false, false, false, false, false, false, false] rfl rfl (take_ofW HT_.out HW_.out (by kernel_rfl)) (fun _ _ _ h => h) (Or.inl ⟨by rfl, ?_⟩) hHeld ?_ ?_
      rotate_left
      · rintro w' ⟨s0, s1, s2, s3, s4, s5, s6, s7, s8⟩
        go_simp
        with_reducible rfl
      rotate_left
      · simp only [Act.put, List.setIfInBounds_toArray, List.set_cons_zero, List.set_cons_succ, i64_w, i32_w]
        rfl
      refine take_ (i := 6) (N := some 139) (v := ?_) (a' := ?_) #[true, true, true, true, true, true, true, false, false, false, false, false, false, false] rfl rfl (take_ofW HT_.out HW_.out (by kernel_rfl)) (fun _ _ _ h => h) (Or.inl ⟨by rfl, ?_⟩) hHeld ?_ ?_
      rotate_left
      · rintro w' ⟨s0, s1, s2, s3, s4, s5, s6, s7, s8⟩
        go_simp
        with_reducible rfl
      rotate_left
      · simp only [Act.put, List.setIfInBounds_toArray, List.set_cons_zero, List.set_cons_succ, i64_w, i32_w]
        rfl
      refine join_ (σ := Value × Nat) 2 #[true, true, true, true, true, true, true, true, true, true, true, true, false, false] (fun t_ => [(140, .tuple #[.agg #[.int .i64 p_, .int .i64 q_, .int .i64 s_, t_.1], .int .i64 e_]), (17, .pointer (some ⟨t_.2, 0, none⟩)), (132, .tuple #[.agg #[.int .i64 p_, .int .i64 q_, .int .i64 s_, t_.1], .int .i64 e_]), (141, .agg #[.int .i64 p_, .int .i64 q_, .int .i64 s_, t_.1]), (142, .int .i64 e_)]) (fun t_ w' => (w'.cell? ⟨w.heap.size, 0, none⟩ = some (.int .i64 r) ∧ w'.cell? ⟨w.heap.size, 1, none⟩ = some (.int .i64 c) ∧ w'.cell? ⟨w.heap.size, 2, none⟩ = some (.int .i64 wd) ∧ w'.cell? ⟨w.heap.size, 3, none⟩ = some (.slice A l.length cA) ∧ w'.cell? ⟨N5, i * 4, none⟩ = some (.int .i64 a_) ∧ w'.cell? ⟨N5, i * 4 + 1, none⟩ = some (.int .i64 b_) ∧ w'.cell? ⟨N5, i * 4 + 2, none⟩ = some (.int .i64 d_) ∧ w'.cell? ⟨N5, i * 4 + 3, none⟩ = some (.slice B_ x_ y_) ∧ w'.cell? ⟨N5 + 1, i, none⟩ = some (.int .i64 f_)) ∧ Com w4 wL N5 ga ge w' ∧ Below wr.heap.size wr w' ∧ IsB w' t_.2 (row4 0 0 0 (.slice none 0 0)) 25 ∧ Ints wr w' t_.1 L_ ∧ wr.heap.size ≤ t_.2) ?_ ?_
      rotate_left
      · intro hCont
        refine two_ (i := 7) (j := 11) (Ni := some 140) (Nj := some 17) #[true, true, true, true, true, true, true, true, false, false, false, false, false, false] #[true, true, true, true, true, true, true, false, false, false, false, true, false, false] rfl rfl rfl rfl (two_of HT_.out (by kernel_rfl)) (by decide) (by decide) (fun K hK => ?_) (fun K hK => ?_)
        · skip
          refine goes_ Try.func42 (by kernel_rfl) rfl #[.agg #[.int .i64 r, .int .i64 c, .int .i64 wd, .slice A l.length cA], .agg #[.int .i64 a_, .int .i64 b_, .int .i64 d_, .slice B_ x_ y_], .int .i64 f_] (by rfl) rfl rfl (by simp only [List.map_toArray, List.map_cons, List.map_nil]; rfl) ?_
          refine (HMV.out _ (Below.drew HC.out.2.2.1) (fun k h1 h2 => HC.out.2.2.2.2 k h1 h2)).mono ?_
          rintro e z1 ⟨v, rfl, hP, hb⟩
          refine ⟨_, rfl, ?_⟩
          have hbz : Below wr.heap.size wr z1 := below_step (Below.drew (Below.refl _ _)) hb
          have HC1 := Aside0.mk (com_below HC.out hbz)
          have HMI1 := Aside0.mk (blk_below H0_4.out HC1.out.2.2.1)
          have a0 := blk_cell HMI1.out 0
          have a1 := blk_cell HMI1.out 1
          have a2 := blk_cell HMI1.out 2
          have a3 := blk_cell HMI1.out 3
          simp only [List.getElem?_toArray, List.getElem?_cons_zero, List.getElem?_cons_succ] at a0 a1 a2 a3
          obtain ⟨v0_, v1_, v2_, v3_⟩ := HMVC.out _ HC1.out
          have f0_ := HMFC.out _ HC1.out
          refine hK.out _ _ ⟨a0, a1, a2, a3, v0_, v1_, v2_, v3_, f0_⟩ (fun hHeld => ?_)
          clear hK K
          refine norm_ (a' := ?_) ?_ ?_
          rotate_left
          · show Act.put _ (some 140) _ = _
            simp only [Act.put, List.setIfInBounds_toArray, List.set_cons_zero, List.set_cons_succ, i64_w, i32_w]
            rfl
          refine pure_ (i := 8) (N := some 132) (v := ?_) (a' := ?_) #[true, true, true, true, true, true, true, true, true, false, false, false, false, false] rfl rfl (any_of HT_.out (by kernel_rfl)) (fun _ _ _ h => h) (Or.inl ⟨by rfl, ?_⟩) ?_ ?_
          rotate_left
          · intro w'
            go_simp
            with_reducible rfl
          rotate_left
          · simp only [Act.put, List.setIfInBounds_toArray, List.set_cons_zero, List.set_cons_succ, i64_w, i32_w]
            rfl
          refine pure_ (i := 9) (N := some 141) (v := ?_) (a' := ?_) #[true, true, true, true, true, true, true, true, true, true, false, false, false, false] rfl rfl (any_of HT_.out (by kernel_rfl)) (fun _ _ _ h => h) (Or.inl ⟨by rfl, ?_⟩) ?_ ?_
          rotate_left
          · intro w'
            go_simp
            with_reducible rfl
          rotate_left
          · simp only [Act.put, List.setIfInBounds_toArray, List.set_cons_zero, List.set_cons_succ, i64_w, i32_w]
            rfl
          refine pure_ (i := 10) (N := some 142) (v := ?_) (a' := ?_) #[true, true, true, true, true, true, true, true, true, true, true, false, false, false] rfl rfl (any_of HT_.out (by kernel_rfl)) (fun _ _ _ h => h) (Or.inl ⟨by rfl, ?_⟩) ?_ ?_
          rotate_left
          · intro w'
            go_simp
            with_reducible rfl
          rotate_left
          · simp only [Act.put, List.setIfInBounds_toArray, List.set_cons_zero, List.set_cons_succ, i64_w, i32_w]
            rfl
          refine one_ (i := 11) (N := some 17) #[true, true, true, true, true, true, true, true, true, true, true, true, false, false] rfl rfl (one_of HT_.out (by kernel_rfl)) (by decide) (fun K hK => ?_)
          refine value_ (w1 := ?_) (v := ?_) (by rfl) rfl ?_ ?_
          rotate_left 2
          · go_simp
            constructor
            · rfl
            · rfl
          have HC1a := Aside0.mk (com_below HC1.out (below_alloc (Below.refl _ _) (Obj.cells (row4 0 0 0 (.slice none 0 0)) 25)))
          have HMI1 := Aside0.mk (blk_below H0_4.out HC1a.out.2.2.1)
          have a0 := blk_cell HMI1.out 0
          have a1 := blk_cell HMI1.out 1
          have a2 := blk_cell HMI1.out 2
          have a3 := blk_cell HMI1.out 3
          simp only [List.getElem?_toArray, List.getElem?_cons_zero, List.getElem?_cons_succ] at a0 a1 a2 a3
          obtain ⟨v0_, v1_, v2_, v3_⟩ := HMVC.out _ HC1a.out
          have f0_ := HMFC.out _ HC1a.out
          refine hK.out _ _ ⟨a0, a1, a2, a3, v0_, v1_, v2_, v3_, f0_⟩ (fun hHeld => ?_)
          clear hK K
          refine norm_ (a' := ?_) ?_ ?_
          rotate_left
          · show Act.put _ (some 17) _ = _
            simp only [Act.put, List.setIfInBounds_toArray, List.set_cons_zero, List.set_cons_succ, i64_w, i32_w]
            rfl
          exact norm_ (by simp only [putAll, Act.put, List.setIfInBounds_toArray, List.set_cons_zero, List.set_cons_succ]) (hCont (v, z1.heap.size) _ ⟨hHeld, HC1a.out, below_alloc hbz _, blk_new _ _, Kd.R_alloc hP _, hbz.size⟩)
        · skip
          refine value_ (w1 := ?_) (v := ?_) (by rfl) rfl ?_ ?_
          rotate_left 2
          · go_simp
            constructor
            · rfl
            · rfl
          have HC1 := Aside0.mk (com_below HC.out (show Below wr.heap.size wr (wr.drew.alloc (Obj.cells (row4 0 0 0 (.slice none 0 0)) 25)) from below_alloc (Below.drew (Below.refl _ _)) _))
          have HMI1 := Aside0.mk (blk_below H0_4.out HC1.out.2.2.1)
          have a0 := blk_cell HMI1.out 0
          have a1 := blk_cell HMI1.out 1
          have a2 := blk_cell HMI1.out 2
          have a3 := blk_cell HMI1.out 3
          simp only [List.getElem?_toArray, List.getElem?_cons_zero, List.getElem?_cons_succ] at a0 a1 a2 a3
          obtain ⟨v0_, v1_, v2_, v3_⟩ := HMVC.out _ HC1.out
          have f0_ := HMFC.out _ HC1.out
          refine hK.out _ _ ⟨a0, a1, a2, a3, v0_, v1_, v2_, v3_, f0_⟩ (fun hHeld => ?_)
          clear hK K
          refine norm_ (a' := ?_) ?_ ?_
          rotate_left
          · show Act.put _ (some 17) _ = _
            simp only [Act.put, List.setIfInBounds_toArray, List.set_cons_zero, List.set_cons_succ, i64_w, i32_w]
            rfl
          refine one_ (i := 7) (N := some 140) #[true, true, true, true, true, true, true, true, false, false, false, true, false, false] rfl rfl (one_of HT_.out (by kernel_rfl)) (by decide) (fun K hK => ?_)
          refine goes_ Try.func42 (by kernel_rfl) rfl #[.agg #[.int .i64 r, .int .i64 c, .int .i64 wd, .slice A l.length cA], .agg #[.int .i64 a_, .int .i64 b_, .int .i64 d_, .slice B_ x_ y_], .int .i64 f_] (by rfl) rfl rfl (by simp only [List.map_toArray, List.map_cons, List.map_nil]; rfl) ?_
          refine (HMV.out (wr.drew.alloc (Obj.cells (row4 0 0 0 (.slice none 0 0)) 25)) HC1.out.2.2.1 (fun k h1 h2 => HC1.out.2.2.2.2 k h1 h2)).mono ?_
          rintro e z1 ⟨v, rfl, hP, hb⟩
          refine ⟨_, rfl, ?_⟩
          have HC1a := Aside0.mk (com_below HC1.out hb)
          have HMI1 := Aside0.mk (blk_below H0_4.out HC1a.out.2.2.1)
          have a0 := blk_cell HMI1.out 0
          have a1 := blk_cell HMI1.out 1
          have a2 := blk_cell HMI1.out 2
          have a3 := blk_cell HMI1.out 3
          simp only [List.getElem?_toArray, List.getElem?_cons_zero, List.getElem?_cons_succ] at a0 a1 a2 a3
          obtain ⟨v0_, v1_, v2_, v3_⟩ := HMVC.out _ HC1a.out
          have f0_ := HMFC.out _ HC1a.out
          refine hK.out _ _ ⟨a0, a1, a2, a3, v0_, v1_, v2_, v3_, f0_⟩ (fun hHeld => ?_)
          clear hK K
          refine norm_ (a' := ?_) ?_ ?_
          rotate_left
          · show Act.put _ (some 140) _ = _
            simp only [Act.put, List.setIfInBounds_toArray, List.set_cons_zero, List.set_cons_succ, i64_w, i32_w]
            rfl
          refine pure_ (i := 8) (N := some 132) (v := ?_) (a' := ?_) #[true, true, true, true, true, true, true, true, true, false, false, true, false, false] rfl rfl (any_of HT_.out (by kernel_rfl)) (fun _ _ _ h => h) (Or.inl ⟨by rfl, ?_⟩) ?_ ?_
          rotate_left
          · intro w'
            go_simp
            with_reducible rfl
          rotate_left
          · simp only [Act.put, List.setIfInBounds_toArray, List.set_cons_zero, List.set_cons_succ, i64_w, i32_w]
            rfl
          refine pure_ (i := 9) (N := some 141) (v := ?_) (a' := ?_) #[true, true, true, true, true, true, true, true, true, true, false, true, false, false] rfl rfl (any_of HT_.out (by kernel_rfl)) (fun _ _ _ h => h) (Or.inl ⟨by rfl, ?_⟩) ?_ ?_
          rotate_left
          · intro w'
            go_simp
            with_reducible rfl
          rotate_left
          · simp only [Act.put, List.setIfInBounds_toArray, List.set_cons_zero, List.set_cons_succ, i64_w, i32_w]
            rfl
          refine pure_ (i := 10) (N := some 142) (v := ?_) (a' := ?_) #[true, true, true, true, true, true, true, true, true, true, true, true, false, false] rfl rfl (any_of HT_.out (by kernel_rfl)) (fun _ _ _ h => h) (Or.inl ⟨by rfl, ?_⟩) ?_ ?_
          rotate_left
          · intro w'
            go_simp
            with_reducible rfl
          rotate_left
          · simp only [Act.put, List.setIfInBounds_toArray, List.set_cons_zero, List.set_cons_succ, i64_w, i32_w]
            rfl
          exact norm_ (by simp only [putAll, Act.put, List.setIfInBounds_toArray, List.set_cons_zero, List.set_cons_succ]) (hCont (v, wr.heap.size) _ ⟨hHeld, HC1a.out, below_step (below_alloc (Below.drew (Below.refl _ _)) _) hb, blk_below (blk_new wr.drew _) hb, Kd.R_lower hP (by show wr.heap.size ≤ (wr.drew.alloc _).heap.size; rw [World.size_alloc]; exact Nat.le_succ _), Nat.le_refl _⟩)
      rintro ⟨v, gw⟩ z2 ⟨hS_, hC2, hZ2, hI2, hP2, hge⟩
      have HC2 := Aside0.mk hC2
      have HZ2 := Aside0.mk hZ2
      have HI2 := Aside0.mk hI2
      have HGE := Aside0.mk hge
      obtain ⟨AW, kW, hv, hleW, hCW⟩ := Kd.R_reads hP2
      rw [← HNLL.out] at hv
      subst hv
      have HP2 := Aside0.mk hP2
      have HW := Aside0.mk (And.intro hleW hCW)
      have o0 := blk_cell hI2 0
      have o1 := blk_cell hI2 1
      have o2 := blk_cell hI2 2
      have o3 := blk_cell hI2 3
      simp only [List.getElem?_toArray, List.getElem?_cons_zero, List.getElem?_cons_succ] at o0 o1 o2 o3
      have of0 := blk_frozen hI2 0
      have of1 := blk_frozen hI2 1
      have of2 := blk_frozen hI2 2
      have of3 := blk_frozen hI2 3
      have hHeld : z2.cell? ⟨w.heap.size, 0, none⟩ = some (.int .i64 r) ∧ z2.cell? ⟨w.heap.size, 1, none⟩ = some (.int .i64 c) ∧ z2.cell? ⟨w.heap.size, 2, none⟩ = some (.int .i64 wd) ∧ z2.cell? ⟨w.heap.size, 3, none⟩ = some (.slice A l.length cA) ∧ z2.cell? ⟨N5, i * 4, none⟩ = some (.int .i64 a_) ∧ z2.cell? ⟨N5, i * 4 + 1, none⟩ = some (.int .i64 b_) ∧ z2.cell? ⟨N5, i * 4 + 2, none⟩ = some (.int .i64 d_) ∧ z2.cell? ⟨N5, i * 4 + 3, none⟩ = some (.slice B_ x_ y_) ∧ z2.cell? ⟨N5 + 1, i, none⟩ = some (.int .i64 f_) := hS_
      clear hC2 hZ2 hI2 hP2 hge hleW hCW
      refine norm_ (a' := ?_) ?_ ?_
      rotate_left
      · simp only [putAll, Act.put, List.setIfInBounds_toArray, List.set_cons_zero, List.set_cons_succ]
        rfl
      refine last_ (i := 12) (N := none) #[true, true, true, true, true, true, true, true, true, true, true, true, true, false] rfl rfl (one_of HT_.out (by kernel_rfl)) (by decide) (fun K hK => ?_)
      refine skip_ (w1 := ?_) (by rfl) rfl ?_ ?_
      rotate_left
      · go_simp
        rfl
      refine hK.out _ _ ?_
      clear hK K
      refine pure_ (i := 13) (N := some 18) (v := ?_) (a' := ?_) #[true, true, true, true, true, true, true, true, true, true, true, true, true, true] rfl rfl (any_of HT_.out (by kernel_rfl)) (fun _ _ _ h => h) (Or.inl ⟨by rfl, ?_⟩) ?_ ?_
      rotate_left
      · intro w'
        go_simp
        with_reducible rfl
      rotate_left
      · simp only [Act.put, List.setIfInBounds_toArray, List.set_cons_zero, List.set_cons_succ, i64_w, i32_w]
        rfl
      refine done_ (done_of HT_.out (by kernel_rfl)) ?_
      have HGW : Aside0 (wL.heap.size ≤ gw ∧ w4.heap.size + 1 < gw ∧ N5 < gw) := ⟨by have h1 := HGE.out; have h2 := HC.out.2.2.2.1; have h3 := HMS.out.room; omega⟩
      have HC3 : Aside0 (Com w4 wL N5 ga ge ((((z2.setCell ⟨gw, 0, none⟩ (.int .i64 p_)).setCell ⟨gw, 1, none⟩ (.int .i64 q_)).setCell ⟨gw, 2, none⟩ (.int .i64 s_)).setCell ⟨gw, 3, none⟩ (.slice AW n_ kW))) := ⟨com_set4 HC2.out HGW.out.1 HGW.out.2.1⟩
      have HI3 : Aside0 (IsB ((((z2.setCell ⟨gw, 0, none⟩ (.int .i64 p_)).setCell ⟨gw, 1, none⟩ (.int .i64 q_)).setCell ⟨gw, 2, none⟩ (.int .i64 s_)).setCell ⟨gw, 3, none⟩ (.slice AW n_ kW)) gw (row4 p_ q_ s_ (.slice AW n_ kW)) 25) := ⟨isB_set4 HI2.out _ _ _ _⟩
      have HP3 : Aside0 (Ints wr ((((z2.setCell ⟨gw, 0, none⟩ (.int .i64 p_)).setCell ⟨gw, 1, none⟩ (.int .i64 q_)).setCell ⟨gw, 2, none⟩ (.int .i64 s_)).setCell ⟨gw, 3, none⟩ (.slice AW n_ kW)) (.slice AW n_ kW) L_) := ⟨R_set4 HP2.out HI2.out (by decide) _ _ _ _⟩
      have HRW3 : Aside0 (MRows D i ((((z2.setCell ⟨gw, 0, none⟩ (.int .i64 p_)).setCell ⟨gw, 1, none⟩ (.int .i64 q_)).setCell ⟨gw, 2, none⟩ (.int .i64 s_)).setCell ⟨gw, 3, none⟩ (.slice AW n_ kW))) := ⟨fun j h1 h2 => row_set4 (row_below (HRW.out j h1 h2) HZ2.out) (by have := (HMS.out.mark j h2).2.1; have := HGW.out; omega)⟩
      clear hHeld o0 o1 o2 o3 of0 of1 of2 of3 a0 a1 a2 a3 v0_ v1_ v2_ v3_ f0_
      generalize ((((z2.setCell ⟨gw, 0, none⟩ (.int .i64 p_)).setCell ⟨gw, 1, none⟩ (.int .i64 q_)).setCell ⟨gw, 2, none⟩ (.int .i64 s_)).setCell ⟨gw, 3, none⟩ (.slice AW n_ kW)) = z3 at HC3 HI3 HP3 HRW3 ⊢
      obtain ⟨g0, g1, g2, g3⟩ := HMGC.out _ HC3.out.1
      have w0_ := HMEC.out _ HC3.out.2.1
      have o0 := blk_cell HI3.out 0
      have o1 := blk_cell HI3.out 1
      have o2 := blk_cell HI3.out 2
      have o3 := blk_cell HI3.out 3
      simp only [List.getElem?_toArray, List.getElem?_cons_zero, List.getElem?_cons_succ] at o0 o1 o2 o3
      go_wp2
      refine start_ (n := 14) (S := fun w' => w'.cell? ⟨w4.heap.size + 1, i, none⟩ = some (.int .i64 e_) ∧ w'.cell? ⟨w4.heap.size, i * 4, none⟩ = some (.int .i64 p_) ∧ w'.cell? ⟨w4.heap.size, i * 4 + 1, none⟩ = some (.int .i64 q_) ∧ w'.cell? ⟨w4.heap.size, i * 4 + 2, none⟩ = some (.int .i64 s_) ∧ w'.cell? ⟨w4.heap.size, i * 4 + 3, none⟩ = some (.slice A_ n_ k_) ∧ w'.cell? ⟨gw, 0, none⟩ = some (.int .i64 p_) ∧ w'.cell? ⟨gw, 1, none⟩ = some (.int .i64 q_) ∧ w'.cell? ⟨gw, 2, none⟩ = some (.int .i64 s_) ∧ w'.cell? ⟨gw, 3, none⟩ = some (.slice AW n_ kW)) (ds := []) #[false, false, false, false, false, false, false, false, false, false, false, false, false, false] (by kernel_rfl) rfl rfl ⟨w0_, g0, g1, g2, g3, o0, o1, o2, o3⟩ (fun hHeld => ?_)
      refine with_tabW F7Rtab29 F7Rbits29 (fun HT_ HW_ => ?_)
      refine pure_ (i := 0) (N := some 143) (v := ?_) (a' := ?_) #[true, false, false, false, false, false, false, false, false, false, false, false, false, false] rfl rfl (any_of HT_.out (by kernel_rfl)) (fun _ _ _ h => h) (Or.inl ⟨by rfl, ?_⟩) ?_ ?_
      rotate_left
      · intro w'
        go_simp
        with_reducible rfl
      rotate_left
      · simp only [Act.put, List.setIfInBounds_toArray, List.set_cons_zero, List.set_cons_succ, i64_w, i32_w]
        rfl
      refine pure_ (i := 1) (N := some 144) (v := ?_) (a' := ?_) #[true, true, false, false, false, false, false, false, false, false, false, false, false, false] rfl rfl (any_of HT_.out (by kernel_rfl)) (fun _ _ _ h => h) (Or.inl ⟨by rfl, ?_⟩) ?_ ?_
      rotate_left
      · intro w'
        go_simp
        with_reducible rfl
      rotate_left
      · simp only [Act.put, List.setIfInBounds_toArray, List.set_cons_zero, List.set_cons_succ, i64_w, i32_w]
        rfl
      refine pure_ (i := 4) (N := some 147) (v := ?_) (a' := ?_) #[true, true, false, false, true, false, false, false, false, false, false, false, false, false] rfl rfl (any_of HT_.out (by kernel_rfl)) (fun _ _ _ h => h) (Or.inl ⟨by rfl, ?_⟩) ?_ ?_
      rotate_left
      · intro w'
        go_simp
        with_reducible rfl
      rotate_left
      · simp only [Act.put, List.setIfInBounds_toArray, List.set_cons_zero, List.set_cons_succ, i64_w, i32_w]
        rfl
      refine take_ (i := 2) (N := some 145) (v := ?_) (a' := ?_) #[true, true, true, false, true, false, false, false, false, false, false, false, false, false] rfl rfl (take_ofW HT_.out HW_.out (by kernel_rfl)) (fun _ _ _ h => h) (Or.inl ⟨by rfl, ?_⟩) hHeld ?_ ?_
      rotate_left
      · rintro w' ⟨s0, s1, s2, s3, s4, s5, s6, s7, s8⟩
        go_simp
        with_reducible rfl
      rotate_left
      · simp only [Act.put, List.setIfInBounds_toArray, List.set_cons_zero, List.set_cons_succ, i64_w, i32_w]
        rfl
      refine one_ (i := 3) (N := some 146) #[true, true, true, true, true, false, false, false, false, false, false, false, false, false] rfl rfl (one_of HT_.out (by kernel_rfl)) (by decide) (fun K hK => ?_)
      refine goes_ Try.func15 (by kernel_rfl) rfl #[.int .i64 e_] (by rfl) rfl rfl (by simp only [List.map_toArray, List.map_cons, List.map_nil]; rfl) ?_
      with_reducible refine (pupillaw7_num.calls e_ e_ _ rfl).mono ?_
      rintro e z4 ⟨rfl, hb⟩
      refine ⟨_, rfl, ?_⟩
      have hbz : Below z3.heap.size z3 z4 := below_step (Below.drew (Below.refl _ _)) hb.below
      have HC4 := Aside0.mk (com_below HC3.out hbz)
      have HI4 := Aside0.mk (blk_below HI3.out hbz)
      have HP4 := Aside0.mk (Kd.R_below HP3.out hbz)
      have HRW4 : Aside0 (MRows D i z4) := ⟨fun j h1 h2 => row_below (HRW3.out j h1 h2) hbz⟩
      obtain ⟨g0, g1, g2, g3⟩ := HMGC.out _ HC4.out.1
      have w0_ := HMEC.out _ HC4.out.2.1
      have o0 := blk_cell HI4.out 0
      have o1 := blk_cell HI4.out 1
      have o2 := blk_cell HI4.out 2
      have o3 := blk_cell HI4.out 3
      simp only [List.getElem?_toArray, List.getElem?_cons_zero, List.getElem?_cons_succ] at o0 o1 o2 o3
      refine hK.out _ _ ⟨w0_, g0, g1, g2, g3, o0, o1, o2, o3⟩ (fun hHeld => ?_)
      clear hK K
      refine norm_ (a' := ?_) ?_ ?_
      rotate_left
      · show Act.put _ (some 146) _ = _
        simp only [Act.put, List.setIfInBounds_toArray, List.set_cons_zero, List.set_cons_succ, i64_w, i32_w]
        rfl
      refine pure_ (i := 5) (N := some 148) (v := ?_) (a' := ?_) #[true, true, true, true, true, true, false, false, false, false, false, false, false, false] rfl rfl (any_of HT_.out (by kernel_rfl)) (fun _ _ _ h => h) (Or.inl ⟨by rfl, ?_⟩) ?_ ?_
      rotate_left
      · intro w'
        go_simp
        with_reducible rfl
      rotate_left
      · simp only [Act.put, List.setIfInBounds_toArray, List.set_cons_zero, List.set_cons_succ, i64_w, i32_w]
        rfl
      refine pure_ (i := 6) (N := some 149) (v := ?_) (a' := ?_) #[true, true, true, true, true, true, true, false, false, false, false, false, false, false] rfl rfl (any_of HT_.out (by kernel_rfl)) (fun _ _ _ h => h) (Or.inl ⟨by rfl, ?_⟩) ?_ ?_
      rotate_left
      · intro w'
        go_simp
        with_reducible rfl
      rotate_left
      · simp only [Act.put, List.setIfInBounds_toArray, List.set_cons_zero, List.set_cons_succ, i64_w, i32_w]
        rfl
      refine pure_ (i := 7) (N := some 150) (v := ?_) (a' := ?_) #[true, true, true, true, true, true, true, true, false, false, false, false, false, false] rfl rfl (any_of HT_.out (by kernel_rfl)) (fun _ _ _ h => h) (Or.inl ⟨by rfl, ?_⟩) ?_ ?_
      rotate_left
      · intro w'
        go_simp
        with_reducible rfl
      rotate_left
      · simp only [Act.put, List.setIfInBounds_toArray, List.set_cons_zero, List.set_cons_succ, i64_w, i32_w]
        rfl
      refine pure_ (i := 8) (N := some 151) (v := ?_) (a' := ?_) #[true, true, true, true, true, true, true, true, true, false, false, false, false, false] rfl rfl (any_of HT_.out (by kernel_rfl)) (fun _ _ _ h => h) (Or.inl ⟨by rfl, ?_⟩) ?_ ?_
      rotate_left
      · intro w'
        go_simp
        with_reducible rfl
      rotate_left
      · simp only [Act.put, List.setIfInBounds_toArray, List.set_cons_zero, List.set_cons_succ, i64_w, i32_w]
        rfl
      refine take_ (i := 9) (N := some 152) (v := ?_) (a' := ?_) #[true, true, true, true, true, true, true, true, true, true, false, false, false, false] rfl rfl (take_ofW HT_.out HW_.out (by kernel_rfl)) (fun _ _ _ h => h) (Or.inl ⟨by rfl, ?_⟩) hHeld ?_ ?_
      rotate_left
      · rintro w' ⟨s0, s1, s2, s3, s4, s5, s6, s7, s8⟩
        go_simp
        with_reducible rfl
      rotate_left
      · simp only [Act.put, List.setIfInBounds_toArray, List.set_cons_zero, List.set_cons_succ, i64_w, i32_w]
        rfl
      refine take_ (i := 10) (N := some 153) (v := ?_) (a' := ?_) #[true, true, true, true, true, true, true, true, true, true, true, false, false, false] rfl rfl (take_ofW HT_.out HW_.out (by kernel_rfl)) (fun _ _ _ h => h) (Or.inl ⟨by rfl, ?_⟩) hHeld ?_ ?_
      rotate_left
      · rintro w' ⟨s0, s1, s2, s3, s4, s5, s6, s7, s8⟩
        go_simp
        with_reducible rfl
      rotate_left
      · simp only [Act.put, List.setIfInBounds_toArray, List.set_cons_zero, List.set_cons_succ, i64_w, i32_w]
        rfl
      refine one_ (i := 11) (N := some 154) #[true, true, true, true, true, true, true, true, true, true, true, true, false, false] rfl rfl (one_of HT_.out (by kernel_rfl)) (by decide) (fun K hK => ?_)
      have hrr := row_reads (HROW.out _ HRW4.out)
      have HX := pupillaw7_Exact.calls (L_.length.succ + 1) p_ q_ s_ A_ k_ L_ p_ q_ s_ AW kW L_ true z4 hrr.2.2 hrr.2.1 (row_reads (row_of_ints HP4.out)).2.2 HW.out.1 (exact_self L_.length.succ _ _ _ L_ (by have := HMK.out.2.2; omega) (by omega))
      rw [← HNLL.out] at HX
      refine goes_ Try.func16 (by kernel_rfl) rfl #[.agg #[.int .i64 p_, .int .i64 q_, .int .i64 s_, .slice A_ n_ k_], .agg #[.int .i64 p_, .int .i64 q_, .int .i64 s_, .slice AW n_ kW]] (by rfl) rfl rfl (by simp only [List.map_toArray, List.map_cons, List.map_nil]; rfl) ?_
      refine HX.mono ?_
      clear HX hrr
      rintro e z5 ⟨rfl, hb⟩
      refine ⟨_, rfl, ?_⟩
      have HC5 := Aside0.mk (com_below HC4.out hb)
      have HI5 := Aside0.mk (blk_below HI4.out hb)
      have HRW5 : Aside0 (MRows D i z5) := ⟨fun j h1 h2 => row_below (HRW4.out j h1 h2) hb⟩
      obtain ⟨g0, g1, g2, g3⟩ := HMGC.out _ HC5.out.1
      have w0_ := HMEC.out _ HC5.out.2.1
      have o0 := blk_cell HI5.out 0
      have o1 := blk_cell HI5.out 1
      have o2 := blk_cell HI5.out 2
      have o3 := blk_cell HI5.out 3
      simp only [List.getElem?_toArray, List.getElem?_cons_zero, List.getElem?_cons_succ] at o0 o1 o2 o3
      refine hK.out _ _ ⟨w0_, g0, g1, g2, g3, o0, o1, o2, o3⟩ (fun hHeld => ?_)
      clear hK K
      refine norm_ (a' := ?_) ?_ ?_
      rotate_left
      · show Act.put _ (some 154) _ = _
        simp only [Act.put, List.setIfInBounds_toArray, List.set_cons_zero, List.set_cons_succ, i64_w, i32_w]
        rfl
      refine pure_ (i := 12) (N := some 155) (v := ?_) (a' := ?_) #[true, true, true, true, true, true, true, true, true, true, true, true, true, false] rfl rfl (any_of HT_.out (by kernel_rfl)) (fun _ _ _ h => h) (Or.inl ⟨by rfl, ?_⟩) ?_ ?_
      rotate_left
      · intro w'
        go_simp
        with_reducible rfl
      rotate_left
      · simp only [Act.put, List.setIfInBounds_toArray, List.set_cons_zero, List.set_cons_succ, i64_w, i32_w]
        rfl
      refine pure_ (i := 13) (N := some 156) (v := ?_) (a' := ?_) #[true, true, true, true, true, true, true, true, true, true, true, true, true, true] rfl rfl (any_of HT_.out (by kernel_rfl)) (fun _ _ _ h => h) (Or.inl ⟨by rfl, ?_⟩) ?_ ?_
      rotate_left
      · intro w'
        go_simp
        with_reducible rfl
      rotate_left
      · simp only [Act.put, List.setIfInBounds_toArray, List.set_cons_zero, List.set_cons_succ, i64_w, i32_w]
        rfl
      refine done_ (done_of HT_.out (by kernel_rfl)) ?_
      go_wp2_with fail
      have hsp := spoil_calls p_ q_ s_ A_ k_ L_ w4 z5 (by rw [← HNLL.out]; exact row_ints (HROW.out _ HRW5.out) (by have := HMK.out.1; omega)) HC5.out.2.2.1 (by have := HMK.out.2.2; omega)
      rw [← HNLL.out] at hsp
      refine hsp.mono ?_
      rintro e z6 ⟨uu, rfl, hS6, hk6⟩
      clear hsp hHeld
      have HC6 := Aside0.mk (com_spoil HC5.out (HROW.out _ HRW5.out) HMK.out.1 HMK.out.2.1 HMS.out.room.1 hS6 hk6)
      have HRW6 : Aside0 (MRows D (i + 1) z6) := ⟨fun j h1 h2 => row_spoil (HRW5.out j (by omega) h2) (HROW.out _ HRW5.out) (HMH.out j h1 h2) hk6⟩
      clear hS6 hk6 w0_ g0 g1 g2 g3 o0 o1 o2 o3
      go_wp2
      go_roundg (gk - 1)
      case measure => have := HKK.out; omega
      case rel => exact ⟨i + 1, rfl, ⟨by have := HKK.out; omega⟩, HRW6, HC6⟩
    · have d1 : decide ((i : Int) < 5) = false := decide_eq_false (by omega)
      clear HRW
      have HMI := Aside0.mk (blk_below H0_4.out HC.out.2.2.1)
      have HFI := Aside0.mk (blk_below H1_4.out HC.out.2.2.1)
      have a0 := blk_cell HMI.out 0
      have a1 := blk_cell HMI.out 1
      have a2 := blk_cell HMI.out 2
      have a3 := blk_cell HMI.out 3
      simp only [List.getElem?_toArray, List.getElem?_cons_zero, List.getElem?_cons_succ] at a0 a1 a2 a3
      have b0 := blk_cell HFI.out 0
      have b1 := blk_cell HFI.out 1
      have b2 := blk_cell HFI.out 2
      have b3 := blk_cell HFI.out 3
      simp only [List.getElem?_toArray, List.getElem?_cons_zero, List.getElem?_cons_succ] at b0 b1 b2 b3
      go_wp2_with fail
      refine (stays_calls r c wd A A9 cA c9 l wr (Kd.C_below HCM.out HC.out.2.2.1) HH.out.2.1 (by have := HL.out; omega) (Kd.C_below HCF.out.2 HC.out.2.2.1) HCF.out.1).mono ?_
      rintro e z9 ⟨rfl, hb⟩
      go_wp2
      go_ret
      exact ⟨rfl, below_step HB_4.out (below_step HC.out.2.2.1 hb)⟩


end Go.Proofs.Ytklomikdihlcgaa
