/- The walk of the document's Glue. -/
import Derived.Test.YtklomikdihlcgaaGlueW
import Derived.Outline
import Derived.BigQuiet
import Derived.Deep.QuietTactic
namespace Go.Proofs.Ytklomikdihlcgaa
open Go.RowKit PBase
open Go.Proofs.YtklomikdihlcgaaW.PrintWords Go.Proofs.YtklomikdihlcgaaW.PrintLast Go.Proofs.YtklomikdihlcgaaW.PrintMore
set_option linter.unusedVariables false
set_option linter.unusedSimpArgs false

set_option maxHeartbeats 1000000 in
set_option maxRecDepth 100000 in
theorem refGlue_err0 (side : Bool) (A : Option Addr) (cA : Nat) (w : World) :
    Calls Try.prog 45 #[.slice A 0 cA, .bool side] w (MoveP w 1 0 0 0 []) := by
  go_enter Try.func45, Try.ntmps45
  go_wp2
  refine bodyPost_ret (v := .tuple #[.agg (row4 0 0 0 (.slice none 0 0)), .int .i64 1]) (by simp [results, Try.results45, go_sem, row4]) rfl (moveP_none ⟨rfl, ?_⟩)
  exact below_alloc (Below.refl _ _) _

/-- an element's cells, in a world behind -/
theorem shape_at {w W : World} {A : Option Addr} {ss : List Shp} (hC : shK.C w A ss.length ss) (hB : Below w.heap.size w W) (i : Nat) (hi : i < ss.length) :
    ∃ ad, A = some ad ∧ W.cell? (ad.add (i * 3)) = some (.int .i64 (ss.getD i z3).1) ∧ W.cell? ⟨(ad.add (i * 3)).block, (ad.add (i * 3)).off + 1, none⟩ = some (.int .i64 (ss.getD i z3).2.1) ∧ W.cell? ⟨(ad.add (i * 3)).block, (ad.add (i * 3)).off + 2, none⟩ = some (.int .i64 (ss.getD i z3).2.2) := by
  obtain ⟨ad, hA, p0, p1, p2⟩ := shape_cells hC i hi
  have hg : ss[i] = ss.getD i z3 := by rw [List.getD_eq_getElem?_getD, List.getElem?_eq_getElem hi]; rfl
  rw [hg] at p0 p1 p2
  rw [add_succ] at p1
  rw [add_two] at p2
  exact ⟨ad, hA, (hB.cell (World.block_lt_of_cell? w _ p0)).trans p0, (hB.cell (World.block_lt_of_cell? w _ p1)).trans p1, (hB.cell (World.block_lt_of_cell? w _ p2)).trans p2⟩

theorem any_of_bad {ss : List Shp} {p : Shp → Bool} {i : Nat} (hi : i < ss.length) (h : p (ss.getD i z3) = true) : ss.any p = true := by
  refine List.any_eq_true.2 ⟨ss.getD i z3, ?_, h⟩
  rw [List.getD_eq_getElem?_getD, List.getElem?_eq_getElem hi]
  exact List.getElem_mem hi
theorem any_false_of {ss : List Shp} {p : Shp → Bool} (h : ∀ i, i < ss.length → p (ss.getD i z3) = false) : ss.any p = false := by
  refine List.any_eq_false.2 fun x hx => ?_
  obtain ⟨i, hi, rfl⟩ := List.mem_iff_getElem.1 hx
  have := h i hi
  rw [List.getD_eq_getElem?_getD, List.getElem?_eq_getElem hi] at this
  simpa using this

theorem ne_blocks {W : World} {a b s t : Nat} {cs ds : Array Value} (h1 : W.heap[a]? = some (.cells cs s (0, 0))) (h2 : W.heap[b]? = some (.cells ds t (0, 0))) (hst : s ≠ t) : a ≠ b := by
  rintro rfl
  rw [h1] at h2
  injection h2 with h2
  injection h2 with _ h2
  exact hst h2

def F45RT18 : Bool × List (List Nat × List Nat) := (true, [([], []), ([0], [0]), ([], []), ([], []), ([2, 3], [2, 3]), ([4], [4]), ([5], [5]), ([1, 6], [1, 6]), ([0, 1, 2, 3, 4, 5, 6, 7], []), ([8, 7, 0, 1, 2, 3, 4, 5, 6, 7], [7, 8])])
def F45RB18 : List Nat := [0, 1, 0, 0, 12, 28, 60, 127, 255, 511]
theorem F45Rtab18 : rtab .any (opsOf Try.f45 18) = F45RT18 := by kernel_rfl
theorem F45Rbits18 : waitsOk F45RT18.2 F45RB18 = true := by kernel_rfl
def F45RT19 : Bool × List (List Nat × List Nat) := (true, [([], []), ([0], [0]), ([], []), ([], []), ([2, 3], [2, 3]), ([4], [4]), ([5], [5]), ([1, 6], [1, 6]), ([0, 1, 2, 3, 4, 5, 6, 7], []), ([8, 7, 0, 1, 2, 3, 4, 5, 6, 7], [7, 8])])
def F45RB19 : List Nat := [0, 1, 0, 0, 12, 28, 60, 127, 255, 511]
theorem F45Rtab19 : rtab .any (opsOf Try.f45 19) = F45RT19 := by kernel_rfl
theorem F45Rbits19 : waitsOk F45RT19.2 F45RB19 = true := by kernel_rfl
def F45RT40 : Bool × List (List Nat × List Nat) := (true, [([], []), ([0], [0]), ([], []), ([], []), ([], []), ([], []), ([4, 5], [4, 5]), ([6], [6]), ([7], [7]), ([3, 8], [3, 8]), ([], []), ([9, 10], [9, 10]), ([2, 11], [2, 11]), ([12], [12]), ([1, 13], [1, 13]), ([0, 1, 2, 3, 4, 5, 6, 7, 8, 9, 10, 11, 12, 13, 14], []), ([15, 14, 14, 0, 1, 2, 3, 4, 5, 6, 7, 8, 9, 10, 11, 12, 13, 14], [14, 15])])
def F45RB40 : List Nat := [0, 1, 0, 0, 0, 0, 48, 112, 240, 504, 0, 2040, 4092, 8188, 16383, 32767, 65535]
theorem F45Rtab40 : rtab .any (opsOf Try.f45 40) = F45RT40 := by kernel_rfl
theorem F45Rbits40 : waitsOk F45RT40.2 F45RB40 = true := by kernel_rfl
set_option maxHeartbeats 20000000 in
set_option maxRecDepth 100000 in
theorem refGlue_calls (side : Bool) (A : Option Addr) (cA : Nat) (ss : List Shp) (w : World) (hC : shK.C w A ss.length ss) (hcA : ss.length ≤ cA) (hl : ss.length ≤ 5001) (h0 : 0 < ss.length) (hok : ∀ x ∈ ss, ShOk x) :
    Calls Try.prog 45 #[.slice A ss.length cA, .bool side] w (GlueQ side ss w) := by
  obtain ⟨ad, hA, _⟩ := shape_cells hC 0 h0
  subst hA
  obtain ⟨⟨sr, sc, sw⟩, hs⟩ : ∃ s, s = ss.getD 0 z3 := ⟨_, rfl⟩
  have HC := Aside0.mk hC
  have HS := Aside0.mk hs
  have HOK := Aside0.mk hok
  have HCA := Aside0.mk hcA
  have H0 := Aside0.mk h0
  have hn0 : ¬ ss = [] := fun e => by rw [e] at h0; exact absurd h0 (by decide)
  have hne : ((ss.length : Int) == 0) = false := by rw [beq_eq_false_iff_ne]; omega
  have HB0 : Aside0 (Below w.heap.size w (w.alloc (.cells #[.int .i64 0, .int .i64 0, .int .i64 0, .slice none 0 0] 60))) := ⟨below_alloc (Below.refl _ _) _⟩
  have H40 : Aside0 (IsB (w.alloc (.cells #[.int .i64 0, .int .i64 0, .int .i64 0, .slice none 0 0] 60)) w.heap.size (row4 0 0 0 (.slice none 0 0)) 60) := ⟨blk_new w _⟩
  clear hC hs hok hcA
  go_enter Try.func45, Try.ntmps45
  go_wp2
  generalize w.alloc (.cells #[.int .i64 0, .int .i64 0, .int .i64 0, .slice none 0 0] 60) = w1 at HB0 H40 ⊢
  go_loopg [6] ss.length (fun kq v6 w' => ∃ i : Nat, v6 = .int .i64 i ∧ Aside0 (i + kq = ss.length + 1) ∧ Aside0 (1 ≤ i) ∧ Aside0 (∀ j, j < i → j < ss.length → badW ss (ss.getD j z3) = false) ∧ Aside0 (IsB w' w.heap.size (row4 0 0 0 (.slice none 0 0)) 60) ∧ Aside0 (Below w.heap.size w w'))
  case atStart => exact ⟨1, rfl, ⟨by omega⟩, ⟨by omega⟩, ⟨fun j hj hl => by rw [show j = 0 by omega]; unfold badW; simp⟩, H40, HB0⟩
  case round =>
    clear H40 HB0
    obtain ⟨i, rfl, HI, HI1, HF, H4, HB⟩ := hrel
    by_cases hil : i < ss.length
    · as_aux_lemma =>
        have d1 : decide (i < ss.length) = true := decide_eq_true hil
        obtain ⟨adi, hAi, p0, p1, p2⟩ := shape_at HC.out HB.out i hil
        obtain ⟨ad0, hA0, q0, q1, q2⟩ := shape_at HC.out HB.out 0 H0.out
        injection hAi with hAi
        injection hA0 with hA0
        subst hAi hA0
        rw [Nat.zero_mul] at q0 q1 q2
        have had : ad.add 0 = ad := rfl
        rw [had] at q0 q1 q2
        rw [← HS.out] at q0 q1 q2
        have hbw : badW ss (ss.getD i z3) = ((ss.getD i z3).2.2 != sw) := by unfold badW; rw [← HS.out]
        have HBW := Aside0.mk hbw
        generalize (ss.getD i z3).2.2 = xw at p2 HBW
        clear p0 p1 q0 q1 hbw had
        have n0 := blk_cell H4.out 0
        have n1 := blk_cell H4.out 1
        have n2 := blk_cell H4.out 2
        have n3 := blk_cell H4.out 3
        have nf0 := blk_frozen H4.out 0
        have nf1 := blk_frozen H4.out 1
        have nf2 := blk_frozen H4.out 2
        have nf3 := blk_frozen H4.out 3
        simp only [List.getElem?_toArray, List.getElem?_cons_zero, List.getElem?_cons_succ] at n0 n1 n2 n3
        by_cases he : xw = sw
        · have dn : (xw != sw) = false := by simp [he]
          have HF2 := Aside0.mk (show badW ss (ss.getD i z3) = false by rw [HBW.out, dn])
          clear he
          go_wp2
          go_quiet (fail)
          go_wp2
          go_roundg (gk - 1)
          case measure => have := HI.out; omega
          case rel => exact ⟨i + 1, by go_num, ⟨by have := HI.out; omega⟩, ⟨by omega⟩, ⟨fun j hj hjl => by
            by_cases hji : j = i
            · rw [hji]; exact HF2.out
            · exact HF.out j (by omega) hjl⟩, ⟨blk_drewN H4.out _⟩, ⟨pw_below_drewN HB.out _⟩⟩
        · have dn : (xw != sw) = true := by simp [he]
          have HE : Aside0 (glueE side ss = 3) := ⟨by unfold glueE; rw [if_neg (by have := H0.out; omega), if_pos (any_of_bad hil (by rw [HBW.out, dn]))]⟩
          clear he
          go_wp2
          go_quiet (fail)
          go_wp2
          refine bodyPost_ret (v := .tuple #[.agg (row4 0 0 0 (.slice none 0 0)), .int .i64 3]) (by simp [results, Try.results45, go_sem, n0, n1, n2, n3]) rfl (GlueQ.err HE.out (by decide) (moveP_none ⟨rfl, ?_⟩))
          exact below_set4 (pw_below_drewN HB.out _) (by omega) _ _ _ _
    · have d1 : decide (i < ss.length) = false := decide_eq_false hil
      have HWF := Aside0.mk (any_false_of (p := badW ss) fun j hj => HF.out j (by omega) hj)
      clear HF HI HI1
      obtain ⟨ad0, hA0, q0, q1, q2⟩ := shape_at HC.out HB.out 0 H0.out
      injection hA0 with hA0
      subst hA0
      rw [Nat.zero_mul] at q0 q1 q2
      have had : ad.add 0 = ad := rfl
      rw [had, ← HS.out] at q0 q1 q2
      simp only at q0 q1 q2
      clear had
      go_wp2
      cases side
      · as_aux_lemma =>
          have H7 : Aside0 (IsB (wr.alloc (.cells #[.int .i64 sr, .int .i64 sc, .int .i64 sw] 34)) wr.heap.size (row3 sr sc sw) 34) := ⟨blk_new wr _⟩
          have H4 := Aside0.mk (blk_alloc H4.out (.cells #[.int .i64 sr, .int .i64 sc, .int .i64 sw] 34))
          have hg0 : w.heap.size ≤ wr.heap.size := HB.out.size
          have hgl : w.heap.size < wr.heap.size + 1 := by omega
          have hgn : w.heap.size ≠ wr.heap.size := by have := blk_lt H4.out; simp at this; have h2 := ne_blocks H4.out H7.out (by decide); exact h2
          have HB := Aside0.mk (below_alloc HB.out (.cells #[.int .i64 sr, .int .i64 sc, .int .i64 sw] 34))
          obtain ⟨g7, hg7⟩ : ∃ g, g = wr.heap.size := ⟨_, rfl⟩
          rw [← hg7] at H7 hgn hg0 ⊢
          have HG7 := Aside0.mk (And.intro hg0 hgn)
          generalize wr.alloc (.cells #[.int .i64 sr, .int .i64 sc, .int .i64 sw] 34) = w2 at H4 H7 HB ⊢
          clear hg0 hgl hgn hg7 q0 q1 q2 d1 hil
          go_loopg [8] ss.length (fun kq v8 w' => ∃ i : Nat, v8 = .int .i64 i ∧ Aside0 (i + kq = ss.length + 1) ∧ Aside0 (1 ≤ i) ∧ Aside0 (∀ j, j < i → j < ss.length → badS false ss (ss.getD j z3) = false) ∧ Aside0 (IsB w' w.heap.size (row4 0 0 0 (.slice none 0 0)) 60) ∧ Aside0 (IsB w' g7 (row3 sr sc sw) 34) ∧ Aside0 (Below w.heap.size w w'))
          case atStart => exact ⟨1, rfl, ⟨by omega⟩, ⟨by omega⟩, ⟨fun j hj hl => by rw [show j = 0 by omega]; unfold badS; simp⟩, H4, H7, HB⟩
          case round =>
            clear H4 H7 HB
            obtain ⟨i, rfl, HI, HI1, HF, H4, H7, HB⟩ := hrel
            have s0 := blk_cell H7.out 0
            have s1 := blk_cell H7.out 1
            have s2 := blk_cell H7.out 2
            have sf0 := blk_frozen H7.out 0
            have sf1 := blk_frozen H7.out 1
            simp only [List.getElem?_toArray, List.getElem?_cons_zero, List.getElem?_cons_succ] at s0 s1 s2
            by_cases hil : i < ss.length
            · as_aux_lemma =>
                have d1 : decide (i < ss.length) = true := decide_eq_true hil
                obtain ⟨adi, hAi, p0, p1, p2⟩ := shape_at HC.out HB.out i hil
                injection hAi with hAi
                subst hAi
                have hbw : badS false ss (ss.getD i z3) = ((ss.getD i z3).2.1 != sc) := by unfold badS; rw [← HS.out]; rfl
                have HBW := Aside0.mk hbw
                obtain ⟨x, hx⟩ : ∃ x, x = ss.getD i z3 := ⟨_, rfl⟩
                have HXE := Aside0.mk hx.symm
                rw [← hx] at p0 p1 p2 HBW
                clear hx
                obtain ⟨xr, xc, xw⟩ := x
                simp only at p0 p1 p2
                clear hbw
                have n0 := blk_cell H4.out 0
                have n1 := blk_cell H4.out 1
                have n2 := blk_cell H4.out 2
                have n3 := blk_cell H4.out 3
                have nf0 := blk_frozen H4.out 0
                have nf1 := blk_frozen H4.out 1
                have nf2 := blk_frozen H4.out 2
                have nf3 := blk_frozen H4.out 3
                simp only [List.getElem?_toArray, List.getElem?_cons_zero, List.getElem?_cons_succ] at n0 n1 n2 n3
                by_cases he : xc = sc
                · have dn : (xc != sc) = false := by simp [he]
                  have HF2 := Aside0.mk (show badS false ss (xr, xc, xw) = false by rw [HBW.out]; exact dn)
                  clear he
                  go_wp2
                  go_quiet (fail)
                  go_wp2
                  go_roundg (gk - 1)
                  case measure => have := HI.out; omega
                  case rel => exact ⟨i + 1, by go_num, ⟨by have := HI.out; omega⟩, ⟨by omega⟩, ⟨fun j hj hjl => by
                    by_cases hji : j = i
                    · rw [hji, HXE.out]; exact HF2.out
                    · exact HF.out j (by omega) hjl⟩, ⟨blk_drewN H4.out _⟩, ⟨blk_drewN H7.out _⟩, ⟨pw_below_drewN HB.out _⟩⟩
                · have dn : (xc != sc) = true := by simp [he]
                  have HE : Aside0 (glueE false ss = 4) := ⟨by unfold glueE; rw [if_neg (by have := H0.out; omega), if_neg (by rw [HWF.out]; decide), if_pos (any_of_bad hil (by rw [HXE.out, HBW.out]; exact dn))]⟩
                  clear he
                  go_wp2
                  go_quiet (fail)
                  go_wp2
                  refine bodyPost_ret (v := .tuple #[.agg (row4 0 0 0 (.slice none 0 0)), .int .i64 4]) (by simp [results, Try.results45, go_sem, n0, n1, n2, n3]) rfl (GlueQ.err HE.out (by decide) (moveP_none ⟨rfl, ?_⟩))
                  exact below_set4 (pw_below_drewN HB.out _) (by omega) _ _ _ _
            · have d1 : decide (i < ss.length) = false := decide_eq_false hil
              have HSF := Aside0.mk (any_false_of (p := badS false ss) fun j hj => HF.out j (by omega) hj)
              clear HF HI HI1
              go_wp2
              have H7 := Aside0.mk (show IsB wr g7 (row3 (gR false ss 0) (gC false ss 0) sw) 34 by rw [gR_zero, gC_zero, ← HS.out]; exact H7.out)
              clear s0 s1 s2 sf0 sf1 d1 hil
              go_loopg [9] ss.length (fun kq v9 w' => ∃ j : Nat, v9 = .int .i64 ((j + 1 : Nat) : Int) ∧ Aside0 (j + kq = ss.length) ∧ Aside0 (j < ss.length) ∧ Aside0 (IsB w' w.heap.size (row4 0 0 0 (.slice none 0 0)) 60) ∧ Aside0 (IsB w' g7 (row3 (gR false ss j) (gC false ss j) sw) 34) ∧ Aside0 (Below w.heap.size w w'))
              case atStart => exact ⟨0, rfl, ⟨by omega⟩, H0, H4, H7, HB⟩
              case round =>
                clear H4 H7 HB
                obtain ⟨j, rfl, HJ, HJL, H4, H7, HB⟩ := hrel
                have s0 := blk_cell H7.out 0
                have s1 := blk_cell H7.out 1
                have s2 := blk_cell H7.out 2
                have sf0 := blk_frozen H7.out 0
                have sf1 := blk_frozen H7.out 1
                simp only [List.getElem?_toArray, List.getElem?_cons_zero, List.getElem?_cons_succ] at s0 s1 s2
                have hrc := gRC_ok (side := false) HOK.out HJL.out
                have HRJ : Aside0 (gR false ss (j + 1) = gR false ss j + (ss.getD (j + 1) z3).1) := ⟨rfl⟩
                have HCJ : Aside0 (gC false ss (j + 1) = gC false ss j) := ⟨rfl⟩
                have HRE : Aside0 (glueR false ss = gR false ss (ss.length - 1)) := ⟨rfl⟩
                have HCE : Aside0 (glueC false ss = gC false ss (ss.length - 1)) := ⟨rfl⟩
                by_cases hil : j + 1 < ss.length
                · as_aux_lemma =>
                    have d1 : decide (j + 1 < ss.length) = true := decide_eq_true hil
                    obtain ⟨adi, hAi, p0, p1, p2⟩ := shape_at HC.out HB.out (j + 1) hil
                    injection hAi with hAi
                    subst hAi
                    have hxo := getD_ok HOK.out (i := j + 1) hil
                    generalize ss.getD (j + 1) z3 = x at p0 p1 p2 hxo HRJ HCJ
                    generalize gR false ss j = R at s0 hrc HRJ H7
                    generalize gC false ss j = C at s1 hrc HCJ H7
                    obtain ⟨xr, xc, xw⟩ := x
                    have hx1 : 1 ≤ xr := hxo.r1
                    have hx2 : xr ≤ 4096 := hxo.r2
                    have hx3 : 1 ≤ xc := hxo.c1
                    have hx4 : xc ≤ 4096 := hxo.c2
                    simp only at p0 p1 p2 HRJ HCJ
                    have hj5 : (j : Int) ≤ 5001 := by omega
                    obtain ⟨hr1, hr2, hr3, hr4⟩ := hrc
                    have hws : IntKind.i64.wrap (R + xr) = R + xr := IntWalk.i64_in _ (by omega)
                    have HJ2 := Aside0.mk hil
                    have h0j : (0 : Int) ≤ (j : Int) + 1 := by omega
                    clear hxo hr1 hr2 hr3 hr4 hx1 hx2 hx3 hx4
                    go_wp2
                    refine start_ (n := 10) (S := fun w' => w'.cell? ⟨g7, 0, none⟩ = some (.int .i64 R) ∧ w'.cell? (ad.add ((j + 1) * 3)) = some (.int .i64 xr)) (ds := [9]) #[false, false, false, false, false, false, false, false, false, false] (by kernel_rfl) rfl rfl ⟨s0, p0⟩ (fun hHeld => ?_)
                    refine with_tabW F45Rtab19 F45Rbits19 (fun HT_ HW_ => ?_)
                    refine pure_ (i := 0) (N := some 89) (v := ?_) (a' := ?_) #[true, false, false, false, false, false, false, false, false, false] rfl rfl (any_of HT_.out (by kernel_rfl)) (fun _ _ _ h => h) (Or.inl ⟨by rfl, ?_⟩) ?_ ?_
                    rotate_left
                    · intro w'
                      go_simp
                      with_reducible rfl
                    rotate_left
                    · simp only [Act.put, List.setIfInBounds_toArray, List.set_cons_zero, List.set_cons_succ, i64_w, i32_w]
                      rfl
                    refine pure_ (i := 2) (N := some 91) (v := ?_) (a' := ?_) #[true, false, true, false, false, false, false, false, false, false] rfl rfl (any_of HT_.out (by kernel_rfl)) (fun _ _ _ h => h) (Or.inl ⟨by rfl, ?_⟩) ?_ ?_
                    rotate_left
                    · intro w'
                      go_simp
                      with_reducible rfl
                    rotate_left
                    · simp only [Act.put, List.setIfInBounds_toArray, List.set_cons_zero, List.set_cons_succ, i64_w, i32_w]
                      rfl
                    refine pure_ (i := 3) (N := some 92) (v := ?_) (a' := ?_) #[true, false, true, true, false, false, false, false, false, false] rfl rfl (any_of HT_.out (by kernel_rfl)) (fun _ _ _ h => h) (Or.inl ⟨by rfl, ?_⟩) ?_ ?_
                    rotate_left
                    · intro w'
                      go_simp
                      with_reducible rfl
                    rotate_left
                    · simp only [Act.put, List.setIfInBounds_toArray, List.set_cons_zero, List.set_cons_succ, i64_w, i32_w]
                      rfl
                    refine pure_ (i := 4) (N := some 93) (v := ?_) (a' := ?_) #[true, false, true, true, true, false, false, false, false, false] rfl rfl (any_of HT_.out (by kernel_rfl)) (fun _ _ _ h => h) (Or.inl ⟨by rfl, ?_⟩) ?_ ?_
                    rotate_left
                    · intro w'
                      go_simp
                      with_reducible rfl
                    rotate_left
                    · simp only [Act.put, List.setIfInBounds_toArray, List.set_cons_zero, List.set_cons_succ, i64_w, i32_w]
                      rfl
                    refine pure_ (i := 5) (N := some 94) (v := ?_) (a' := ?_) #[true, false, true, true, true, true, false, false, false, false] rfl rfl (any_of HT_.out (by kernel_rfl)) (fun _ _ _ h => h) (Or.inl ⟨by rfl, ?_⟩) ?_ ?_
                    rotate_left
                    · intro w'
                      go_simp
                      with_reducible rfl
                    rotate_left
                    · simp only [Act.put, List.setIfInBounds_toArray, List.set_cons_zero, List.set_cons_succ, i64_w, i32_w]
                      rfl
                    refine take_ (i := 1) (N := some 90) (v := ?_) (a' := ?_) #[true, true, true, true, true, true, false, false, false, false] rfl rfl (take_ofW HT_.out HW_.out (by kernel_rfl)) (fun _ _ _ h => h) (Or.inl ⟨by rfl, ?_⟩) hHeld ?_ ?_
                    rotate_left
                    · rintro w' ⟨s0, s1⟩
                      go_simp
                      with_reducible rfl
                    rotate_left
                    · simp only [Act.put, List.setIfInBounds_toArray, List.set_cons_zero, List.set_cons_succ, i64_w, i32_w]
                      rfl
                    refine take_ (i := 6) (N := some 95) (v := ?_) (a' := ?_) #[true, true, true, true, true, true, true, false, false, false] rfl rfl (take_ofW HT_.out HW_.out (by kernel_rfl)) (fun _ _ _ h => h) (Or.inl ⟨by rfl, ?_⟩) hHeld ?_ ?_
                    rotate_left
                    · rintro w' ⟨s0, s1⟩
                      go_simp
                      with_reducible rfl
                    rotate_left
                    · simp only [Act.put, List.setIfInBounds_toArray, List.set_cons_zero, List.set_cons_succ, i64_w, i32_w]
                      rfl
                    refine pure_ (i := 7) (N := some 96) (v := ?_) (a' := ?_) #[true, true, true, true, true, true, true, true, false, false] rfl rfl (any_of HT_.out (by kernel_rfl)) (fun _ _ _ h => h) (Or.inl ⟨by rfl, ?_⟩) ?_ ?_
                    rotate_left
                    · intro w'
                      go_simp
                      with_reducible rfl
                    rotate_left
                    · simp only [Act.put, List.setIfInBounds_toArray, List.set_cons_zero, List.set_cons_succ, i64_w, i32_w]
                      rfl
                    refine pure_ (i := 8) (N := some 97) (v := ?_) (a' := ?_) #[true, true, true, true, true, true, true, true, true, false] rfl rfl (any_of HT_.out (by kernel_rfl)) (fun _ _ _ h => h) (Or.inl ⟨by rfl, ?_⟩) ?_ ?_
                    rotate_left
                    · intro w'
                      go_simp
                      with_reducible rfl
                    rotate_left
                    · simp only [Act.put, List.setIfInBounds_toArray, List.set_cons_zero, List.set_cons_succ, i64_w, i32_w]
                      rfl
                    refine last_ (i := 9) (N := none) #[true, true, true, true, true, true, true, true, true, true] rfl rfl (one_of HT_.out (by kernel_rfl)) (by decide) (fun K hK => ?_)
                    refine skip_ (w1 := ?_) (by rfl) rfl ?_ ?_
                    rotate_left
                    · go_simp
                      rfl
                    refine hK.out _ _ ?_
                    clear hK K
                    refine done_ (done_of HT_.out (by kernel_rfl)) ?_
                    go_wp2
                    go_roundg (gk - 1)
                    case measure => have := HJ.out; have := HJ2.out; omega
                    case rel => exact ⟨j + 1, by first | go_num | rfl, ⟨by have := HJ.out; have := HJ2.out; omega⟩, HJ2, ⟨blk_far (blk_drew H4.out) (p := ⟨g7, 0, none⟩) HG7.out.2 _⟩, ⟨by rw [HRJ.out, HCJ.out]; exact blk_set (blk_drew H7.out) 0 _⟩, ⟨below_set (below_drew HB.out) HG7.out.1⟩⟩
                · have d1 : decide (j + 1 < ss.length) = false := decide_eq_false hil
                  have hjl : j = ss.length - 1 := by have := HJL.out; omega
                  rw [← hjl] at HRE HCE
                  generalize gR false ss j = R at s0 hrc H7 HRE
                  generalize gC false ss j = C at s1 hrc H7 HCE
                  clear hjl HRJ HCJ HJ HJL hrc
                  go_wp2_with fail
                  refine (pupilref7_Sized.calls 1 R C sw (sizedV R C sw) _ (refSized_eq 0 R C sw)).mono ?_
                  rintro e w5 ⟨rfl, hd⟩
                  have hb := hd.below
                  clear hd
                  have H4 := Aside0.mk (blk_below H4.out hb)
                  have H7 := Aside0.mk (blk_below H7.out hb)
                  have HB := Aside0.mk (below_step HB.out hb)
                  clear hb s0 s1 s2 sf0 sf1 d1 hil
                  have HE0 : Aside0 (glueE false ss = sizedV R C sw) := ⟨by unfold glueE; rw [if_neg (by have := H0.out; omega), if_neg (by rw [HWF.out]; decide), if_neg (by rw [HSF.out]; decide), HRE.out, HCE.out]; unfold glueW; rw [← HS.out]⟩
                  have n0 := blk_cell H4.out 0
                  have n1 := blk_cell H4.out 1
                  have n2 := blk_cell H4.out 2
                  have n3 := blk_cell H4.out 3
                  have nf0 := blk_frozen H4.out 0
                  have nf1 := blk_frozen H4.out 1
                  have nf2 := blk_frozen H4.out 2
                  have nf3 := blk_frozen H4.out 3
                  simp only [List.getElem?_toArray, List.getElem?_cons_zero, List.getElem?_cons_succ] at n0 n1 n2 n3
                  have n0' := H4.out
                  by_cases hz : sizedV R C sw = 0
                  · have hRC := sized_ok hz
                    rw [hz] at HE0 ⊢
                    obtain ⟨RN, rfl⟩ := Int.eq_ofNat_of_zero_le (show 0 ≤ R by omega)
                    obtain ⟨CN, rfl⟩ := Int.eq_ofNat_of_zero_le (show 0 ≤ C by omega)
                    have s0 := blk_cell H7.out 0
                    have s1 := blk_cell H7.out 1
                    have s2 := blk_cell H7.out 2
                    have hl7 := blk_lt H7.out
                    simp only [List.getElem?_toArray, List.getElem?_cons_zero, List.getElem?_cons_succ] at s0 s1 s2
                    obtain ⟨N, hN⟩ : ∃ N : Nat → Nat, N = fun i => glueN false (ss.getD i z3) := ⟨_, rfl⟩
                    have HND := Aside0.mk hN
                    have HNL := Aside0.mk (show ∀ i, i < ss.length → 1 ≤ N i ∧ N i ≤ 4096 from fun i hi => by rw [hN]; exact glueN_le (getD_ok HOK.out hi))
                    have hRN : 1 ≤ RN ∧ RN ≤ 4096 ∧ CN ≤ 4096 := by omega
                    have hTN : Aside0 (glueT false ss = 1) := ⟨rfl⟩
                    have HR1 := Aside0.mk hRN
                    clear hN hz hRC hRN
                    go_wp2
                    have H7 := Aside0.mk (blk_alloc H7.out (.cells #[.int .i64 RN, .int .i64 CN, .int .i64 sw, .slice none 0 0] 60))
                    have H4 := Aside0.mk (blk_alloc H4.out (.cells #[.int .i64 RN, .int .i64 CN, .int .i64 sw, .slice none 0 0] 60))
                    have H10 := Aside0.mk (show IsB _ w5.heap.size (row4 RN CN sw (.slice none 0 0)) 60 from blk_new w5 (.cells #[.int .i64 RN, .int .i64 CN, .int .i64 sw, .slice none 0 0] 60))
                    have hg5 : w.heap.size < w5.heap.size := blk_lt (Aside0.mk n0').out
                    have hg7 : g7 < w5.heap.size := hl7
                    have HB := Aside0.mk (below_alloc HB.out (.cells #[.int .i64 RN, .int .i64 CN, .int .i64 sw, .slice none 0 0] 60))
                    obtain ⟨g10, hg10⟩ : ∃ g, g = w5.heap.size := ⟨_, rfl⟩
                    rw [← hg10] at hg5 hg7 H10 ⊢
                    have HG := Aside0.mk (And.intro hg5 hg7)
                    generalize w5.alloc (.cells #[.int .i64 RN, .int .i64 CN, .int .i64 sw, .slice none 0 0] 60) = w6 at H4 H7 H10 HB ⊢
                    clear hg5 hg7 hg10 hl7 n0 n1 n2 n3 nf0 nf1 nf2 nf3 s0 s1 s2 n0'
                    have HP := Aside0.mk (show Places w w6 (.slice none 0 0) (rowG N 0 0) from Kd.R_nil _ _ _ _ _)
                    go_loopg [12] ss.length (fun kq v12 w' => ∃ i : Nat, v12 = .int .i64 i ∧ Aside0 (i + kq = ss.length) ∧ Aside0 (IsB w' w.heap.size (row4 0 0 0 (.slice none 0 0)) 60) ∧ Aside0 (IsB w' g7 (row3 RN CN sw) 34) ∧ (∃ v, Aside0 (IsB w' g10 (row4 RN CN sw v) 60) ∧ Aside0 (Places w w' v (rowG N 0 i))) ∧ Aside0 (Below w.heap.size w w'))
                    case atStart => exact ⟨0, rfl, ⟨by omega⟩, H4, H7, ⟨_, H10, HP⟩, HB⟩
                    case round =>
                      clear H4 H7 H10 HP HB
                      obtain ⟨i, rfl, HI, H4, H7, ⟨v, H10, HP⟩, HB⟩ := hrel
                      by_cases hil : i < ss.length
                      · as_aux_lemma =>
                          have d1 : decide (i < ss.length) = true := decide_eq_true hil
                          have HIL := Aside0.mk hil
                          obtain ⟨gi, hgi⟩ : ∃ x : Nat, x = gk := ⟨_, rfl⟩
                          have HGI := Aside0.mk hgi
                          obtain ⟨n, hn⟩ : ∃ n : Nat, n = N i := ⟨_, rfl⟩
                          have HNI := Aside0.mk hn
                          have hn4 : n ≤ 4096 := by rw [hn]; exact (HNL.out i hil).2
                          have HP := Aside0.mk (show Places w wr v (rowG N 0 i ++ partG 0 i n 0) by simpa [partG] using HP.out)
                          clear hgi hn
                          go_wp2
                          clear d1
                          go_loopg [13] n (fun kq v13 w' => ∃ k : Nat, v13 = .int .i64 k ∧ Aside0 (k + kq = n) ∧ Aside0 (IsB w' w.heap.size (row4 0 0 0 (.slice none 0 0)) 60) ∧ Aside0 (IsB w' g7 (row3 RN CN sw) 34) ∧ (∃ v, Aside0 (IsB w' g10 (row4 RN CN sw v) 60) ∧ Aside0 (Places w w' v (rowG N 0 i ++ partG 0 i n k))) ∧ Aside0 (Below w.heap.size w w'))
                          case atStart => exact ⟨0, rfl, ⟨by omega⟩, H4, H7, ⟨v, H10, HP⟩, HB⟩
                          case round =>
                            clear H4 H7 H10 HP HB
                            obtain ⟨k, rfl, HK, H4, H7, ⟨v, H10, HP⟩, HB⟩ := hrel
                            obtain ⟨adi, hAi, p0, p1, p2⟩ := shape_at HC.out HB.out i hil
                            injection hAi with hAi
                            subst hAi
                            have hxo := getD_ok HOK.out (i := i) hil
                            have hNi := (HNL.out i hil).2
                            have hNe : N i = glueN false (ss.getD i z3) := by rw [HND.out]
                            generalize ss.getD i z3 = x at p0 p1 p2 hxo hNe
                            obtain ⟨xr, xc, xw⟩ := x
                            have hx1 : 1 ≤ xr := hxo.r1
                            have hx2 : xr ≤ 4096 := hxo.r2
                            have hx3 : 1 ≤ xc := hxo.c1
                            have hx4 : xc ≤ 4096 := hxo.c2
                            have hx5 : xr * xc ≤ 4096 := hxo.a
                            simp only at p0 p1 p2
                            obtain ⟨xrn, rfl⟩ := Int.eq_ofNat_of_zero_le (show 0 ≤ xr by omega)
                            obtain ⟨xcn, rfl⟩ := Int.eq_ofNat_of_zero_le (show 0 ≤ xc by omega)
                            have hnP : xrn * xcn = n := by rw [HNI.out, hNe]; show xrn * xcn = (((xrn : Int) * (xcn : Int)).toNat); rw [← Int.natCast_mul, Int.toNat_natCast]
                            have hm : ((xrn : Int) * (xcn : Int)) = (n : Int) := by rw [← hnP, Int.natCast_mul]
                            have hmw : IntKind.i64.wrap ((xrn : Int) * (xcn : Int)) = (n : Int) := by rw [hm]; exact IntWalk.i64_in _ (by omega)
                            have m3 := blk_cell H10.out 3
                            simp only [List.getElem?_toArray, List.getElem?_cons_zero, List.getElem?_cons_succ] at m3
                            have rf3 := blk_frozen H10.out 3
                            clear hxo hNe hnP hNi hx5 hm
                            by_cases hkn : k < n
                            · as_aux_lemma =>
                                have d1 : decide (k < n) = true := decide_eq_true hkn
                                have HL : Aside0 (((rowG N 0 i ++ partG 0 i n k).length + 1) * 16 ≤ 140737488355328) := ⟨by
                                  have hx := HNI.out
                                  have := glue_room (N := N) (m := ss.length) (R := 1) (r := 0) (i := i) (k := k) hl (by omega) (fun i' hi' => (HNL.out i' hi').2) (by omega) HIL.out (by rw [← hx]; exact hkn)
                                  rw [hx]
                                  simpa [allG] using this⟩
                                have HX : Aside0 ((k : Int) = ((0 * n + k : Nat) : Int)) := ⟨by simp⟩
                                have HKN := Aside0.mk hkn
                                have HGN : Aside0 (w.heap.size ≠ g10 ∧ g7 ≠ g10) := ⟨by have := HG.out; omega, by have := HG.out; omega⟩
                                have HGW : Aside0 (w.heap.size ≤ g10) := ⟨by have := HG.out; omega⟩
                                have HPq := HP
                                go_wp2
                                go_quiet (fail)
                                rename_i nq
                                have H4 := Aside0.mk (blk_drewN H4.out nq)
                                have H7 := Aside0.mk (blk_drewN H7.out nq)
                                have H10 := Aside0.mk (blk_drewN H10.out nq)
                                have HP := Aside0.mk (Kd.R_drewN HP.out nq)
                                have HB := Aside0.mk (pw_below_drewN HB.out nq)
                                go_wp2_with ((with_reducible refine gate_builtin (b := .append) (xs := #[.tmp 137, .tmp 141]) rfl ?_); at_builtin; refine Kd.R_append two (w0 := w) w.heap.size rfl (.tmp 137) (.tmp 141) 58 99 (.agg #[.int .i64 0, .int .i64 0]) 16 rfl Try.underlying58 info99 rfl (by decide) (by omega) v (rowG N 0 i ++ partG 0 i n k) ((i : Int), (k : Int)) [.int .i64 (i : Int), .int .i64 (k : Int)] (fun _ => True) (fun _ => False) rfl rfl ?aP (fun _ hk => hk.elim) ?aF ?aO ?aB ?aS ?aL ?_; (case aP => exact ⟨[_], [_], rfl, rfl, rfl⟩); (case aB => exact HB.out); (case aF => exact (fun _ _ => trivial)); (case aO => exact HP.out); (case aS => exact below_size HB.out); (case aL => exact HL.out); intro v9 w7 ho hb hg hat; have HP2 : Aside0 (Places w w7 v9 (rowG N 0 i ++ partG 0 i n (k + 1))) := ⟨by rw [partG_succ, ← List.append_assoc]; exact PlacesI.snoc ho HX.out⟩; have HH4 := Aside0.mk (blk_grown H4.out hg (Kd.R_ne HP.out H4.out (by decide))); have HH7 := Aside0.mk (blk_grown H7.out hg (Kd.R_ne HP.out H7.out (by decide))); have HH10 := Aside0.mk (blk_grown H10.out hg (Kd.R_ne HP.out H10.out (by decide))); have HB2 := Aside0.mk hb; clear ho hb hg hat HP H4 H7 H10 HB m3 rf3 HL HX; have m3 := blk_cell HH10.out 3; simp only [List.getElem?_toArray, List.getElem?_cons_zero, List.getElem?_cons_succ] at m3; have rf3 := blk_frozen HH10.out 3; obtain ⟨A9, c9, hv9⟩ := Kd.R_slice HP2.out; generalize (rowG N 0 i ++ partG 0 i n (k + 1)).length = ln at hv9; subst hv9)
                                go_roundg (gk - 1)
                                case measure => have := HK.out; have := HKN.out; omega
                                case rel => exact ⟨k + 1, by first | go_num | exact next_i (by omega), ⟨by have := HK.out; have := HKN.out; omega⟩, ⟨blk_far HH4.out (p := ⟨g10, 3, none⟩) HGN.out.1 _⟩, ⟨blk_far HH7.out (p := ⟨g10, 3, none⟩) HGN.out.2 _⟩, ⟨_, ⟨blk_set HH10.out 3 _⟩, ⟨Kd.R_set HP2.out HH10.out (two_E 60 (by decide)) 3 _⟩⟩, ⟨below_set HB2.out HGW.out⟩⟩
                            · as_aux_lemma =>
                                have d1 : decide (k < n) = false := decide_eq_false hkn
                                have hkn2 : k = n := by have := HK.out; omega
                                have HP := Aside0.mk (show Places w wr v (rowG N 0 (i + 1)) by have hp := HP.out; rw [hkn2, partG_full, HNI.out, ← rowG_succ] at hp; exact hp)
                                clear HK hkn2
                                go_wp2
                                go_quiet (fail)
                                go_wp2
                                go_roundg (gi - 1)
                                case measure => have := HI.out; have := HIL.out; have := HGI.out; omega
                                case rel => exact ⟨i + 1, by first | go_num | exact next_i6 (by omega), ⟨by have := HI.out; have := HIL.out; have := HGI.out; omega⟩, ⟨blk_drewN H4.out _⟩, ⟨blk_drewN H7.out _⟩, ⟨v, ⟨blk_drewN H10.out _⟩, ⟨Kd.R_drewN HP.out _⟩⟩, ⟨pw_below_drewN HB.out _⟩⟩
                      · as_aux_lemma =>
                          have d1 : decide (i < ss.length) = false := decide_eq_false hil
                          have hin : i = ss.length := by have := HI.out; omega
                          have HP := Aside0.mk (show Places w wr v (glueP false ss) by have hp := HP.out; rw [hin] at hp; unfold glueP; rw [hTN.out, ← HND.out]; simpa [allG] using hp)
                          clear HI hin
                          go_wp2
                          clear d1
                          go_loopg [14] 0 (fun kq v14 w' => v14 = .int .i64 0 ∧ Aside0 (IsB w' w.heap.size (row4 0 0 0 (.slice none 0 0)) 60) ∧ Aside0 (IsB w' g7 (row3 RN CN sw) 34) ∧ (∃ v, Aside0 (IsB w' g10 (row4 RN CN sw v) 60) ∧ Aside0 (Places w w' v (glueP false ss))) ∧ Aside0 (Below w.heap.size w w'))
                          case atStart => exact ⟨rfl, H4, H7, ⟨v, H10, HP⟩, HB⟩
                          case round =>
                            clear H4 H7 H10 HP HB
                            obtain ⟨rfl, H4, H7, ⟨v, H10, HP⟩, HB⟩ := hrel
                            have s0 := blk_cell H7.out 0
                            simp only [List.getElem?_toArray, List.getElem?_cons_zero] at s0
                            have d2 : decide ((0 : Int) < (RN : Int)) = true := decide_eq_true (by have := HR1.out; omega)
                            have hr0 : 0 < RN := by have := HR1.out; omega
                            have n0 := blk_cell H4.out 0
                            have n1 := blk_cell H4.out 1
                            have n2 := blk_cell H4.out 2
                            have n3 := blk_cell H4.out 3
                            have nf0 := blk_frozen H4.out 0
                            have nf1 := blk_frozen H4.out 1
                            have nf2 := blk_frozen H4.out 2
                            have nf3 := blk_frozen H4.out 3
                            have m0 := blk_cell H10.out 0
                            have m1 := blk_cell H10.out 1
                            have m2 := blk_cell H10.out 2
                            have m3 := blk_cell H10.out 3
                            simp only [List.getElem?_toArray, List.getElem?_cons_zero, List.getElem?_cons_succ] at n0 n1 n2 n3 m0 m1 m2 m3
                            obtain ⟨A9, c9, hv9⟩ := Kd.R_slice HP.out
                            generalize hln : (glueP false ss).length = ln at hv9
                            clear hln
                            subst hv9
                            go_wp2
                            have HEc := isB_set4 H4.out (.int .i64 RN) (.int .i64 CN) (.int .i64 sw) (.slice A9 ln c9)
                            have e0 := blk_cell (Aside0.mk HEc).out 0
                            have e1 := blk_cell (Aside0.mk HEc).out 1
                            have e2 := blk_cell (Aside0.mk HEc).out 2
                            have e3 := blk_cell (Aside0.mk HEc).out 3
                            simp only [List.getElem?_toArray, List.getElem?_cons_zero, List.getElem?_cons_succ] at e0 e1 e2 e3
                            refine bodyPost_ret (v := .tuple #[.agg #[.int .i64 RN, .int .i64 CN, .int .i64 sw, .slice A9 ln c9], .int .i64 0]) (by simp [results, Try.results45, go_sem, e0, e1, e2, e3]) rfl (.inr ⟨HE0.out, ?_⟩)
                            rw [HRE.out, HCE.out, show glueW ss = sw by unfold glueW; rw [← HS.out]]
                            exact ⟨_, rfl, R_set4 HP.out H4.out (two_E 60 (by decide)) _ _ _ _, below_set4 HB.out (by omega) _ _ _ _⟩
                  · as_aux_lemma =>
                      have HE := HE0
                      have HNZ := Aside0.mk hz
                      have d2 : (sizedV R C sw != 0) = true := by simpa using hz
                      generalize sizedV R C sw = sz at HE HNZ d2 ⊢
                      clear hz HE0 n0'
                      go_wp2
                      refine bodyPost_ret (v := .tuple #[.agg (row4 0 0 0 (.slice none 0 0)), .int .i64 sz]) (by simp [results, Try.results45, go_sem, n0, n1, n2, n3]) rfl (GlueQ.err HE.out HNZ.out (moveP_none ⟨rfl, ?_⟩))
                      exact below_set4 HB.out (by omega) _ _ _ _
      · as_aux_lemma =>
          have H7 : Aside0 (IsB (wr.alloc (.cells #[.int .i64 sr, .int .i64 sc, .int .i64 sw] 34)) wr.heap.size (row3 sr sc sw) 34) := ⟨blk_new wr _⟩
          have H4 := Aside0.mk (blk_alloc H4.out (.cells #[.int .i64 sr, .int .i64 sc, .int .i64 sw] 34))
          have hg0 : w.heap.size ≤ wr.heap.size := HB.out.size
          have hgl : w.heap.size < wr.heap.size + 1 := by omega
          have hgn : w.heap.size ≠ wr.heap.size := by have := blk_lt H4.out; simp at this; have h2 := ne_blocks H4.out H7.out (by decide); exact h2
          have HB := Aside0.mk (below_alloc HB.out (.cells #[.int .i64 sr, .int .i64 sc, .int .i64 sw] 34))
          obtain ⟨g7, hg7⟩ : ∃ g, g = wr.heap.size := ⟨_, rfl⟩
          rw [← hg7] at H7 hgn hg0 ⊢
          have HG7 := Aside0.mk (And.intro hg0 hgn)
          generalize wr.alloc (.cells #[.int .i64 sr, .int .i64 sc, .int .i64 sw] 34) = w2 at H4 H7 HB ⊢
          clear hg0 hgl hgn hg7 q0 q1 q2 d1 hil
          go_loopg [8] ss.length (fun kq v8 w' => ∃ i : Nat, v8 = .int .i64 i ∧ Aside0 (i + kq = ss.length + 1) ∧ Aside0 (1 ≤ i) ∧ Aside0 (∀ j, j < i → j < ss.length → badS true ss (ss.getD j z3) = false) ∧ Aside0 (IsB w' w.heap.size (row4 0 0 0 (.slice none 0 0)) 60) ∧ Aside0 (IsB w' g7 (row3 sr sc sw) 34) ∧ Aside0 (Below w.heap.size w w'))
          case atStart => exact ⟨1, rfl, ⟨by omega⟩, ⟨by omega⟩, ⟨fun j hj hl => by rw [show j = 0 by omega]; unfold badS; simp⟩, H4, H7, HB⟩
          case round =>
            clear H4 H7 HB
            obtain ⟨i, rfl, HI, HI1, HF, H4, H7, HB⟩ := hrel
            have s0 := blk_cell H7.out 0
            have s1 := blk_cell H7.out 1
            have s2 := blk_cell H7.out 2
            have sf0 := blk_frozen H7.out 0
            have sf1 := blk_frozen H7.out 1
            simp only [List.getElem?_toArray, List.getElem?_cons_zero, List.getElem?_cons_succ] at s0 s1 s2
            by_cases hil : i < ss.length
            · as_aux_lemma =>
                have d1 : decide (i < ss.length) = true := decide_eq_true hil
                obtain ⟨adi, hAi, p0, p1, p2⟩ := shape_at HC.out HB.out i hil
                injection hAi with hAi
                subst hAi
                have hbw : badS true ss (ss.getD i z3) = ((ss.getD i z3).1 != sr) := by unfold badS; rw [← HS.out]; rfl
                have HBW := Aside0.mk hbw
                obtain ⟨x, hx⟩ : ∃ x, x = ss.getD i z3 := ⟨_, rfl⟩
                have HXE := Aside0.mk hx.symm
                rw [← hx] at p0 p1 p2 HBW
                clear hx
                obtain ⟨xr, xc, xw⟩ := x
                simp only at p0 p1 p2
                clear hbw
                have n0 := blk_cell H4.out 0
                have n1 := blk_cell H4.out 1
                have n2 := blk_cell H4.out 2
                have n3 := blk_cell H4.out 3
                have nf0 := blk_frozen H4.out 0
                have nf1 := blk_frozen H4.out 1
                have nf2 := blk_frozen H4.out 2
                have nf3 := blk_frozen H4.out 3
                simp only [List.getElem?_toArray, List.getElem?_cons_zero, List.getElem?_cons_succ] at n0 n1 n2 n3
                by_cases he : xr = sr
                · have dn : (xr != sr) = false := by simp [he]
                  have HF2 := Aside0.mk (show badS true ss (xr, xc, xw) = false by rw [HBW.out]; exact dn)
                  clear he
                  go_wp2
                  go_quiet (fail)
                  go_wp2
                  go_roundg (gk - 1)
                  case measure => have := HI.out; omega
                  case rel => exact ⟨i + 1, by go_num, ⟨by have := HI.out; omega⟩, ⟨by omega⟩, ⟨fun j hj hjl => by
                    by_cases hji : j = i
                    · rw [hji, HXE.out]; exact HF2.out
                    · exact HF.out j (by omega) hjl⟩, ⟨blk_drewN H4.out _⟩, ⟨blk_drewN H7.out _⟩, ⟨pw_below_drewN HB.out _⟩⟩
                · have dn : (xr != sr) = true := by simp [he]
                  have HE : Aside0 (glueE true ss = 4) := ⟨by unfold glueE; rw [if_neg (by have := H0.out; omega), if_neg (by rw [HWF.out]; decide), if_pos (any_of_bad hil (by rw [HXE.out, HBW.out]; exact dn))]⟩
                  clear he
                  go_wp2
                  go_quiet (fail)
                  go_wp2
                  refine bodyPost_ret (v := .tuple #[.agg (row4 0 0 0 (.slice none 0 0)), .int .i64 4]) (by simp [results, Try.results45, go_sem, n0, n1, n2, n3]) rfl (GlueQ.err HE.out (by decide) (moveP_none ⟨rfl, ?_⟩))
                  exact below_set4 (pw_below_drewN HB.out _) (by omega) _ _ _ _
            · have d1 : decide (i < ss.length) = false := decide_eq_false hil
              have HSF := Aside0.mk (any_false_of (p := badS true ss) fun j hj => HF.out j (by omega) hj)
              clear HF HI HI1
              go_wp2
              have H7 := Aside0.mk (show IsB wr g7 (row3 (gR true ss 0) (gC true ss 0) sw) 34 by rw [gR_zero, gC_zero, ← HS.out]; exact H7.out)
              clear s0 s1 s2 sf0 sf1 d1 hil
              go_loopg [9] ss.length (fun kq v9 w' => ∃ j : Nat, v9 = .int .i64 ((j + 1 : Nat) : Int) ∧ Aside0 (j + kq = ss.length) ∧ Aside0 (j < ss.length) ∧ Aside0 (IsB w' w.heap.size (row4 0 0 0 (.slice none 0 0)) 60) ∧ Aside0 (IsB w' g7 (row3 (gR true ss j) (gC true ss j) sw) 34) ∧ Aside0 (Below w.heap.size w w'))
              case atStart => exact ⟨0, rfl, ⟨by omega⟩, H0, H4, H7, HB⟩
              case round =>
                clear H4 H7 HB
                obtain ⟨j, rfl, HJ, HJL, H4, H7, HB⟩ := hrel
                have s0 := blk_cell H7.out 0
                have s1 := blk_cell H7.out 1
                have s2 := blk_cell H7.out 2
                have sf0 := blk_frozen H7.out 0
                have sf1 := blk_frozen H7.out 1
                simp only [List.getElem?_toArray, List.getElem?_cons_zero, List.getElem?_cons_succ] at s0 s1 s2
                have hrc := gRC_ok (side := true) HOK.out HJL.out
                have HRJ : Aside0 (gR true ss (j + 1) = gR true ss j) := ⟨rfl⟩
                have HCJ : Aside0 (gC true ss (j + 1) = gC true ss j + (ss.getD (j + 1) z3).2.1) := ⟨rfl⟩
                have HRE : Aside0 (glueR true ss = gR true ss (ss.length - 1)) := ⟨rfl⟩
                have HCE : Aside0 (glueC true ss = gC true ss (ss.length - 1)) := ⟨rfl⟩
                by_cases hil : j + 1 < ss.length
                · as_aux_lemma =>
                    have d1 : decide (j + 1 < ss.length) = true := decide_eq_true hil
                    obtain ⟨adi, hAi, p0, p1, p2⟩ := shape_at HC.out HB.out (j + 1) hil
                    injection hAi with hAi
                    subst hAi
                    have hxo := getD_ok HOK.out (i := j + 1) hil
                    generalize ss.getD (j + 1) z3 = x at p0 p1 p2 hxo HRJ HCJ
                    generalize gR true ss j = R at s0 hrc HRJ H7
                    generalize gC true ss j = C at s1 hrc HCJ H7
                    obtain ⟨xr, xc, xw⟩ := x
                    have hx1 : 1 ≤ xr := hxo.r1
                    have hx2 : xr ≤ 4096 := hxo.r2
                    have hx3 : 1 ≤ xc := hxo.c1
                    have hx4 : xc ≤ 4096 := hxo.c2
                    simp only at p0 p1 p2 HRJ HCJ
                    have hj5 : (j : Int) ≤ 5001 := by omega
                    obtain ⟨hr1, hr2, hr3, hr4⟩ := hrc
                    have hws : IntKind.i64.wrap (C + xc) = C + xc := IntWalk.i64_in _ (by omega)
                    have HJ2 := Aside0.mk hil
                    have h0j : (0 : Int) ≤ (j : Int) + 1 := by omega
                    clear hxo hr1 hr2 hr3 hr4 hx1 hx2 hx3 hx4
                    go_wp2
                    refine start_ (n := 10) (S := fun w' => w'.cell? ⟨g7, 1, none⟩ = some (.int .i64 C) ∧ w'.cell? ⟨(ad.add ((j + 1) * 3)).block, (ad.add ((j + 1) * 3)).off + 1, none⟩ = some (.int .i64 xc)) (ds := [9]) #[false, false, false, false, false, false, false, false, false, false] (by kernel_rfl) rfl rfl ⟨s1, p1⟩ (fun hHeld => ?_)
                    refine with_tabW F45Rtab18 F45Rbits18 (fun HT_ HW_ => ?_)
                    refine pure_ (i := 0) (N := some 80) (v := ?_) (a' := ?_) #[true, false, false, false, false, false, false, false, false, false] rfl rfl (any_of HT_.out (by kernel_rfl)) (fun _ _ _ h => h) (Or.inl ⟨by rfl, ?_⟩) ?_ ?_
                    rotate_left
                    · intro w'
                      go_simp
                      with_reducible rfl
                    rotate_left
                    · simp only [Act.put, List.setIfInBounds_toArray, List.set_cons_zero, List.set_cons_succ, i64_w, i32_w]
                      rfl
                    refine pure_ (i := 2) (N := some 82) (v := ?_) (a' := ?_) #[true, false, true, false, false, false, false, false, false, false] rfl rfl (any_of HT_.out (by kernel_rfl)) (fun _ _ _ h => h) (Or.inl ⟨by rfl, ?_⟩) ?_ ?_
                    rotate_left
                    · intro w'
                      go_simp
                      with_reducible rfl
                    rotate_left
                    · simp only [Act.put, List.setIfInBounds_toArray, List.set_cons_zero, List.set_cons_succ, i64_w, i32_w]
                      rfl
                    refine pure_ (i := 3) (N := some 83) (v := ?_) (a' := ?_) #[true, false, true, true, false, false, false, false, false, false] rfl rfl (any_of HT_.out (by kernel_rfl)) (fun _ _ _ h => h) (Or.inl ⟨by rfl, ?_⟩) ?_ ?_
                    rotate_left
                    · intro w'
                      go_simp
                      with_reducible rfl
                    rotate_left
                    · simp only [Act.put, List.setIfInBounds_toArray, List.set_cons_zero, List.set_cons_succ, i64_w, i32_w]
                      rfl
                    refine pure_ (i := 4) (N := some 84) (v := ?_) (a' := ?_) #[true, false, true, true, true, false, false, false, false, false] rfl rfl (any_of HT_.out (by kernel_rfl)) (fun _ _ _ h => h) (Or.inl ⟨by rfl, ?_⟩) ?_ ?_
                    rotate_left
                    · intro w'
                      go_simp
                      with_reducible rfl
                    rotate_left
                    · simp only [Act.put, List.setIfInBounds_toArray, List.set_cons_zero, List.set_cons_succ, i64_w, i32_w]
                      rfl
                    refine pure_ (i := 5) (N := some 85) (v := ?_) (a' := ?_) #[true, false, true, true, true, true, false, false, false, false] rfl rfl (any_of HT_.out (by kernel_rfl)) (fun _ _ _ h => h) (Or.inl ⟨by rfl, ?_⟩) ?_ ?_
                    rotate_left
                    · intro w'
                      go_simp
                      with_reducible rfl
                    rotate_left
                    · simp only [Act.put, List.setIfInBounds_toArray, List.set_cons_zero, List.set_cons_succ, i64_w, i32_w]
                      rfl
                    refine take_ (i := 1) (N := some 81) (v := ?_) (a' := ?_) #[true, true, true, true, true, true, false, false, false, false] rfl rfl (take_ofW HT_.out HW_.out (by kernel_rfl)) (fun _ _ _ h => h) (Or.inl ⟨by rfl, ?_⟩) hHeld ?_ ?_
                    rotate_left
                    · rintro w' ⟨s0, s1⟩
                      go_simp
                      with_reducible rfl
                    rotate_left
                    · simp only [Act.put, List.setIfInBounds_toArray, List.set_cons_zero, List.set_cons_succ, i64_w, i32_w]
                      rfl
                    refine take_ (i := 6) (N := some 86) (v := ?_) (a' := ?_) #[true, true, true, true, true, true, true, false, false, false] rfl rfl (take_ofW HT_.out HW_.out (by kernel_rfl)) (fun _ _ _ h => h) (Or.inl ⟨by rfl, ?_⟩) hHeld ?_ ?_
                    rotate_left
                    · rintro w' ⟨s0, s1⟩
                      go_simp
                      with_reducible rfl
                    rotate_left
                    · simp only [Act.put, List.setIfInBounds_toArray, List.set_cons_zero, List.set_cons_succ, i64_w, i32_w]
                      rfl
                    refine pure_ (i := 7) (N := some 87) (v := ?_) (a' := ?_) #[true, true, true, true, true, true, true, true, false, false] rfl rfl (any_of HT_.out (by kernel_rfl)) (fun _ _ _ h => h) (Or.inl ⟨by rfl, ?_⟩) ?_ ?_
                    rotate_left
                    · intro w'
                      go_simp
                      with_reducible rfl
                    rotate_left
                    · simp only [Act.put, List.setIfInBounds_toArray, List.set_cons_zero, List.set_cons_succ, i64_w, i32_w]
                      rfl
                    refine pure_ (i := 8) (N := some 88) (v := ?_) (a' := ?_) #[true, true, true, true, true, true, true, true, true, false] rfl rfl (any_of HT_.out (by kernel_rfl)) (fun _ _ _ h => h) (Or.inl ⟨by rfl, ?_⟩) ?_ ?_
                    rotate_left
                    · intro w'
                      go_simp
                      with_reducible rfl
                    rotate_left
                    · simp only [Act.put, List.setIfInBounds_toArray, List.set_cons_zero, List.set_cons_succ, i64_w, i32_w]
                      rfl
                    refine last_ (i := 9) (N := none) #[true, true, true, true, true, true, true, true, true, true] rfl rfl (one_of HT_.out (by kernel_rfl)) (by decide) (fun K hK => ?_)
                    refine skip_ (w1 := ?_) (by rfl) rfl ?_ ?_
                    rotate_left
                    · go_simp
                      rfl
                    refine hK.out _ _ ?_
                    clear hK K
                    refine done_ (done_of HT_.out (by kernel_rfl)) ?_
                    go_wp2
                    go_roundg (gk - 1)
                    case measure => have := HJ.out; have := HJ2.out; omega
                    case rel => exact ⟨j + 1, by first | go_num | rfl, ⟨by have := HJ.out; have := HJ2.out; omega⟩, HJ2, ⟨blk_far (blk_drew H4.out) (p := ⟨g7, 1, none⟩) HG7.out.2 _⟩, ⟨by rw [HRJ.out, HCJ.out]; exact blk_set (blk_drew H7.out) 1 _⟩, ⟨below_set (below_drew HB.out) HG7.out.1⟩⟩
                · have d1 : decide (j + 1 < ss.length) = false := decide_eq_false hil
                  have hjl : j = ss.length - 1 := by have := HJL.out; omega
                  rw [← hjl] at HRE HCE
                  generalize gR true ss j = R at s0 hrc H7 HRE
                  generalize gC true ss j = C at s1 hrc H7 HCE
                  clear hjl HRJ HCJ HJ HJL hrc
                  go_wp2_with fail
                  refine (pupilref7_Sized.calls 1 R C sw (sizedV R C sw) _ (refSized_eq 0 R C sw)).mono ?_
                  rintro e w5 ⟨rfl, hd⟩
                  have hb := hd.below
                  clear hd
                  have H4 := Aside0.mk (blk_below H4.out hb)
                  have H7 := Aside0.mk (blk_below H7.out hb)
                  have HB := Aside0.mk (below_step HB.out hb)
                  clear hb s0 s1 s2 sf0 sf1 d1 hil
                  have HE0 : Aside0 (glueE true ss = sizedV R C sw) := ⟨by unfold glueE; rw [if_neg (by have := H0.out; omega), if_neg (by rw [HWF.out]; decide), if_neg (by rw [HSF.out]; decide), HRE.out, HCE.out]; unfold glueW; rw [← HS.out]⟩
                  have n0 := blk_cell H4.out 0
                  have n1 := blk_cell H4.out 1
                  have n2 := blk_cell H4.out 2
                  have n3 := blk_cell H4.out 3
                  have nf0 := blk_frozen H4.out 0
                  have nf1 := blk_frozen H4.out 1
                  have nf2 := blk_frozen H4.out 2
                  have nf3 := blk_frozen H4.out 3
                  simp only [List.getElem?_toArray, List.getElem?_cons_zero, List.getElem?_cons_succ] at n0 n1 n2 n3
                  have n0' := H4.out
                  by_cases hz : sizedV R C sw = 0
                  · have hRC := sized_ok hz
                    rw [hz] at HE0 ⊢
                    obtain ⟨RN, rfl⟩ := Int.eq_ofNat_of_zero_le (show 0 ≤ R by omega)
                    obtain ⟨CN, rfl⟩ := Int.eq_ofNat_of_zero_le (show 0 ≤ C by omega)
                    have s0 := blk_cell H7.out 0
                    have s1 := blk_cell H7.out 1
                    have s2 := blk_cell H7.out 2
                    have hl7 := blk_lt H7.out
                    simp only [List.getElem?_toArray, List.getElem?_cons_zero, List.getElem?_cons_succ] at s0 s1 s2
                    obtain ⟨N, hN⟩ : ∃ N : Nat → Nat, N = fun i => glueN true (ss.getD i z3) := ⟨_, rfl⟩
                    have HND := Aside0.mk hN
                    have HNL := Aside0.mk (show ∀ i, i < ss.length → 1 ≤ N i ∧ N i ≤ 4096 from fun i hi => by rw [hN]; exact glueN_le (getD_ok HOK.out hi))
                    have hRN : 1 ≤ RN ∧ RN ≤ 4096 ∧ CN ≤ 4096 := by omega
                    have hTN : Aside0 (glueT true ss = RN) := ⟨by unfold glueT; rw [if_pos rfl, HRE.out, Int.toNat_natCast]⟩
                    have HR1 := Aside0.mk hRN
                    clear hN hz hRC hRN
                    go_wp2
                    have H7 := Aside0.mk (blk_alloc H7.out (.cells #[.int .i64 RN, .int .i64 CN, .int .i64 sw, .slice none 0 0] 60))
                    have H4 := Aside0.mk (blk_alloc H4.out (.cells #[.int .i64 RN, .int .i64 CN, .int .i64 sw, .slice none 0 0] 60))
                    have H10 := Aside0.mk (show IsB _ w5.heap.size (row4 RN CN sw (.slice none 0 0)) 60 from blk_new w5 (.cells #[.int .i64 RN, .int .i64 CN, .int .i64 sw, .slice none 0 0] 60))
                    have hg5 : w.heap.size < w5.heap.size := blk_lt (Aside0.mk n0').out
                    have hg7 : g7 < w5.heap.size := hl7
                    have HB := Aside0.mk (below_alloc HB.out (.cells #[.int .i64 RN, .int .i64 CN, .int .i64 sw, .slice none 0 0] 60))
                    obtain ⟨g10, hg10⟩ : ∃ g, g = w5.heap.size := ⟨_, rfl⟩
                    rw [← hg10] at hg5 hg7 H10 ⊢
                    have HG := Aside0.mk (And.intro hg5 hg7)
                    generalize w5.alloc (.cells #[.int .i64 RN, .int .i64 CN, .int .i64 sw, .slice none 0 0] 60) = w6 at H4 H7 H10 HB ⊢
                    clear hg5 hg7 hg10 hl7 n0 n1 n2 n3 nf0 nf1 nf2 nf3 s0 s1 s2 n0'
                    have HP := Aside0.mk (show Places w w6 (.slice none 0 0) [] from Kd.R_nil _ _ _ _ _)
                    go_loopg [12] 0 (fun kq v12 w' => v12 = .int .i64 0 ∧ Aside0 (IsB w' w.heap.size (row4 0 0 0 (.slice none 0 0)) 60) ∧ Aside0 (IsB w' g7 (row3 RN CN sw) 34) ∧ (∃ v, Aside0 (IsB w' g10 (row4 RN CN sw v) 60) ∧ Aside0 (Places w w' v ([]))) ∧ Aside0 (Below w.heap.size w w'))
                    case atStart => exact ⟨rfl, H4, H7, ⟨_, H10, HP⟩, HB⟩
                    case round =>
                      clear H4 H7 H10 HP HB
                      obtain ⟨rfl, H4, H7, ⟨v, H10, HP⟩, HB⟩ := hrel
                      have d0 : decide ((0 : Int) < (ss.length : Int)) = true := decide_eq_true (by omega)
                      go_wp2
                      clear d0
                      have HP := Aside0.mk (show Places w wr v (allG N 0 ss.length) from HP.out)
                      go_loopg [14] RN (fun kq v14 w' => ∃ r : Nat, v14 = .int .i64 r ∧ Aside0 (r + kq = RN) ∧ Aside0 (IsB w' w.heap.size (row4 0 0 0 (.slice none 0 0)) 60) ∧ Aside0 (IsB w' g7 (row3 RN CN sw) 34) ∧ (∃ v, Aside0 (IsB w' g10 (row4 RN CN sw v) 60) ∧ Aside0 (Places w w' v (allG N r ss.length))) ∧ Aside0 (Below w.heap.size w w'))
                      case atStart => exact ⟨0, rfl, ⟨by omega⟩, H4, H7, ⟨v, H10, HP⟩, HB⟩
                      case round =>
                        clear H4 H7 H10 HP HB
                        obtain ⟨r, rfl, HR, H4, H7, ⟨v, H10, HP⟩, HB⟩ := hrel
                        have s0 := blk_cell H7.out 0
                        simp only [List.getElem?_toArray, List.getElem?_cons_zero] at s0
                        by_cases hrT : r < RN
                        · as_aux_lemma =>
                            have d1 : decide (r < RN) = true := decide_eq_true hrT
                            have hr4 : r ≤ 4096 := by have := HR1.out; omega
                            obtain ⟨gr, hgr⟩ : ∃ x : Nat, x = gk := ⟨_, rfl⟩
                            have HGR := Aside0.mk hgr
                            have HRT := Aside0.mk hrT
                            clear hgr
                            have HP := Aside0.mk (show Places w wr v (allG N r ss.length ++ rowG N r 0) by simpa [rowG] using HP.out)
                            go_wp2
                            clear d1 s0
                            go_loopg [15] ss.length (fun kq v15 w' => ∃ i : Nat, v15 = .int .i64 i ∧ Aside0 (i + kq = ss.length) ∧ Aside0 (IsB w' w.heap.size (row4 0 0 0 (.slice none 0 0)) 60) ∧ Aside0 (IsB w' g7 (row3 RN CN sw) 34) ∧ (∃ v, Aside0 (IsB w' g10 (row4 RN CN sw v) 60) ∧ Aside0 (Places w w' v (allG N r ss.length ++ rowG N r i))) ∧ Aside0 (Below w.heap.size w w'))
                            case atStart => exact ⟨0, rfl, ⟨by omega⟩, H4, H7, ⟨v, H10, HP⟩, HB⟩
                            case round =>
                              clear H4 H7 H10 HP HB
                              obtain ⟨i, rfl, HI, H4, H7, ⟨v, H10, HP⟩, HB⟩ := hrel
                              by_cases hil : i < ss.length
                              · as_aux_lemma =>
                                  have d1 : decide (i < ss.length) = true := decide_eq_true hil
                                  have HIL := Aside0.mk hil
                                  obtain ⟨gi, hgi⟩ : ∃ x : Nat, x = gk := ⟨_, rfl⟩
                                  have HGI := Aside0.mk hgi
                                  obtain ⟨n, hn⟩ : ∃ n : Nat, n = N i := ⟨_, rfl⟩
                                  have HNI := Aside0.mk hn
                                  have hn4 : n ≤ 4096 := by rw [hn]; exact (HNL.out i hil).2
                                  have HP := Aside0.mk (show Places w wr v (allG N r ss.length ++ rowG N r i ++ partG r i n 0) by simpa [partG] using HP.out)
                                  clear hgi hn
                                  go_wp2
                                  clear d1
                                  go_loopg [16] n (fun kq v16 w' => ∃ k : Nat, v16 = .int .i64 k ∧ Aside0 (k + kq = n) ∧ Aside0 (IsB w' w.heap.size (row4 0 0 0 (.slice none 0 0)) 60) ∧ Aside0 (IsB w' g7 (row3 RN CN sw) 34) ∧ (∃ v, Aside0 (IsB w' g10 (row4 RN CN sw v) 60) ∧ Aside0 (Places w w' v (allG N r ss.length ++ rowG N r i ++ partG r i n k))) ∧ Aside0 (Below w.heap.size w w'))
                                  case atStart => exact ⟨0, rfl, ⟨by omega⟩, H4, H7, ⟨v, H10, HP⟩, HB⟩
                                  case round =>
                                    clear H4 H7 H10 HP HB
                                    obtain ⟨k, rfl, HK, H4, H7, ⟨v, H10, HP⟩, HB⟩ := hrel
                                    obtain ⟨adw, hAw, _, pw1, _⟩ := shape_at HC.out (Below.refl _ _) i hil
                                    injection hAw with hAw
                                    subst hAw
                                    obtain ⟨adi, hAi, p0, p1, p2⟩ := shape_at HC.out HB.out i hil
                                    injection hAi with hAi
                                    subst hAi
                                    have hxo := getD_ok HOK.out (i := i) hil
                                    have hNi := (HNL.out i hil).2
                                    have hNe : N i = glueN true (ss.getD i z3) := by rw [HND.out]
                                    generalize ss.getD i z3 = x at p0 p1 p2 hxo hNe
                                    obtain ⟨xr, xc, xw⟩ := x
                                    have hx1 : 1 ≤ xr := hxo.r1
                                    have hx2 : xr ≤ 4096 := hxo.r2
                                    have hx3 : 1 ≤ xc := hxo.c1
                                    have hx4 : xc ≤ 4096 := hxo.c2
                                    have hx5 : xr * xc ≤ 4096 := hxo.a
                                    simp only at p0 p1 p2
                                    obtain ⟨xrn, rfl⟩ := Int.eq_ofNat_of_zero_le (show 0 ≤ xr by omega)
                                    obtain ⟨xcn, rfl⟩ := Int.eq_ofNat_of_zero_le (show 0 ≤ xc by omega)
                                    have hnx : n = xcn := by rw [HNI.out, hNe]; exact Int.toNat_natCast xcn
                                    subst hnx
                                    have hpw : w.cell? ⟨(ad.add (i * 3)).block, (ad.add (i * 3)).off + 1, none⟩ = some (.int .i64 n) := (HB.out.cell (World.block_lt_of_cell? w _ pw1)).symm.trans p1
                                    clear hxo hNe hNi hx5 pw1 p0 p2 hx1 hx2 hx3 hx4
                                    by_cases hkn : k < n
                                    · as_aux_lemma =>
                                        have d1 : decide (k < n) = true := decide_eq_true hkn
                                        have HL : Aside0 (((allG N r ss.length ++ rowG N r i ++ partG r i n k).length + 1) * 16 ≤ 140737488355328) := ⟨by
                                          have hx := HNI.out
                                          rw [hx]
                                          exact glue_room (R := r + 1) hl (by have := HRT.out; have := HR1.out; omega) (fun i' hi' => (HNL.out i' hi').2) (Nat.lt_succ_self r) HIL.out (by rw [← hx]; exact hkn)⟩
                                        have HKN := Aside0.mk hkn
                                        have HGN : Aside0 (w.heap.size ≠ g10 ∧ g7 ≠ g10) := ⟨by have := HG.out; omega, by have := HG.out; omega⟩
                                        have HGW : Aside0 (w.heap.size ≤ g10) := ⟨by have := HG.out; omega⟩
                                        obtain ⟨Q, hQ⟩ : ∃ Q : Nat, Q = r * n := ⟨_, rfl⟩
                                        obtain ⟨Z, hZ⟩ : ∃ Z : Nat, Z = r * n + k := ⟨_, rfl⟩
                                        have hQ4 : Q ≤ 4096 * 4096 := by rw [hQ]; exact Nat.mul_le_mul hr4 hn4
                                        have hwQ : IntKind.i64.wrap ((r : Int) * (n : Int)) = (Q : Int) := by rw [← Int.natCast_mul, ← hQ]; exact IntWalk.i64_in _ (by omega)
                                        have hwZ : IntKind.i64.wrap ((Q : Int) + (k : Int)) = (Z : Int) := by rw [hZ, ← hQ]; exact IntWalk.i64_in _ (by omega)
                                        have HZ := Aside0.mk hZ
                                        have HPW := Aside0.mk hpw
                                        have m3 := blk_cell H10.out 3
                                        simp only [List.getElem?_toArray, List.getElem?_cons_zero, List.getElem?_cons_succ] at m3
                                        obtain ⟨A8, c8, hv8⟩ := Kd.R_slice HP.out
                                        generalize hln8 : (allG N r ss.length ++ rowG N r i ++ partG r i n k).length = l8 at hv8
                                        have HL8 := Aside0.mk hln8
                                        subst hv8
                                        clear hQ hZ hpw hln8
                                        go_wp2
                                        refine start_ (n := 17) (S := fun w' => w'.cell? ⟨g10, 3, none⟩ = some (.slice A8 l8 c8) ∧ w'.cell? ⟨(ad.add (i * 3)).block, (ad.add (i * 3)).off + 1, none⟩ = some (.int .i64 n)) (ds := [16]) #[false, false, false, false, false, false, false, false, false, false, false, false, false, false, false, false, false] (by kernel_rfl) rfl rfl ⟨m3, p1⟩ (fun hHeld => ?_)
                                        refine with_tabW F45Rtab40 F45Rbits40 (fun HT_ HW_ => ?_)
                                        refine pure_ (i := 0) (N := some 168) (v := ?_) (a' := ?_) #[true, false, false, false, false, false, false, false, false, false, false, false, false, false, false, false, false] rfl rfl (any_of HT_.out (by kernel_rfl)) (fun _ _ _ h => h) (Or.inl ⟨by rfl, ?_⟩) ?_ ?_
                                        rotate_left
                                        · intro w'
                                          go_simp
                                          with_reducible rfl
                                        rotate_left
                                        · simp only [Act.put, List.setIfInBounds_toArray, List.set_cons_zero, List.set_cons_succ, i64_w, i32_w]
                                          rfl
                                        refine pure_ (i := 2) (N := some 170) (v := ?_) (a' := ?_) #[true, false, true, false, false, false, false, false, false, false, false, false, false, false, false, false, false] rfl rfl (any_of HT_.out (by kernel_rfl)) (fun _ _ _ h => h) (Or.inl ⟨by rfl, ?_⟩) ?_ ?_
                                        rotate_left
                                        · intro w'
                                          go_simp
                                          with_reducible rfl
                                        rotate_left
                                        · simp only [Act.put, List.setIfInBounds_toArray, List.set_cons_zero, List.set_cons_succ, i64_w, i32_w]
                                          rfl
                                        refine pure_ (i := 3) (N := some 171) (v := ?_) (a' := ?_) #[true, false, true, true, false, false, false, false, false, false, false, false, false, false, false, false, false] rfl rfl (any_of HT_.out (by kernel_rfl)) (fun _ _ _ h => h) (Or.inl ⟨by rfl, ?_⟩) ?_ ?_
                                        rotate_left
                                        · intro w'
                                          go_simp
                                          with_reducible rfl
                                        rotate_left
                                        · simp only [Act.put, List.setIfInBounds_toArray, List.set_cons_zero, List.set_cons_succ, i64_w, i32_w]
                                          rfl
                                        refine pure_ (i := 4) (N := some 172) (v := ?_) (a' := ?_) #[true, false, true, true, true, false, false, false, false, false, false, false, false, false, false, false, false] rfl rfl (any_of HT_.out (by kernel_rfl)) (fun _ _ _ h => h) (Or.inl ⟨by rfl, ?_⟩) ?_ ?_
                                        rotate_left
                                        · intro w'
                                          go_simp
                                          with_reducible rfl
                                        rotate_left
                                        · simp only [Act.put, List.setIfInBounds_toArray, List.set_cons_zero, List.set_cons_succ, i64_w, i32_w]
                                          rfl
                                        refine pure_ (i := 5) (N := some 173) (v := ?_) (a' := ?_) #[true, false, true, true, true, true, false, false, false, false, false, false, false, false, false, false, false] rfl rfl (any_of HT_.out (by kernel_rfl)) (fun _ _ _ h => h) (Or.inl ⟨by rfl, ?_⟩) ?_ ?_
                                        rotate_left
                                        · intro w'
                                          go_simp
                                          with_reducible rfl
                                        rotate_left
                                        · simp only [Act.put, List.setIfInBounds_toArray, List.set_cons_zero, List.set_cons_succ, i64_w, i32_w]
                                          rfl
                                        refine pure_ (i := 6) (N := some 174) (v := ?_) (a' := ?_) #[true, false, true, true, true, true, true, false, false, false, false, false, false, false, false, false, false] rfl rfl (any_of HT_.out (by kernel_rfl)) (fun _ _ _ h => h) (Or.inl ⟨by rfl, ?_⟩) ?_ ?_
                                        rotate_left
                                        · intro w'
                                          go_simp
                                          with_reducible rfl
                                        rotate_left
                                        · simp only [Act.put, List.setIfInBounds_toArray, List.set_cons_zero, List.set_cons_succ, i64_w, i32_w]
                                          rfl
                                        refine pure_ (i := 7) (N := some 175) (v := ?_) (a' := ?_) #[true, false, true, true, true, true, true, true, false, false, false, false, false, false, false, false, false] rfl rfl (any_of HT_.out (by kernel_rfl)) (fun _ _ _ h => h) (Or.inl ⟨by rfl, ?_⟩) ?_ ?_
                                        rotate_left
                                        · intro w'
                                          go_simp
                                          with_reducible rfl
                                        rotate_left
                                        · simp only [Act.put, List.setIfInBounds_toArray, List.set_cons_zero, List.set_cons_succ, i64_w, i32_w]
                                          rfl
                                        refine pure_ (i := 10) (N := some 178) (v := ?_) (a' := ?_) #[true, false, true, true, true, true, true, true, false, false, true, false, false, false, false, false, false] rfl rfl (any_of HT_.out (by kernel_rfl)) (fun _ _ _ h => h) (Or.inl ⟨by rfl, ?_⟩) ?_ ?_
                                        rotate_left
                                        · intro w'
                                          go_simp
                                          with_reducible rfl
                                        rotate_left
                                        · simp only [Act.put, List.setIfInBounds_toArray, List.set_cons_zero, List.set_cons_succ, i64_w, i32_w]
                                          rfl
                                        refine take_ (i := 1) (N := some 169) (v := ?_) (a' := ?_) #[true, true, true, true, true, true, true, true, false, false, true, false, false, false, false, false, false] rfl rfl (take_ofW HT_.out HW_.out (by kernel_rfl)) (fun _ _ _ h => h) (Or.inl ⟨by rfl, ?_⟩) hHeld ?_ ?_
                                        rotate_left
                                        · rintro w' ⟨s0, s1⟩
                                          go_simp
                                          with_reducible rfl
                                        rotate_left
                                        · simp only [Act.put, List.setIfInBounds_toArray, List.set_cons_zero, List.set_cons_succ, i64_w, i32_w]
                                          rfl
                                        refine take_ (i := 8) (N := some 176) (v := ?_) (a' := ?_) #[true, true, true, true, true, true, true, true, true, false, true, false, false, false, false, false, false] rfl rfl (take_ofW HT_.out HW_.out (by kernel_rfl)) (fun _ _ _ h => h) (Or.inl ⟨by rfl, ?_⟩) hHeld ?_ ?_
                                        rotate_left
                                        · rintro w' ⟨s0, s1⟩
                                          go_simp
                                          with_reducible rfl
                                        rotate_left
                                        · simp only [Act.put, List.setIfInBounds_toArray, List.set_cons_zero, List.set_cons_succ, i64_w, i32_w]
                                          rfl
                                        refine pure_ (i := 9) (N := some 177) (v := .int .i64 Q) (a' := ?ac1) #[true, true, true, true, true, true, true, true, true, true, true, false, false, false, false, false, false] rfl rfl (any_of HT_.out (by kernel_rfl)) (fun _ _ _ h => h) (Or.inl ⟨by rfl, ?run1⟩) ?ha1 ?hh1
                                        case run1 =>
                                          intro w'
                                          as_aux_lemma => (go_simp)
                                        case ha1 =>
                                          simp only [Act.put, List.setIfInBounds_toArray, List.set_cons_zero, List.set_cons_succ, i64_w, i32_w]
                                          rfl
                                        refine pure_ (i := 11) (N := some 179) (v := .int .i64 Z) (a' := ?ac2) #[true, true, true, true, true, true, true, true, true, true, true, true, false, false, false, false, false] rfl rfl (any_of HT_.out (by kernel_rfl)) (fun _ _ _ h => h) (Or.inl ⟨by rfl, ?run2⟩) ?ha2 ?hh2
                                        case run2 =>
                                          intro w'
                                          as_aux_lemma => (go_simp)
                                        case ha2 =>
                                          simp only [Act.put, List.setIfInBounds_toArray, List.set_cons_zero, List.set_cons_succ, i64_w, i32_w]
                                          rfl
                                        refine pure_ (i := 12) (N := some 180) (v := ?_) (a' := ?_) #[true, true, true, true, true, true, true, true, true, true, true, true, true, false, false, false, false] rfl rfl (any_of HT_.out (by kernel_rfl)) (fun _ _ _ h => h) (Or.inl ⟨by rfl, ?_⟩) ?_ ?_
                                        rotate_left
                                        · intro w'
                                          go_simp
                                          with_reducible rfl
                                        rotate_left
                                        · simp only [Act.put, List.setIfInBounds_toArray, List.set_cons_zero, List.set_cons_succ, i64_w, i32_w]
                                          rfl
                                        refine one_ (i := 13) (N := some 181) #[true, true, true, true, true, true, true, true, true, true, true, true, true, true, false, false, false] rfl rfl (one_of HT_.out (by kernel_rfl)) (by decide) (fun K hK => ?_)
                                        refine value_ (w1 := ?_) (v := ?_) (by rfl) rfl ?_ ?_
                                        rotate_left 2
                                        · go_simp
                                          constructor
                                          · rfl
                                          · rfl
                                        refine hK.out _ _ ⟨(blk_cell (blk_alloc (blk_drew H10.out) _) 3).trans rfl, pw_cell_below (below_alloc (Below.drew HB.out) _) HPW.out⟩ (fun hHeld => ?_)
                                        clear hK K
                                        refine norm_ (a' := ?_) ?_ ?_
                                        rotate_left
                                        · show Act.put _ (some 181) _ = _
                                          simp only [Act.put, List.setIfInBounds_toArray, List.set_cons_zero, List.set_cons_succ, i64_w, i32_w]
                                          rfl
                                        refine one_ (i := 14) (N := some 182) #[true, true, true, true, true, true, true, true, true, true, true, true, true, true, true, false, false] rfl rfl (one_of HT_.out (by kernel_rfl)) (by decide) (fun K hK => ?_)
                                        rw [show (wr.alloc (.cells #[.int .i64 (i : Int), .int .i64 (Z : Int)] 99)).drew = wr.drew.alloc (.cells #[.int .i64 (i : Int), .int .i64 (Z : Int)] 99) from rfl]
                                        refine Kd.R_append_step two (w0 := w) w.heap.size (by rfl) (.tmp 169) (.tmp 181) 58 99 (.agg #[.int .i64 0, .int .i64 0]) 16 rfl Try.underlying58 info99 rfl (by decide) (by omega) (.slice A8 l8 c8) (allG N r ss.length ++ rowG N r i ++ partG r i n k) ((i : Int), (Z : Int)) [.int .i64 (i : Int), .int .i64 (Z : Int)] (fun _ => True) (fun _ => False) rfl rfl ?aP (fun _ hk => hk.elim) ?aF ?aO ?aB ?aS ?aL ?_
                                        (case aP => exact ⟨[_], [_], rfl, rfl, rfl⟩)
                                        (case aF => exact (fun _ _ => trivial))
                                        (case aO => exact Kd.R_drew HP.out)
                                        (case aB => exact Below.drew HB.out)
                                        (case aS => exact below_size (Below.drew HB.out))
                                        (case aL => exact HL.out)
                                        intro v9 w7 ho hb hg hat
                                        have HP2 : Aside0 (Places w w7 v9 (allG N r ss.length ++ rowG N r i ++ partG r i n (k + 1))) := ⟨by rw [partG_succ, ← List.append_assoc, ← HZ.out]; exact ho⟩
                                        have HH4 := Aside0.mk (blk_grown (blk_drew H4.out) hg (Kd.R_ne (Kd.R_drew HP.out) (blk_drew H4.out) (by decide)))
                                        have HH7 := Aside0.mk (blk_grown (blk_drew H7.out) hg (Kd.R_ne (Kd.R_drew HP.out) (blk_drew H7.out) (by decide)))
                                        have HH10 := Aside0.mk (blk_grown (blk_drew H10.out) hg (Kd.R_ne (Kd.R_drew HP.out) (blk_drew H10.out) (by decide)))
                                        have HB2 := Aside0.mk hb
                                        have q3 := blk_cell HH10.out 3
                                        simp only [List.getElem?_toArray, List.getElem?_cons_zero, List.getElem?_cons_succ] at q3
                                        have rf3 := blk_frozen HH10.out 3
                                        obtain ⟨A9, c9, hv9⟩ := Kd.R_slice HP2.out
                                        generalize hln9 : (allG N r ss.length ++ rowG N r i ++ partG r i n (k + 1)).length = ln at hv9
                                        clear hln9
                                        subst hv9
                                        refine hK.out _ _ ⟨q3, pw_cell_below HB2.out HPW.out⟩ (fun hHeld => ?_)
                                        clear hK K
                                        refine norm_ (a' := ?_) ?_ ?_
                                        rotate_left
                                        · show Act.put _ (some 182) _ = _
                                          simp only [Act.put, List.setIfInBounds_toArray, List.set_cons_zero, List.set_cons_succ, i64_w, i32_w]
                                          rfl
                                        refine pure_ (i := 15) (N := some 183) (v := ?_) (a' := ?_) #[true, true, true, true, true, true, true, true, true, true, true, true, true, true, true, true, false] rfl rfl (any_of HT_.out (by kernel_rfl)) (fun _ _ _ h => h) (Or.inl ⟨by rfl, ?_⟩) ?_ ?_
                                        rotate_left
                                        · intro w'
                                          go_simp
                                          with_reducible rfl
                                        rotate_left
                                        · simp only [Act.put, List.setIfInBounds_toArray, List.set_cons_zero, List.set_cons_succ, i64_w, i32_w]
                                          rfl
                                        refine last_ (i := 16) (N := none) #[true, true, true, true, true, true, true, true, true, true, true, true, true, true, true, true, true] rfl rfl (one_of HT_.out (by kernel_rfl)) (by decide) (fun K hK => ?_)
                                        refine skip_ (w1 := ?_) (by rfl) rfl ?_ ?_
                                        rotate_left
                                        · go_simp
                                          rfl
                                        refine hK.out _ _ ?_
                                        clear hK K
                                        refine done_ (done_of HT_.out (by kernel_rfl)) ?_
                                        go_wp2
                                        go_roundg (gk - 1)
                                        case measure => have := HK.out; have := HKN.out; omega
                                        case rel => exact ⟨k + 1, by first | go_num | exact next_i (by omega), ⟨by have := HK.out; have := HKN.out; omega⟩, ⟨blk_far HH4.out (p := ⟨g10, 3, none⟩) HGN.out.1 _⟩, ⟨blk_far HH7.out (p := ⟨g10, 3, none⟩) HGN.out.2 _⟩, ⟨_, ⟨blk_set HH10.out 3 _⟩, ⟨Kd.R_set HP2.out HH10.out (two_E 60 (by decide)) 3 _⟩⟩, ⟨below_set HB2.out HGW.out⟩⟩
                                    · as_aux_lemma =>
                                        have d1 : decide (k < n) = false := decide_eq_false hkn
                                        have hkn2 : k = n := by have := HK.out; omega
                                        have HP := Aside0.mk (show Places w wr v (allG N r ss.length ++ rowG N r (i + 1)) by have hp := HP.out; rw [hkn2, partG_full, HNI.out, List.append_assoc, ← rowG_succ] at hp; exact hp)
                                        clear HK hkn2
                                        go_wp2
                                        go_roundg (gi - 1)
                                        case measure => have := HI.out; have := HIL.out; have := HGI.out; omega
                                        case rel => exact ⟨i + 1, by first | go_num | exact next_i6 (by omega), ⟨by have := HI.out; have := HIL.out; have := HGI.out; omega⟩, H4, H7, ⟨v, H10, HP⟩, HB⟩
                              · as_aux_lemma =>
                                  have d1 : decide (i < ss.length) = false := decide_eq_false hil
                                  have hin : i = ss.length := by have := HI.out; omega
                                  have HP := Aside0.mk (show Places w wr v (allG N (r + 1) ss.length) by have hp := HP.out; rw [hin, ← allG_succ] at hp; exact hp)
                                  clear HI hin
                                  go_wp2
                                  go_roundg (gr - 1)
                                  case measure => have := HR.out; have := HRT.out; have := HGR.out; omega
                                  case rel => exact ⟨r + 1, by first | go_num | exact next_i (by omega), ⟨by have := HR.out; have := HRT.out; have := HGR.out; omega⟩, H4, H7, ⟨v, H10, HP⟩, HB⟩
                        · as_aux_lemma =>
                            have d1 : decide (r < RN) = false := decide_eq_false hrT
                            have hrn : r = RN := by have := HR.out; omega
                            have HP := Aside0.mk (show Places w wr v (glueP true ss) by have hp := HP.out; rw [hrn] at hp; unfold glueP; rw [hTN.out, ← HND.out]; exact hp)
                            clear HR hrn
                            have n0 := blk_cell H4.out 0
                            have n1 := blk_cell H4.out 1
                            have n2 := blk_cell H4.out 2
                            have n3 := blk_cell H4.out 3
                            have nf0 := blk_frozen H4.out 0
                            have nf1 := blk_frozen H4.out 1
                            have nf2 := blk_frozen H4.out 2
                            have nf3 := blk_frozen H4.out 3
                            have m0 := blk_cell H10.out 0
                            have m1 := blk_cell H10.out 1
                            have m2 := blk_cell H10.out 2
                            have m3 := blk_cell H10.out 3
                            simp only [List.getElem?_toArray, List.getElem?_cons_zero, List.getElem?_cons_succ] at n0 n1 n2 n3 m0 m1 m2 m3
                            obtain ⟨A9, c9, hv9⟩ := Kd.R_slice HP.out
                            generalize hln : (glueP true ss).length = ln at hv9
                            clear hln
                            subst hv9
                            go_wp2
                            have HEc := isB_set4 H4.out (.int .i64 RN) (.int .i64 CN) (.int .i64 sw) (.slice A9 ln c9)
                            have e0 := blk_cell (Aside0.mk HEc).out 0
                            have e1 := blk_cell (Aside0.mk HEc).out 1
                            have e2 := blk_cell (Aside0.mk HEc).out 2
                            have e3 := blk_cell (Aside0.mk HEc).out 3
                            simp only [List.getElem?_toArray, List.getElem?_cons_zero, List.getElem?_cons_succ] at e0 e1 e2 e3
                            refine bodyPost_ret (v := .tuple #[.agg #[.int .i64 RN, .int .i64 CN, .int .i64 sw, .slice A9 ln c9], .int .i64 0]) (by simp [results, Try.results45, go_sem, e0, e1, e2, e3]) rfl (.inr ⟨HE0.out, ?_⟩)
                            rw [HRE.out, HCE.out, show glueW ss = sw by unfold glueW; rw [← HS.out]]
                            exact ⟨_, rfl, R_set4 HP.out H4.out (two_E 60 (by decide)) _ _ _ _, below_set4 HB.out (by omega) _ _ _ _⟩
                  · as_aux_lemma =>
                      have HE := HE0
                      have HNZ := Aside0.mk hz
                      have d2 : (sizedV R C sw != 0) = true := by simpa using hz
                      generalize sizedV R C sw = sz at HE HNZ d2 ⊢
                      clear hz HE0 n0'
                      go_wp2
                      refine bodyPost_ret (v := .tuple #[.agg (row4 0 0 0 (.slice none 0 0)), .int .i64 sz]) (by simp [results, Try.results45, go_sem, n0, n1, n2, n3]) rfl (GlueQ.err HE.out HNZ.out (moveP_none ⟨rfl, ?_⟩))
                      exact below_set4 HB.out (by omega) _ _ _ _

end Go.Proofs.Ytklomikdihlcgaa
