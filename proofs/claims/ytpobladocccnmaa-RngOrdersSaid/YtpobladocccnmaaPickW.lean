/- slices.Sort at this program, and the walk of rng.Pick. -/
import Derived.Test.YtpobladocccnmaaAlive
import Derived.Test.YtpobladocccnmaaSortP
import Derived.Lib.SortBridge
import Derived.Deep.Upon
import Derived.Outline
namespace Go.Proofs.Ytpobladocccnmaa
open Go.RowKit Mix PBase Go.Sort
open Go.Proofs.YtpobladocccnmaaW.PrintWords Go.Proofs.YtpobladocccnmaaW.PrintLast Go.Proofs.YtpobladocccnmaaW.PrintMore
set_option linter.unusedVariables false
set_option linter.unusedSimpArgs false

def sortL (l : List Int) : List Int := l.mergeSort fun x y => decide (x ≤ y)

theorem sortL_length (l : List Int) : (sortL l).length = l.length := by simp [sortL]

theorem size_sc (b : Nat) : ∀ (vs : List Value) (o : Nat) (w : World), (w.setCells b o vs).heap.size = w.heap.size
  | [], _, _ => rfl
  | v :: r, o, w => by
    show ((w.setCell ⟨b, o, none⟩ v).setCells b (o + 1) r).heap.size = _
    rw [size_sc b r (o + 1)]; simp

theorem below_sc {B : Nat} {a : World} (b : Nat) (hb : B ≤ b) : ∀ (vs : List Value) (o : Nat) {w : World}, RowKit.Below B a w → RowKit.Below B a (w.setCells b o vs)
  | [], _, _, h => h
  | v :: r, o, _, h => below_sc b hb r (o + 1) (h.setCell (p := ⟨b, o, none⟩) hb v)

theorem sort_calls (w0 w : World) (b k cap : Nat) (l : List Int) (hL : IsInts w b l) (hk : k ≤ l.length) (hl : l.length ≤ 65536) (hB : RowKit.Below w0.heap.size w0 w) (hb : w0.heap.size ≤ b) :
    Calls Try.prog 49 #[.slice (some ⟨b, 0, none⟩) k cap] w fun e w' => e = .returned (.tuple #[]) ∧ (Kd.int .i64).C w' (some ⟨b, 0, none⟩) k (sortL (l.take k)) ∧ RowKit.Below w0.heap.size w0 w' ∧ KeepBut w w' b none := by
  by_cases h0 : k = 0
  · subst h0
    refine (Any.slices_Sort_int_none laysSort (some ⟨b, 0, none⟩) cap w).mono ?_
    rintro e w' ⟨rfl, rfl⟩
    exact ⟨rfl, ⟨by simp [sortL], by simp [sortL], fun h => absurd h (by simp [sortL])⟩, hB, KeepBut.refl _ _ _⟩
  · have hlen : (l.take k).length = k := by rw [List.length_take]; omega
    have hc : ∀ j, j < l.length → w.cell? ⟨b, 0 + j, none⟩ = some (.int .i64 (l.getD j 0)) := fun j hj => by rw [Nat.zero_add]; exact hL.cell j hj
    have hf : ∀ j, j < k → w.frozen? ⟨b, 0 + j, none⟩ = false := fun j hj => by rw [Nat.zero_add]; exact hL.frozen j
    have hH := Lib.holds_of_ints hk hc hf
    have hs := Any.slices_Sort_int laysSort b 0 cap (l.take k) w hH hL.lt (by omega)
    rw [hlen] at hs
    refine hs.mono ?_
    rintro e w' ⟨rfl, q, os, hw⟩
    have hys : (sortL (l.take k)).length = k := by rw [sortL_length, hlen]
    have hw2 : w' = grow ((w.drewN q).setCells b 0 ((sortL (l.take k)).map (Value.int .i64))) os := by
      rw [hw]
      exact Lib.sorted_world _ w b 0 q _ _ os hH (by simp)
    have hcell := Lib.cells_sorted_ints (W := w) (b := b) (off := 0) (q := q) (os := os) hk hys hc
    rw [← hw2] at hcell
    refine ⟨rfl, ?_, ?_, ?_⟩
    · refine Kd.C_of_reads (d := (0 : Int)) ⟨hys, by omega, fun _ => ⟨⟨b, 0, none⟩, rfl, fun i hi => ?_⟩⟩
      rw [add_plain]
      have h1 := hcell i (by rw [List.length_append]; omega)
      rw [Nat.zero_add, List.getD_eq_getElem?_getD, List.getElem?_append_left (by omega)] at h1
      rw [h1, List.getD_eq_getElem?_getD]
    · rw [hw2]
      have h1 : RowKit.Below w0.heap.size w0 ((w.drewN q).setCells b 0 ((sortL (l.take k)).map (Value.int .i64))) := below_sc b hb _ _ ⟨hB.os, hB.tape, hB.output, hB.size, hB.block⟩
      exact ⟨h1.os, h1.tape, h1.output, by have := h1.size; rw [size_grow]; omega, fun i hi => by rw [heap_grow_old _ os (by have := h1.size; omega)]; exact h1.block i hi⟩
    · have hsz : ((w.drewN q).setCells b 0 ((sortL (l.take k)).map (Value.int .i64))).heap.size = w.heap.size := by
        exact size_sc _ _ _ _
      rw [hw2]
      refine ⟨by rw [size_grow, hsz]; omega, fun i hi hne _ => ?_⟩
      rw [heap_grow_old _ os (by rw [hsz]; exact hi)]
      exact World.heap_setCells_other (w.drewN q) b 0 _ hi hne

/-- Pick's numbers -/
noncomputable def pickL (s t a : Int) (n k : Nat) : List Int := sortL ((shuf s t a n).1.take k)

def F26RT7 : Bool × List (List Nat × List Nat) := (true, [([], []), ([0], [0]), ([], []), ([1, 1, 0, 1], [1]), ([2, 3, 0, 1, 2, 3], [2]), ([4, 0, 1, 2, 3, 4], [])])
def F26RB7 : List Nat := [0, 1, 0, 3, 15, 31]
theorem F26Rtab7 : rtab .any (opsOf Try.f26 7) = F26RT7 := by kernel_rfl
theorem F26Rbits7 : waitsOk F26RT7.2 F26RB7 = true := by kernel_rfl
set_option maxHeartbeats 1000000 in
set_option maxRecDepth 100000 in
theorem Pick_calls (s t a : Int) (n k : Nat) (w : World) (hk : k ≤ n) (hn : n ≤ 65536) :
    Calls Try.prog 26 #[.agg #[.int .i64 s, .int .i64 t, .int .i64 a], .int .i64 n, .int .i64 k] w fun e w' => ∃ v, e = .returned (.tuple #[v, .agg #[.int .i64 s, .int .i64 t, .int .i64 (shuf s t a n).2], .int .i64 0]) ∧ OwnInts w w' v (pickL s t a n k) ∧ RowKit.Below w.heap.size w w' := by
  have d1 : decide ((n : Int) < 0) = false := decide_eq_false (by omega)
  have d2 : decide ((k : Int) < 0) = false := decide_eq_false (by omega)
  have d3 : decide (n < k) = false := decide_eq_false (by omega)
  have d4 : decide ((65536 : Int) < (n : Int)) = false := decide_eq_false (by omega)
  have hkn := eq_true hk
  have HK := Aside0.mk hk
  have HN := Aside0.mk hn
  clear hk hn
  obtain ⟨a2, ha2⟩ : ∃ x, x = (shuf s t a n).2 := ⟨_, rfl⟩
  have HPL : Aside0 (pickL s t a n k = sortL ((shuf s t a n).1.take k)) := ⟨rfl⟩
  have hlen := shuf_length s t a n
  rw [← ha2]
  have HA2 := Aside0.mk ha2
  clear ha2
  generalize pickL s t a n k = pl at HPL ⊢
  obtain ⟨l2, hl2⟩ : ∃ x, x = (shuf s t a n).1 := ⟨_, rfl⟩
  rw [← hl2] at hlen HPL
  have HL2 := Aside0.mk hl2
  have HLen := Aside0.mk hlen
  clear hl2 hlen
  have HPn : Aside0 (pl.length = k) := ⟨by rw [HPL.out, sortL_length, List.length_take, HLen.out]; have := HK.out; omega⟩
  go_enter Try.func26, Try.ntmps26
  go_wp2_with fail
  refine (shuffled_calls w.heap.size s t a n w _ ((IsS23.new w w s t a (Below.refl _ _)).alloc _) (((Below.refl _ _).alloc (Nat.le_refl _) _).alloc (by simp) _) HN.out).mono ?_
  rintro e w2 ⟨b, rfl, hL, hb, hI, hB, hK⟩
  rw [← HA2.out] at hI
  rw [← HL2.out] at hL
  have hBK : w2.heap[w.heap.size + 1]? = some (.cells #[.int .i64 0, .int .i64 0, .int .i64 0] 23 (0, 0)) := (hK.2 (w.heap.size + 1) (by simp) (by omega) (by simp)).trans (by simpa using blk_new (w.alloc (.cells #[.int .i64 s, .int .i64 t, .int .i64 a] 23)) (.cells #[.int .i64 0, .int .i64 0, .int .i64 0] 23 (0, 0)))
  have hb2 : w.heap.size + 2 ≤ b := by simpa using hb
  have HL := Aside0.mk hL
  have HI := Aside0.mk hI
  have HB := Aside0.mk hB
  have HG := Aside0.mk hb2
  have BK := Aside0.mk hBK
  clear hL hI hB hb hb2 hK hBK
  go_wp2_with fail
  refine (sort_calls w w2 b k k l2 HL.out (by rw [HLen.out]; exact HK.out) (by rw [HLen.out]; exact HN.out) HB.out (by have := HG.out; omega)).mono ?_
  rintro e w3 ⟨rfl, hC, hB, hK⟩
  rw [← HPL.out] at hC
  have G3 : Aside0 (IsS23 w w3 w.heap.size s t a2) := ⟨(hK.2 w.heap.size HI.out.lt (by have := HG.out; omega) (by simp)).trans HI.out.1, HI.out.2⟩
  have G4 : Aside0 (IsS23 w w3 (w.heap.size + 1) 0 0 0) := ⟨(hK.2 (w.heap.size + 1) (blk_lt BK.out) (by have := HG.out; omega) (by simp)).trans BK.out, by omega⟩
  have HB3 := Aside0.mk hB
  have HC := Aside0.mk hC
  clear hC hB hK HI HB BK HL
  obtain ⟨hI0, _⟩ := G3.out
  have c0 := cellS23_0 hI0
  have c1 := cellS23_1 hI0
  have c2 := cellS23_2 hI0
  obtain ⟨hI1, _⟩ := G4.out
  have e0 := cellS23_0 hI1
  have e1 := cellS23_1 hI1
  have e2 := cellS23_2 hI1
  have f0 := blk_frozen hI1 0
  have f1 := blk_frozen hI1 1
  have f2 := blk_frozen hI1 2
  clear hI0 hI1
  go_wp2
  refine start_ (n := 6) (S := fun w' => w'.cell? ⟨w.heap.size, 0, none⟩ = some (.int .i64 s) ∧ w'.cell? ⟨w.heap.size, 1, none⟩ = some (.int .i64 t) ∧ w'.cell? ⟨w.heap.size, 2, none⟩ = some (.int .i64 a2) ∧ w'.cell? ⟨w.heap.size + 1, 0, none⟩ = some (.int .i64 0) ∧ w'.cell? ⟨w.heap.size + 1, 1, none⟩ = some (.int .i64 0) ∧ w'.cell? ⟨w.heap.size + 1, 2, none⟩ = some (.int .i64 0) ∧ w'.frozen? ⟨w.heap.size + 1, 0, none⟩ = false ∧ w'.frozen? ⟨w.heap.size + 1, 1, none⟩ = false ∧ w'.frozen? ⟨w.heap.size + 1, 2, none⟩ = false) (ds := [4]) #[false, false, false, false, false, false] (by kernel_rfl) rfl rfl ⟨c0, c1, c2, e0, e1, e2, f0, f1, f2⟩ (fun hHeld => ?_)
  refine with_tabW F26Rtab7 F26Rbits7 (fun HT_ HW_ => ?_)
  refine pure_ (i := 0) (N := some 34) (v := ?_) (a' := ?_) #[true, false, false, false, false, false] rfl rfl (any_of HT_.out (by kernel_rfl)) (fun _ _ _ h => h) (Or.inl ⟨by rfl, ?_⟩) ?_ ?_
  rotate_left
  · intro w'
    go_simp
    with_reducible rfl
  rotate_left
  · simp only [Act.put, List.setIfInBounds_toArray, List.set_cons_zero, List.set_cons_succ, i64_w, i32_w]
    rfl
  refine take_ (i := 2) (N := some 36) (v := ?_) (a' := ?_) #[true, false, true, false, false, false] rfl rfl (take_ofW HT_.out HW_.out (by kernel_rfl)) (fun _ _ _ h => h) (Or.inl ⟨by rfl, ?_⟩) hHeld ?_ ?_
  rotate_left
  · rintro w' ⟨s0, s1, s2, s3, s4, s5, s6, s7, s8⟩
    go_simp
    with_reducible rfl
  rotate_left
  · simp only [Act.put, List.setIfInBounds_toArray, List.set_cons_zero, List.set_cons_succ, i64_w, i32_w]
    rfl
  refine one_ (i := 1) (N := some 35) #[true, true, true, false, false, false] rfl rfl (one_of HT_.out (by kernel_rfl)) (by decide) (fun K hK => ?_)
  refine Kd.R_append_rows_step (Kd.int .i64) (Rr := (Kd.int .i64).K w3) (w0 := w) w.heap.size (by rfl) (.const (.slice none 0 0)) (.tmp 34) 45 3 (.int .i64 0) 8 rfl Try.underlying45 info3 rfl (by decide) (by omega) (.slice none 0 0) [] pl (some ⟨b, 0, none⟩) k k (fun _ => True) (fun _ => False) rfl rfl ?aO ?aR ?aK (fun _ hk => hk.elim) (fun _ _ => trivial) ?aB ?aS ?aL ?_
  (case aO => exact Kd.R_nil _ _ _ _ _)
  (case aR => exact Kd.C_drew HC.out)
  (case aK => exact fun x cs h => h)
  (case aB => exact Below.drew HB3.out)
  (case aS => exact below_size (Below.drew HB3.out))
  (case aL => have := HPn.out; have := HK.out; have := HN.out; simp; omega)
  intro v5 w5 ho hb hg hat
  have G5 := Aside0.mk (G3.out.drew.grown hg (by intro h; cases h))
  have G6 := Aside0.mk (G4.out.drew.grown hg (by intro h; cases h))
  have HO := Aside0.mk ho
  have HB5 := Aside0.mk hb
  obtain ⟨hI5, _⟩ := G5.out
  obtain ⟨hI6, _⟩ := G6.out
  refine hK.out _ _ ⟨cellS23_0 hI5, cellS23_1 hI5, cellS23_2 hI5, cellS23_0 hI6, cellS23_1 hI6, cellS23_2 hI6, blk_frozen hI6 0, blk_frozen hI6 1, blk_frozen hI6 2⟩ (fun hHeld => ?_)
  clear hK K
  refine norm_ (a' := ?_) ?_ ?_
  rotate_left
  · show Act.put _ (some 35) _ = _
    simp only [Act.put, List.setIfInBounds_toArray, List.set_cons_zero, List.set_cons_succ, i64_w, i32_w]
    rfl
  refine pure_ (i := 3) (N := some 6) (v := ?_) (a' := ?_) #[true, true, true, true, false, false] rfl rfl (any_of HT_.out (by kernel_rfl)) (fun _ _ _ h => h) (Or.inl ⟨by rfl, ?_⟩) ?_ ?_
  rotate_left
  · intro w'
    go_simp
    with_reducible rfl
  rotate_left
  · simp only [Act.put, List.setIfInBounds_toArray, List.set_cons_zero, List.set_cons_succ, i64_w, i32_w]
    rfl
  refine last_ (i := 4) (N := none) #[true, true, true, true, true, false] rfl rfl (one_of HT_.out (by kernel_rfl)) (by decide) (fun K hK => ?_)
  refine skip_ (w1 := ?_) (by rfl) rfl ?_ ?_
  rotate_left
  · go_simp
    rfl
  refine hK.out _ _ ?_
  clear hK K
  refine pure_ (i := 5) (N := some 8) (v := ?_) (a' := ?_) #[true, true, true, true, true, true] rfl rfl (any_of HT_.out (by kernel_rfl)) (fun _ _ _ h => h) (Or.inl ⟨by rfl, ?_⟩) ?_ ?_
  rotate_left
  · intro w'
    go_simp
    with_reducible rfl
  rotate_left
  · simp only [Act.put, List.setIfInBounds_toArray, List.set_cons_zero, List.set_cons_succ, i64_w, i32_w]
    rfl
  refine done_ (done_of HT_.out (by kernel_rfl)) ?_
  have k0 := cellS23_0 hI6
  have k1 := cellS23_1 hI6
  have k2 := cellS23_2 hI6
  go_wp2
  refine bodyPost_ret (v := .tuple #[v5, .agg #[.int .i64 s, .int .i64 t, .int .i64 a2], .int .i64 0]) (by simp [results, Try.results26, go_sem, k0, k1, k2]) rfl ?_
  exact ⟨v5, rfl, Kd.R_set (Kd.R_set (Kd.R_set HO.out G6.out.1 (by decide) _ _) (blk_set G6.out.1 _ _) (by decide) _ _) (blk_set (blk_set G6.out.1 _ _) _ _) (by decide) _ _, below_set (below_set (below_set HB5.out (by omega)) (by omega)) (by omega)⟩

end Go.Proofs.Ytpobladocccnmaa
