/- The walks of rng.below, rng.shuffled, rng.Shuffle: what they come to in the plain numbers of Draw. -/
import Derived.Test.YtpobladocccnmaaLink
import Derived.Outline
import Derived.BigRegion
namespace Go.Proofs.Ytpobladocccnmaa
open Go.RowKit Mix PBase
open Go.Proofs.YtpobladocccnmaaW.PrintWords Go.Proofs.YtpobladocccnmaaW.PrintLast Go.Proofs.YtpobladocccnmaaW.PrintMore
attribute [local go_sem] max2_int min2_int max_two min_two max_three min_three max_four min_four
set_option linter.unusedVariables false
set_option linter.unusedSimpArgs false

theorem below_calls (g : Nat) (s t a : Int) (n : Nat) (w0 w : World) (hI : IsS23 w0 w g s t a) (hB : Below w0.heap.size w0 w) (hn : 0 < n) (hn2 : n ≤ 9223372036854775807) :
    Calls Try.prog 33 #[.pointer (some ⟨g, 0, none⟩), .int .i64 n] w fun e w' => e = .returned (.int .i64 (belowV s t a n)) ∧ IsS23 w0 w' g s t (belowA s t a n) ∧ Below w0.heap.size w0 w' ∧ KeepBut w w' g none :=
  rng_below.calls _ g s t a n _ s t _ w0 w hI hB (below_eq s t a hn hn2)

/-- a block of whole numbers -/
def IsInts (W : World) (b : Nat) (xs : List Int) : Prop := W.heap[b]? = some (.cells (nums .i64 xs).toArray 3 (0, 0))

theorem IsInts.cell {W : World} {b : Nat} {xs : List Int} (h : IsInts W b xs) (i : Nat) (hi : i < xs.length) : W.cell? ⟨b, i, none⟩ = some (.int .i64 (xs.getD i 0)) := by
  rw [blk_cell h i]
  simp [nums, hi, List.getD_eq_getElem?_getD]
theorem IsInts.frozen {W : World} {b : Nat} {xs : List Int} (h : IsInts W b xs) (i : Nat) : W.frozen? ⟨b, i, none⟩ = false := blk_frozen h i
theorem IsInts.set {W : World} {b : Nat} {xs : List Int} (h : IsInts W b xs) (i : Nat) (x : Int) : IsInts (W.setCell ⟨b, i, none⟩ (.int .i64 x)) b (xs.set i x) := by
  refine blk_put h i _ ?_
  simp [nums, List.map_set]
theorem IsInts.far {W : World} {b : Nat} {xs : List Int} (h : IsInts W b xs) {p : Addr} (hp : b ≠ p.block) (u : Value) : IsInts (W.setCell p u) b xs := blk_far h hp u
theorem IsInts.below {W W1 : World} {b : Nat} {xs : List Int} (h : IsInts W b xs) (hb : Below W.heap.size W W1) : IsInts W1 b xs := blk_below h hb
theorem IsInts.keep {W W1 : World} {b g : Nat} {xs : List Int} (h : IsInts W b xs) (hk : KeepBut W W1 g none) (hne : b ≠ g) : IsInts W1 b xs :=
  (hk.2 b (blk_lt h) hne (by simp)).trans h
theorem IsInts.drewN {W : World} {b : Nat} {xs : List Int} (h : IsInts W b xs) (m : Nat) : IsInts (W.drewN m) b xs := h
theorem IsInts.drew {W : World} {b : Nat} {xs : List Int} (h : IsInts W b xs) : IsInts W.drew b xs := h
theorem IsInts.lt {W : World} {b : Nat} {xs : List Int} (h : IsInts W b xs) : b < W.heap.size := blk_lt h

/-- make([]int, n): a block of noughts -/
theorem make_ints {P : Program} {ops : Array Oper} {rest : List Oper} {o : Oper} {a : Act} {Q : Exit → Act → World → Prop} {W : World} (hgd : o.guard = none) {N : Tmp} (hd : o.dst = some N) (t e : TypeId) (x y : Operand) (ho : o.op = .makeSlice t x y) (n : Nat) (hx : a.eval x = .int .i64 n) (hy : a.eval y = .int .i64 n)
    (ht : P.underlying t = some (.slice e)) (hinfo : (P.info? e).map (fun i => (i.zero, i.size, i.bytes)) = some (some (.int .i64 0), 1, 8)) (hl : n * 8 ≤ 281474976710656)
    (h : ∀ b w1, b = W.heap.size → w1.heap[b]? = some (.cells (nums .i64 (List.replicate n 0)).toArray e (0, 0)) → Below W.heap.size W w1 → wpList P ops Q rest (a.put o.dst (.slice (some ⟨b, 0, none⟩) n n)) w1) : wpList P ops Q (o :: rest) a W := by
  obtain ⟨i0, hi, hzz⟩ := Option.map_eq_some_iff.1 hinfo
  simp only [Prod.mk.injEq] at hzz
  obtain ⟨hz0, hz1, hz2⟩ := hzz
  have hr := run_make (P := P) W t e i0 (.int .i64 0) ht hi hz0 .i64 .i64 (n : Int) (n : Int) (by omega) (by omega) (by rw [hz2]; omega) (by omega)
  simp only [Int.toNat_natCast] at hr
  rw [hz1, Nat.mul_one] at hr
  have hc : (madeCells (Value.int .i64 0).cells n) = (nums .i64 (List.replicate n 0)).toArray := by
    apply Array.ext'
    simp [madeCells, nums, Value.cells, List.map_const]
    apply List.ext_getElem
    · simp
    · intro i h1 h2; simp [Nat.mod_one]
  rw [hc] at hr
  refine Kd.event_run hgd (v := .slice (some ⟨W.heap.size, 0, none⟩) n n) (w1 := W.alloc (.cells (nums .i64 (List.replicate n 0)).toArray e)) ?_ (h W.heap.size _ rfl (blk_new W _) (below_alloc (Below.refl _ _) _))
  simp [execOp, ho, hx, hy, hr]

theorem info3 : (Try.prog.info? 3).map (fun i => (i.zero, i.size, i.bytes)) = some (some (.int .i64 0), 1, 8) := by kernel_rfl

theorem fill_set (n j : Nat) (h : j < n) : (upTo j ++ List.replicate (n - j) 0).set j (j : Int) = upTo (j + 1) ++ List.replicate (n - (j + 1)) 0 := by
  rw [List.set_append, if_neg (by rw [upTo_length]; omega), upTo_length, Nat.sub_self, show n - j = (n - (j + 1)) + 1 by omega, List.replicate_succ, List.set_cons_zero, upTo_succ]
  simp

def F48RT12 : Bool × List (List Nat × List Nat) := (true, [([], []), ([], []), ([], []), ([], []), ([], []), ([], []), ([4, 5], [4, 5]), ([6], [6]), ([], []), ([], []), ([8, 9], [8, 9]), ([10], [10]), ([0, 1, 0, 1, 4, 5, 6, 7, 11], [0, 1]), ([12, 7, 0, 1, 4, 5, 6, 7, 11], [7, 12]), ([2, 3, 0, 1, 2, 3, 4, 5, 6, 7, 8, 9, 10, 11, 12, 13], [2, 3]), ([14, 11, 13, 0, 1, 2, 3, 4, 5, 6, 7, 8, 9, 10, 11, 12, 13], [11, 14])])
def F48RB12 : List Nat := [0, 0, 0, 0, 0, 0, 48, 112, 0, 0, 768, 1792, 4083, 8179, 16383, 32767]
theorem F48Rtab12 : rtab .any (opsOf Try.f48 12) = F48RT12 := by kernel_rfl
theorem F48Rbits12 : waitsOk F48RT12.2 F48RB12 = true := by kernel_rfl
set_option maxHeartbeats 1000000 in
set_option maxRecDepth 100000 in
theorem shuffled_calls (g : Nat) (s t a : Int) (n : Nat) (w0 w : World) (hI : IsS23 w0 w g s t a) (hB : Below w0.heap.size w0 w) (hn : n ≤ 65536) :
    Calls Try.prog 48 #[.pointer (some ⟨g, 0, none⟩), .int .i64 n] w fun e w' => ∃ b, e = .returned (.slice (some ⟨b, 0, none⟩) n n) ∧ IsInts w' b (shuf s t a n).1 ∧ w.heap.size ≤ b ∧ IsS23 w0 w' g s t (shuf s t a n).2 ∧ Below w0.heap.size w0 w' ∧ KeepBut w w' g none := by
  have hlt0 := hI.lt
  have HI := Aside0.mk hI
  have HB := Aside0.mk hB
  have HB0 := Aside0.mk hB
  clear hI hB
  go_enter Try.func48, Try.ntmps48
  go_wp2_with ((with_reducible refine gate_dst (N := 11) rfl ?_); refine make_ints rfl rfl 45 3 _ _ rfl n rfl rfl Try.underlying45 info3 (by omega) ?_; intro bl w1 hbl hb1 hbw; have HL0 : Aside0 (IsInts w1 bl (List.replicate n 0)) := ⟨hb1⟩; have HI1 := Aside0.mk (HI.out.below hbw); have HB1 := Aside0.mk (below_then HB.out HB.out.size hbw); have HK := Aside0.mk (KeepBut.of_below hbw g none); have HG := Aside0.mk (show w.heap.size ≤ bl by omega); have HN := Aside0.mk (show bl ≠ g by omega); clear hbl hb1 hbw HI HB)
  go_loopg [14] n (fun kq v14 w' => ∃ j : Nat, v14 = .int .i64 j ∧ Aside0 (j + kq = n) ∧ Aside0 (IsInts w' bl (upTo j ++ List.replicate (n - j) 0)) ∧ Aside0 (IsS23 w0 w' g s t a) ∧ Aside0 (Below w0.heap.size w0 w') ∧ Aside0 (KeepBut w w' g none))
  case atStart => exact ⟨0, rfl, ⟨by omega⟩, ⟨by simpa [upTo] using HL0.out⟩, ⟨HI1.out⟩, ⟨HB1.out⟩, ⟨HK.out⟩⟩
  case round =>
    clear HL0 HI1 HB1 HK
    obtain ⟨j, rfl, HJ, HL, HI, HB, HK⟩ := hrel
    have hlen : (upTo j ++ List.replicate (n - j) (0 : Int)).length = n := by have := HJ.out; simp [upTo_length]; omega
    by_cases hlt : j < n
    · have d1 : decide ((j : Int) < (n : Int)) = true := decide_eq_true (by omega)
      have hc := HL.out.cell j (by rw [hlen]; exact hlt)
      have hf := HL.out.frozen j
      generalize (upTo j ++ List.replicate (n - j) (0 : Int)).getD j 0 = xj at hc
      have Hlen := Aside0.mk hlen
      clear hlen
      go_wp2
      go_roundg (gk - 1)
      case measure => have := HJ.out; omega
      case rel => exact ⟨j + 1, by go_num, ⟨by have := HJ.out; omega⟩, ⟨by have h2 := HL.out.set j (j : Int); rw [fill_set n j hlt] at h2; exact h2⟩, ⟨HI.out.far (Ne.symm HN.out) _⟩, ⟨HB.out.setCell (by show w0.heap.size ≤ bl; have h1 := HB0.out.size; have h2 := HG.out; omega) _⟩, ⟨keep_far HK.out (by exact HG.out) _⟩⟩
    · have d1 : decide ((j : Int) < (n : Int)) = false := decide_eq_false (by omega)
      have hj : j = n := by have := HJ.out; omega
      have HL2 : Aside0 (IsInts wr bl (upTo n)) := ⟨by have := HL.out; rw [hj] at this; simpa using this⟩
      clear HL HJ
      subst hj
      clear hlt hlen
      have hcase : ∃ m : Nat, m = j - 1 := ⟨_, rfl⟩
      obtain ⟨m, hm⟩ := hcase
      have hstart : shufGo s t m (upTo j) a = shuf s t a j := by rw [shuf, hm]
      have Hfin := Aside0.mk hstart
      have Hm := Aside0.mk hm
      clear hstart hm
      rcases Nat.eq_zero_or_pos j with h0 | h0
      · subst h0
        go_wp2
        have hm0 : m = 0 := by have := Hm.out; omega
        have hF : shuf s t a 0 = ([], a) := by rw [← Hfin.out, hm0]; rfl
        have HF := Aside0.mk hF
        clear hF hm0 Hfin Hm
        go_loopg [25] 0 (fun kq v25 w' => v25 = .int .i64 0 ∧ Aside0 (IsInts w' bl []) ∧ Aside0 (IsS23 w0 w' g s t a) ∧ Aside0 (Below w0.heap.size w0 w') ∧ Aside0 (KeepBut w w' g none))
        case atStart => exact ⟨rfl, ⟨HL2.out⟩, ⟨HI.out⟩, ⟨HB.out⟩, ⟨HK.out⟩⟩
        case round =>
          clear HL2 HI HB HK
          obtain ⟨rfl, HL, HI, HB, HK⟩ := hrel
          go_wp2
          go_ret
          rw [HF.out]
          exact ⟨bl, rfl, HL.out, HG.out, HI.out, HB.out, HK.out⟩
      · go_wp2
        go_loopg [25] m (fun kq v25 w' => ∃ (k : Nat) (l : List Int) (a' : Int), v25 = .int .i64 k ∧ Aside0 (k + kq = m) ∧ Aside0 (l.length = j) ∧ Aside0 (shufGo s t kq l a' = shuf s t a j) ∧ Aside0 (IsInts w' bl l) ∧ Aside0 (IsS23 w0 w' g s t a') ∧ Aside0 (Below w0.heap.size w0 w') ∧ Aside0 (KeepBut w w' g none))
        case atStart => exact ⟨0, upTo j, a, rfl, ⟨by omega⟩, ⟨upTo_length j⟩, ⟨Hfin.out⟩, ⟨HL2.out⟩, ⟨HI.out⟩, ⟨HB.out⟩, ⟨HK.out⟩⟩
        case round =>
          clear HL2 HI HB HK Hfin
          obtain ⟨k, l, a', rfl, HJ, HLen, HF, HL, HI, HB, HK⟩ := hrel
          cases gk with
          | zero =>
            have d1 : decide ((k : Int) < (j : Int) - 1) = false := decide_eq_false (by have := HJ.out; have := Hm.out; omega)
            go_wp2
            go_ret
            have h1 := HF.out
            simp only [shufGo] at h1
            rw [← h1]
            exact ⟨bl, rfl, HL.out, HG.out, HI.out, HB.out, HK.out⟩
          | succ i =>
            have e8 : (j : Int) - 1 - (k : Int) = ((i + 1 : Nat) : Int) := by have := HJ.out; have := Hm.out; omega
            have d1 : decide ((k : Int) < (j : Int) - 1) = true := decide_eq_true (by omega)
            have E8 := Aside0.mk e8
            clear e8
            have hk2 : k + 2 ≤ j := by have := HJ.out; have := Hm.out; omega
            go_wp2_with fail
            rw [show (j : Int) - 1 - (k : Int) = ((i + 1 : Nat) : Int) from E8.out, show ((i + 1 : Nat) : Int) + 1 = ((i + 2 : Nat) : Int) from by omega]
            refine (below_calls g s t a' (i + 2) w0 wr HI.out HB.out (by omega) (by have := HJ.out; have := Hm.out; omega)).mono ?_
            rintro e w2 ⟨rfl, hi2, hb2, hk3⟩
            have hv := belowV_lt s t a' (n := i + 2) (by omega)
            have hF := HF.out
            rw [shufGo] at hF
            generalize belowV s t a' (i + 2) = v at hv hF ⊢
            generalize belowA s t a' (i + 2) = a2 at hi2 hF ⊢
            have HF2 := Aside0.mk hF
            have HI2 := Aside0.mk hi2
            have HB2 := Aside0.mk hb2
            have HK2 := Aside0.mk (KeepBut.trans HK.out hk3 (.inl rfl))
            have HL2 := Aside0.mk (HL.out.keep hk3 HN.out)
            clear hF hi2 hb2 hk3 HI HB HK HL HF
            have hil : i + 1 < l.length := by have := HLen.out; have := HJ.out; have := Hm.out; omega
            have hvl : v < l.length := by omega
            have ci := HL2.out.cell (i + 1) hil
            have cv := HL2.out.cell v hvl
            have fi := HL2.out.frozen (i + 1)
            have fv := HL2.out.frozen v
            have HSw : Aside0 (swapL l (i + 1) v = (l.set (i + 1) (l.getD v 0)).set v (l.getD (i + 1) 0)) := ⟨rfl⟩
            generalize l.getD (i + 1) 0 = xi at ci HSw
            generalize l.getD v 0 = xv at cv HSw
            have hij : (i : Int) + 1 < (j : Int) := by have := HLen.out; omega
            have hvj : (v : Int) < (j : Int) := by have := HLen.out; omega
            have h0i : (0 : Int) ≤ (i : Int) + 1 := by omega
            clear hil hvl hv
            go_wp2
            refine start_ (n := 16) (S := fun w' => w'.cell? ⟨bl, i + 1, none⟩ = some (.int .i64 xi) ∧ w'.cell? ⟨bl, v, none⟩ = some (.int .i64 xv)) (ds := [13, 15]) #[false, false, false, false, false, false, false, false, false, false, false, false, false, false, false, false] (by kernel_rfl) rfl rfl ⟨ci, cv⟩ (fun hHeld => ?_)
            refine with_tabW F48Rtab12 F48Rbits12 (fun HT_ HW_ => ?_)
            refine pure_ (i := 0) (N := some 36) (v := ?_) (a' := ?_) #[true, false, false, false, false, false, false, false, false, false, false, false, false, false, false, false] rfl rfl (any_of HT_.out (by kernel_rfl)) (fun _ _ _ h => h) (Or.inl ⟨by rfl, ?_⟩) ?_ ?_
            rotate_left
            · intro w'
              go_simp
              with_reducible rfl
            rotate_left
            · simp only [Act.put, List.setIfInBounds_toArray, List.set_cons_zero, List.set_cons_succ, i64_w, i32_w]
              rfl
            refine pure_ (i := 1) (N := some 37) (v := ?_) (a' := ?_) #[true, true, false, false, false, false, false, false, false, false, false, false, false, false, false, false] rfl rfl (any_of HT_.out (by kernel_rfl)) (fun _ _ _ h => h) (Or.inl ⟨by rfl, ?_⟩) ?_ ?_
            rotate_left
            · intro w'
              go_simp
              with_reducible rfl
            rotate_left
            · simp only [Act.put, List.setIfInBounds_toArray, List.set_cons_zero, List.set_cons_succ, i64_w, i32_w]
              rfl
            refine pure_ (i := 2) (N := some 38) (v := ?_) (a' := ?_) #[true, true, true, false, false, false, false, false, false, false, false, false, false, false, false, false] rfl rfl (any_of HT_.out (by kernel_rfl)) (fun _ _ _ h => h) (Or.inl ⟨by rfl, ?_⟩) ?_ ?_
            rotate_left
            · intro w'
              go_simp
              with_reducible rfl
            rotate_left
            · simp only [Act.put, List.setIfInBounds_toArray, List.set_cons_zero, List.set_cons_succ, i64_w, i32_w]
              rfl
            refine pure_ (i := 3) (N := some 39) (v := ?_) (a' := ?_) #[true, true, true, true, false, false, false, false, false, false, false, false, false, false, false, false] rfl rfl (any_of HT_.out (by kernel_rfl)) (fun _ _ _ h => h) (Or.inl ⟨by rfl, ?_⟩) ?_ ?_
            rotate_left
            · intro w'
              go_simp
              with_reducible rfl
            rotate_left
            · simp only [Act.put, List.setIfInBounds_toArray, List.set_cons_zero, List.set_cons_succ, i64_w, i32_w]
              rfl
            refine pure_ (i := 4) (N := some 40) (v := ?_) (a' := ?_) #[true, true, true, true, true, false, false, false, false, false, false, false, false, false, false, false] rfl rfl (any_of HT_.out (by kernel_rfl)) (fun _ _ _ h => h) (Or.inl ⟨by rfl, ?_⟩) ?_ ?_
            rotate_left
            · intro w'
              go_simp
              with_reducible rfl
            rotate_left
            · simp only [Act.put, List.setIfInBounds_toArray, List.set_cons_zero, List.set_cons_succ, i64_w, i32_w]
              rfl
            refine pure_ (i := 5) (N := some 41) (v := ?_) (a' := ?_) #[true, true, true, true, true, true, false, false, false, false, false, false, false, false, false, false] rfl rfl (any_of HT_.out (by kernel_rfl)) (fun _ _ _ h => h) (Or.inl ⟨by rfl, ?_⟩) ?_ ?_
            rotate_left
            · intro w'
              go_simp
              with_reducible rfl
            rotate_left
            · simp only [Act.put, List.setIfInBounds_toArray, List.set_cons_zero, List.set_cons_succ, i64_w, i32_w]
              rfl
            refine pure_ (i := 6) (N := some 42) (v := .pointer (some ⟨bl, v, none⟩)) (a' := ?ac1) #[true, true, true, true, true, true, true, false, false, false, false, false, false, false, false, false] rfl rfl (any_of HT_.out (by kernel_rfl)) (fun _ _ _ h => h) (Or.inl ⟨by rfl, ?run1⟩) ?ha1 ?hh1
            case run1 =>
              intro w'
              as_aux_lemma => (go_simp)
            case ha1 =>
              simp only [Act.put, List.setIfInBounds_toArray, List.set_cons_zero, List.set_cons_succ, i64_w, i32_w]
              rfl
            refine pure_ (i := 8) (N := some 44) (v := ?_) (a' := ?_) #[true, true, true, true, true, true, true, false, true, false, false, false, false, false, false, false] rfl rfl (any_of HT_.out (by kernel_rfl)) (fun _ _ _ h => h) (Or.inl ⟨by rfl, ?_⟩) ?_ ?_
            rotate_left
            · intro w'
              go_simp
              with_reducible rfl
            rotate_left
            · simp only [Act.put, List.setIfInBounds_toArray, List.set_cons_zero, List.set_cons_succ, i64_w, i32_w]
              rfl
            refine pure_ (i := 9) (N := some 45) (v := ?_) (a' := ?_) #[true, true, true, true, true, true, true, false, true, true, false, false, false, false, false, false] rfl rfl (any_of HT_.out (by kernel_rfl)) (fun _ _ _ h => h) (Or.inl ⟨by rfl, ?_⟩) ?_ ?_
            rotate_left
            · intro w'
              go_simp
              with_reducible rfl
            rotate_left
            · simp only [Act.put, List.setIfInBounds_toArray, List.set_cons_zero, List.set_cons_succ, i64_w, i32_w]
              rfl
            refine pure_ (i := 10) (N := some 46) (v := .pointer (some ⟨bl, i + 1, none⟩)) (a' := ?ac2) #[true, true, true, true, true, true, true, false, true, true, true, false, false, false, false, false] rfl rfl (any_of HT_.out (by kernel_rfl)) (fun _ _ _ h => h) (Or.inl ⟨by rfl, ?run2⟩) ?ha2 ?hh2
            case run2 =>
              intro w'
              as_aux_lemma => (go_simp)
            case ha2 =>
              simp only [Act.put, List.setIfInBounds_toArray, List.set_cons_zero, List.set_cons_succ, i64_w, i32_w]
              rfl
            refine take_ (i := 7) (N := some 43) (v := .int .i64 xv) (a' := ?ac3) #[true, true, true, true, true, true, true, true, true, true, true, false, false, false, false, false] rfl rfl (take_ofW HT_.out HW_.out (by kernel_rfl)) (fun _ _ _ h => h) (Or.inl ⟨by rfl, ?run3⟩) hHeld ?ha3 ?hh3
            case run3 =>
              rintro w' ⟨s0, s1⟩
              as_aux_lemma => (go_simp)
            case ha3 =>
              simp only [Act.put, List.setIfInBounds_toArray, List.set_cons_zero, List.set_cons_succ, i64_w, i32_w]
              rfl
            refine take_ (i := 11) (N := some 47) (v := .int .i64 xi) (a' := ?ac4) #[true, true, true, true, true, true, true, true, true, true, true, true, false, false, false, false] rfl rfl (take_ofW HT_.out HW_.out (by kernel_rfl)) (fun _ _ _ h => h) (Or.inl ⟨by rfl, ?run4⟩) hHeld ?ha4 ?hh4
            case run4 =>
              rintro w' ⟨s0, s1⟩
              as_aux_lemma => (go_simp)
            case ha4 =>
              simp only [Act.put, List.setIfInBounds_toArray, List.set_cons_zero, List.set_cons_succ, i64_w, i32_w]
              rfl
            refine pure_ (i := 12) (N := some 48) (v := .pointer (some ⟨bl, i + 1, none⟩)) (a' := ?ac5) #[true, true, true, true, true, true, true, true, true, true, true, true, true, false, false, false] rfl rfl (any_of HT_.out (by kernel_rfl)) (fun _ _ _ h => h) (Or.inl ⟨by rfl, ?run5⟩) ?ha5 ?hh5
            case run5 =>
              intro w'
              as_aux_lemma => (go_simp)
            case ha5 =>
              simp only [Act.put, List.setIfInBounds_toArray, List.set_cons_zero, List.set_cons_succ, i64_w, i32_w]
              rfl
            refine last_ (i := 13) (N := none) #[true, true, true, true, true, true, true, true, true, true, true, true, true, true, false, false] rfl rfl (one_of HT_.out (by kernel_rfl)) (by decide) (fun K hK => ?_)
            refine skip_ (w1 := ?_) (by rfl) rfl ?_ ?_
            rotate_left
            · go_simp
              rfl
            refine hK.out _ _ ?_
            clear hK K
            refine pure_ (i := 14) (N := some 49) (v := .pointer (some ⟨bl, v, none⟩)) (a' := ?ac6) #[true, true, true, true, true, true, true, true, true, true, true, true, true, true, true, false] rfl rfl (any_of HT_.out (by kernel_rfl)) (fun _ _ _ h => h) (Or.inl ⟨by rfl, ?run6⟩) ?ha6 ?hh6
            case run6 =>
              intro w'
              as_aux_lemma => (go_simp)
            case ha6 =>
              simp only [Act.put, List.setIfInBounds_toArray, List.set_cons_zero, List.set_cons_succ, i64_w, i32_w]
              rfl
            refine last_ (i := 15) (N := none) #[true, true, true, true, true, true, true, true, true, true, true, true, true, true, true, true] rfl rfl (one_of HT_.out (by kernel_rfl)) (by decide) (fun K hK => ?_)
            have hq := (HL2.out.set (i + 1) xv).cell v (by have := HLen.out; simp; omega)
            generalize (l.set (i + 1) xv).getD v 0 = xq at hq
            refine skip_ (w1 := ?_) (by rfl) rfl ?_ ?_
            rotate_left
            · go_simp
              rfl
            refine hK.out _ _ ?_
            clear hK K
            refine done_ (done_of HT_.out (by kernel_rfl)) ?_
            go_wp2
            go_roundg i
            case measure => omega
            case rel => exact ⟨k + 1, swapL l (i + 1) v, a2, by go_num, ⟨by have := HJ.out; omega⟩, ⟨by rw [swapL_length]; exact HLen.out⟩, ⟨HF2.out⟩, ⟨by rw [HSw.out]; exact (HL2.out.set (i + 1) xv).set v xi⟩, ⟨(HI2.out.far (Ne.symm HN.out) _).far (Ne.symm HN.out) _⟩, ⟨Below.drew ((HB2.out.setCell (by show w0.heap.size ≤ bl; have h1 := HB0.out.size; have h2 := HG.out; omega) _).setCell (by show w0.heap.size ≤ bl; have h1 := HB0.out.size; have h2 := HG.out; omega) _)⟩, ⟨keep_far (keep_far HK2.out (by exact HG.out) _) (by exact HG.out) _⟩⟩

end Go.Proofs.Ytpobladocccnmaa
