/- pupilref7.Stretch: the walk. -/
import Derived.Test.YtklomikdihlcgaaStrW
namespace Go.Proofs.Ytklomikdihlcgaa
open Go.RowKit PBase
open Go.Proofs.YtklomikdihlcgaaW.PrintWords Go.Proofs.YtklomikdihlcgaaW.PrintLast Go.Proofs.YtklomikdihlcgaaW.PrintMore
set_option linter.unusedVariables false
set_option linter.unusedSimpArgs false

/-- whole numbers of the machine -/
def InR (l : List Int) : Prop := ∀ x ∈ l, -9223372036854775808 ≤ x ∧ x ≤ 9223372036854775807

theorem canon_l0 (r c wd r' c' wd' : Int) (l : List Int) (hw : wd = 32 ∨ wd = 64) (hr : InR l) (hl : l.length ≤ 1000000) : ∀ (k i : Nat) (acc : List Int), i ≤ l.length → acc.length = i → l.length + 1 < k + i → pupilref7_Canon.l0 k (i : Int) r c wd l r' c' wd' acc = some (r', c', wd', acc ++ (l.drop i).map (cleanV wd))
  | 0, i, acc, h1, h2, h3 => by omega
  | k + 1, i, acc, h1, h2, h3 => by
    rw [pupilref7_Canon.l0]
    by_cases h : i < l.length
    · have hx := hr l[i] (List.getElem_mem h)
      rw [if_pos (by omega), if_pos (by omega), rd_nat l i h, show k = (k - 1) + 1 by omega, refClean_eq _ _ _ hw hx.1 hx.2, Option.bind_some, if_pos (by omega), IntWalk.wrap64_in ((i : Int) + 1) (by omega)]
      have := canon_l0 r c wd r' c' wd' l hw hr hl k (i + 1) (acc ++ [cleanV wd l[i]]) (by omega) (by simp [h2]) (by omega)
      rw [show ((i : Int) + 1) = ((i + 1 : Nat) : Int) by omega, show (k - 1) + 1 = k by omega, this, List.drop_eq_getElem_cons h, List.map_cons, List.append_assoc]
      rfl
    · rw [if_neg (by omega), List.drop_eq_nil_of_le (by omega), List.map_nil, List.append_nil]

theorem canon_eq (k : Nat) (r c wd : Int) (l : List Int) (hw : wd = 32 ∨ wd = 64) (hr : InR l) (hl : l.length ≤ 1000000) (hk : l.length + 1 < k) : pupilref7_Canon.f k r c wd l = some (r, c, wd, l.map (cleanV wd)) := by
  unfold pupilref7_Canon.f
  have := canon_l0 r c wd r c wd l hw hr hl k 0 [] (by omega) rfl (by omega)
  rw [List.drop_zero, List.nil_append] at this
  exact this

theorem rd_range {l : List Int} (hr : InR l) (i : Int) : -9223372036854775808 ≤ rd l i ∧ rd l i ≤ 9223372036854775807 := by
  unfold rd
  rw [List.getD_eq_getElem?_getD]
  cases h : l[i.toNat]? with
  | none => simp
  | some x => simpa using hr x (List.mem_of_getElem? h)

theorem stretch_range {P : Prop} {r c : Int} {l : List Int} {cols n : Nat} (_h : P) (hr : InR l) : InR (stretchL r c l id cols n) := by
  intro x hx
  simp only [stretchL, srowL, List.mem_flatMap, List.mem_map, id] at hx
  obtain ⟨i, _, j, _, rfl⟩ := hx
  exact rd_range hr _

theorem stretch_len {r c wd : Int} {l : List Int} {cl : Int → Int} {rows cols : Nat} (h : sizedV rows cols wd = 0) : (stretchL r c l cl cols rows).length ≤ 4096 := by
  have hz := sized_form h
  have h4 : ((rows * cols : Nat) : Int) = (rows : Int) * cols := by rw [Int.natCast_mul]
  rw [stretchL_length]
  omega

def F25RT8 : Bool × List (List Nat × List Nat) := (true, [([], []), ([0], [0]), ([], []), ([2], [2]), ([], []), ([4], [4]), ([], []), ([], []), ([5, 6, 7, 5], [5, 6, 7]), ([3, 8], [3, 8]), ([9], [9]), ([10], [10]), ([1, 11, 8], [1, 11]), ([0, 1, 2, 3, 4, 5, 6, 7, 8, 9, 10, 11, 12], []), ([13, 12, 12, 0, 1, 2, 3, 4, 5, 6, 7, 8, 9, 10, 11, 12], [12, 13])])
def F25RB8 : List Nat := [0, 1, 0, 4, 0, 16, 0, 0, 240, 508, 1020, 2044, 4095, 8191, 16383]
theorem F25Rtab8 : rtab .any (opsOf Try.f25 8) = F25RT8 := by kernel_rfl
theorem F25Rbits8 : waitsOk F25RT8.2 F25RB8 = true := by kernel_rfl
set_option maxHeartbeats 2000000 in
set_option maxRecDepth 100000 in
theorem refStretch_calls (r c wd : Int) (A : Option Addr) (cA : Nat) (l : List Int) (rows cols : Nat) (w : World) (hC : (Kd.int .i64).C w A l.length l) (hcA : l.length ≤ cA) (hl : l.length ≤ 1000000) (hE : stretchE r c wd l rows cols = 0) (hr : InR l) :
    Calls Try.prog 25 #[.agg #[.int .i64 r, .int .i64 c, .int .i64 wd, .slice A l.length cA], .int .i64 rows, .int .i64 cols] w fun e w' => ∃ v, e = .returned (.agg #[.int .i64 rows, .int .i64 cols, .int .i64 wd, v]) ∧ Ints w w' v (stretchL r c l (cleanV wd) cols rows) ∧ Below w.heap.size w w' := by
  go_enter Try.func25, Try.ntmps25
  have HH := Aside0.mk (And.intro hC (And.intro hcA (And.intro hl (And.intro hE hr))))
  clear hC hcA hl hE hr
  have HF : Aside0 (checkV r c wd l = 0 ∧ fitsV rows r = true ∧ fitsV cols c = true ∧ sizedV rows cols wd = 0) := ⟨by
    have h := HH.out.2.2.2.1
    unfold stretchE at h
    by_cases h1 : checkV r c wd l = 0
    · rw [if_pos h1] at h
      by_cases h2 : fitsV rows r = true ∧ fitsV cols c = true
      · rw [if_pos h2] at h; exact ⟨h1, h2.1, h2.2, h⟩
      · rw [if_neg h2] at h; omega
    · rw [if_neg h1] at h; exact absurd h h1⟩
  go_wp2
  generalize hw1 : (((w.alloc (Obj.cells #[Value.int IntKind.i64 r, Value.int IntKind.i64 c, Value.int IntKind.i64 wd, Value.slice A l.length cA] 25)).alloc (Obj.cells #[Value.int IntKind.i64 0, Value.int IntKind.i64 0, Value.int IntKind.i64 0, Value.slice none 0 0] 25)).alloc (Obj.cells #[Value.int IntKind.i64 rows, Value.int IntKind.i64 cols, Value.int IntKind.i64 wd, Value.slice none 0 0] 25)) = w1
  have HB_1 : Aside0 (Below w.heap.size w w1) := ⟨by rw [← hw1]; exact below_alloc (below_alloc (below_alloc (Below.refl _ _) _) _) _⟩
  have H0_1 : Aside0 (IsB w1 w.heap.size (row4 r c wd (.slice A l.length cA)) 25) := ⟨by rw [← hw1]; exact blk_alloc (blk_alloc (blk_new _ _) _) _⟩
  have H1_1 : Aside0 (IsB w1 (w.heap.size + 1) (row4 0 0 0 (.slice none 0 0)) 25) := ⟨by rw [← hw1]; exact blk_alloc (new1 w _ _ 25 25) _⟩
  have H2_1 : Aside0 (IsB w1 (w.heap.size + 1 + 1) (row4 rows cols wd (.slice none 0 0)) 25) := ⟨by rw [← hw1]; have h := blk_new ((w.alloc (Obj.cells #[Value.int IntKind.i64 r, Value.int IntKind.i64 c, Value.int IntKind.i64 wd, Value.slice A l.length cA] 25)).alloc (Obj.cells #[Value.int IntKind.i64 0, Value.int IntKind.i64 0, Value.int IntKind.i64 0, Value.slice none 0 0] 25)) (Obj.cells #[Value.int IntKind.i64 rows, Value.int IntKind.i64 cols, Value.int IntKind.i64 wd, Value.slice none 0 0] 25); simp only [World.size_alloc] at h; exact h⟩
  clear hw1
  go_loopg [8] rows (fun kq v8 w' => ∃ j : Nat, v8 = .int .i64 j ∧ Aside0 (j + kq = rows) ∧ Aside0 (IsB w' w.heap.size (row4 r c wd (.slice A l.length cA)) 25) ∧ Aside0 (IsB w' (w.heap.size + 1) (row4 0 0 0 (.slice none 0 0)) 25) ∧ (∃ v, Aside0 (IsB w' (w.heap.size + 1 + 1) (row4 rows cols wd v) 25) ∧ Aside0 (Ints w w' v (stretchL r c l id cols j))) ∧ Aside0 (Below w.heap.size w w'))
  case atStart => exact ⟨0, rfl, ⟨by omega⟩, H0_1, H1_1, ⟨_, H2_1, ⟨Kd.R_nil _ _ _ _ _⟩⟩, HB_1⟩
  case round =>
    clear H0_1 H1_1 H2_1 HB_1
    obtain ⟨j, rfl, HJ, H0, H1, ⟨v, H2, HP⟩, HB⟩ := hrel
    by_cases hlt : j < rows
    · have d1 : decide (j < rows) = true := decide_eq_true (by omega)
      have HLT := Aside0.mk hlt
      clear hlt
      go_wp2
      have HP0 : Aside0 (Ints w wr v (stretchL r c l id cols j ++ srowL r c l id j 0)) := ⟨by simpa [srowL] using HP.out⟩
      clear HP d1
      obtain ⟨gk0, hgk0⟩ : ∃ x : Nat, x = gk := ⟨_, rfl⟩
      have HG0 := Aside0.mk hgk0
      clear hgk0
      go_loopg [9] cols (fun kq v9 w' => ∃ i : Nat, v9 = .int .i64 i ∧ Aside0 (i + kq = cols) ∧ Aside0 (IsB w' w.heap.size (row4 r c wd (.slice A l.length cA)) 25) ∧ Aside0 (IsB w' (w.heap.size + 1) (row4 0 0 0 (.slice none 0 0)) 25) ∧ (∃ v, Aside0 (IsB w' (w.heap.size + 1 + 1) (row4 rows cols wd v) 25) ∧ Aside0 (Ints w w' v (stretchL r c l id cols j ++ srowL r c l id j i))) ∧ Aside0 (Below w.heap.size w w'))
      case atStart => exact ⟨0, rfl, ⟨by omega⟩, H0, H1, ⟨_, H2, HP0⟩, HB⟩
      case round =>
        clear H0 H1 H2 HB HP0
        obtain ⟨i, rfl, HI, H0, H1, ⟨v, H2, HP⟩, HB⟩ := hrel
        by_cases hlt : i < cols
        · have d1 : decide (i < cols) = true := decide_eq_true (by omega)
          have HI2 : Aside0 (i < cols) := ⟨hlt⟩
          clear hlt
          obtain ⟨cw, c1, c2, c3, c4, c5, c6, c7⟩ := check_form HF.out.1
          have s1 := (fitsV_iff _ _).1 HF.out.2.1
          have s2 := (fitsV_iff _ _).1 HF.out.2.2.1
          have HSo := Aside0.mk (From_eq (wd := wd) c1 c3 c2 c4 s1.2 s2.2 (i := (j : Int)) (j := (i : Int)) (by omega) (by have := HLT.out; omega) (by omega) (by have := HI2.out; omega))
          have hsl := src_lt c1 c3 c2 c4 s1.2 s2.2 (i := (j : Int)) (j := (i : Int)) (by omega) (by have := HLT.out; omega) (by omega) (by have := HI2.out; omega)
          have HSZ := Aside0.mk (sized_form HF.out.2.2.2)
          have HLN : Aside0 ((stretchL r c l id cols j ++ srowL r c l id j i).length ≤ 1000000) := ⟨by
            have hrows := HSZ.out
            have h1 := HLT.out
            have h2 := HI2.out
            have h3 : j * cols ≤ rows * cols := Nat.mul_le_mul_right _ (by omega)
            have h4 : ((rows * cols : Nat) : Int) = (rows : Int) * cols := by rw [Int.natCast_mul]
            rw [List.length_append, stretchL_length, srowL_length]
            omega⟩
          have HTK := Aside0.mk (srowL_succ r c l id j i)
          generalize srcV r c (j : Int) (i : Int) = sx at HSo hsl HTK
          obtain ⟨ad, hA, hel⟩ := Kd.at_int (Kd.C_below HH.out.1 HB.out) sx hsl.1 (by omega)
          subst hA
          have sl0 := eq_true hsl.1
          have sl1 := eq_true (show sx < (l.length : Int) by omega)
          generalize hx : rd l sx = x at hel HTK
          clear c1 c2 c3 c4 c5 c6 c7 s1 s2 hsl
          obtain ⟨A2, k2, hv⟩ := Kd.R_slice HP.out
          generalize hln : (stretchL r c l id cols j ++ srowL r c l id j i).length = ln at hv
          clear hln
          subst hv
          have a0 := blk_cell H0.out 0
          have a1 := blk_cell H0.out 1
          have a2 := blk_cell H0.out 2
          have a3 := blk_cell H0.out 3
          simp only [List.getElem?_toArray, List.getElem?_cons_zero, List.getElem?_cons_succ] at a0 a1 a2 a3
          have m3 := blk_cell H2.out 3
          simp only [List.getElem?_toArray, List.getElem?_cons_zero, List.getElem?_cons_succ] at m3
          go_wp2
          refine start_ (n := 15) (S := fun w' => w'.cell? ⟨w.heap.size, 0, none⟩ = some (.int .i64 r) ∧ w'.cell? ⟨w.heap.size, 1, none⟩ = some (.int .i64 c) ∧ w'.cell? ⟨w.heap.size, 2, none⟩ = some (.int .i64 wd) ∧ w'.cell? ⟨w.heap.size, 3, none⟩ = some (.slice (some ad) l.length cA) ∧ w'.cell? (ad.add sx.toNat) = some (.int .i64 x) ∧ w'.cell? ⟨w.heap.size + 1 + 1, 3, none⟩ = some (.slice A2 ln k2)) (ds := [14]) #[false, false, false, false, false, false, false, false, false, false, false, false, false, false, false] (by kernel_rfl) rfl rfl ⟨a0, a1, a2, a3, hel, m3⟩ (fun hHeld => ?_)
          refine with_tabW F25Rtab8 F25Rbits8 (fun HT_ HW_ => ?_)
          refine pure_ (i := 0) (N := some 25) (v := ?_) (a' := ?_) #[true, false, false, false, false, false, false, false, false, false, false, false, false, false, false] rfl rfl (any_of HT_.out (by kernel_rfl)) (fun _ _ _ h => h) (Or.inl ⟨by rfl, ?_⟩) ?_ ?_
          rotate_left
          · intro w'
            go_simp
            with_reducible rfl
          rotate_left
          · simp only [Act.put, List.setIfInBounds_toArray, List.set_cons_zero, List.set_cons_succ, i64_w, i32_w]
            rfl
          refine pure_ (i := 2) (N := some 27) (v := ?_) (a' := ?_) #[true, false, true, false, false, false, false, false, false, false, false, false, false, false, false] rfl rfl (any_of HT_.out (by kernel_rfl)) (fun _ _ _ h => h) (Or.inl ⟨by rfl, ?_⟩) ?_ ?_
          rotate_left
          · intro w'
            go_simp
            with_reducible rfl
          rotate_left
          · simp only [Act.put, List.setIfInBounds_toArray, List.set_cons_zero, List.set_cons_succ, i64_w, i32_w]
            rfl
          refine pure_ (i := 6) (N := some 31) (v := ?_) (a' := ?_) #[true, false, true, false, false, false, true, false, false, false, false, false, false, false, false] rfl rfl (any_of HT_.out (by kernel_rfl)) (fun _ _ _ h => h) (Or.inl ⟨by rfl, ?_⟩) ?_ ?_
          rotate_left
          · intro w'
            go_simp
            with_reducible rfl
          rotate_left
          · simp only [Act.put, List.setIfInBounds_toArray, List.set_cons_zero, List.set_cons_succ, i64_w, i32_w]
            rfl
          refine pure_ (i := 7) (N := some 32) (v := ?_) (a' := ?_) #[true, false, true, false, false, false, true, true, false, false, false, false, false, false, false] rfl rfl (any_of HT_.out (by kernel_rfl)) (fun _ _ _ h => h) (Or.inl ⟨by rfl, ?_⟩) ?_ ?_
          rotate_left
          · intro w'
            go_simp
            with_reducible rfl
          rotate_left
          · simp only [Act.put, List.setIfInBounds_toArray, List.set_cons_zero, List.set_cons_succ, i64_w, i32_w]
            rfl
          refine take_ (i := 1) (N := some 26) (v := ?_) (a' := ?_) #[true, true, true, false, false, false, true, true, false, false, false, false, false, false, false] rfl rfl (take_ofW HT_.out HW_.out (by kernel_rfl)) (fun _ _ _ h => h) (Or.inl ⟨by rfl, ?_⟩) hHeld ?_ ?_
          rotate_left
          · rintro w' ⟨s0, s1, s2, s3, s4, s5⟩
            go_simp
            with_reducible rfl
          rotate_left
          · simp only [Act.put, List.setIfInBounds_toArray, List.set_cons_zero, List.set_cons_succ, i64_w, i32_w]
            rfl
          refine take_ (i := 3) (N := some 28) (v := ?_) (a' := ?_) #[true, true, true, true, false, false, true, true, false, false, false, false, false, false, false] rfl rfl (take_ofW HT_.out HW_.out (by kernel_rfl)) (fun _ _ _ h => h) (Or.inl ⟨by rfl, ?_⟩) hHeld ?_ ?_
          rotate_left
          · rintro w' ⟨s0, s1, s2, s3, s4, s5⟩
            go_simp
            with_reducible rfl
          rotate_left
          · simp only [Act.put, List.setIfInBounds_toArray, List.set_cons_zero, List.set_cons_succ, i64_w, i32_w]
            rfl
          refine take_ (i := 4) (N := some 29) (v := ?_) (a' := ?_) #[true, true, true, true, true, false, true, true, false, false, false, false, false, false, false] rfl rfl (take_ofW HT_.out HW_.out (by kernel_rfl)) (fun _ _ _ h => h) (Or.inl ⟨by rfl, ?_⟩) hHeld ?_ ?_
          rotate_left
          · rintro w' ⟨s0, s1, s2, s3, s4, s5⟩
            go_simp
            with_reducible rfl
          rotate_left
          · simp only [Act.put, List.setIfInBounds_toArray, List.set_cons_zero, List.set_cons_succ, i64_w, i32_w]
            rfl
          refine one_ (i := 5) (N := some 30) #[true, true, true, true, true, true, true, true, false, false, false, false, false, false, false] rfl rfl (one_of HT_.out (by kernel_rfl)) (by decide) (fun K hK => ?_)
          refine goes_ Try.func37 (by kernel_rfl) rfl #[.agg #[.int .i64 r, .int .i64 c, .int .i64 wd, .slice (some ad) l.length cA]] (by rfl) rfl rfl (by simp only [List.map_toArray, List.map_cons, List.map_nil]; rfl) ?_
          with_reducible refine (pupilref7_Of.calls r c wd (some ad) cA l r c wd _ (Kd.C_below HH.out.1 (Below.drew HB.out)) HH.out.2.1 (by unfold pupilref7_Of.f; rfl)).mono ?_
          rintro e w7 ⟨rfl, hb⟩
          refine ⟨_, rfl, ?_⟩
          have H0_7 := Aside0.mk (blk_below (blk_drew H0.out) hb)
          have H1_7 := Aside0.mk (blk_below (blk_drew H1.out) hb)
          have H2_7 := Aside0.mk (blk_below (blk_drew H2.out) hb)
          have HP_7 := Aside0.mk (Kd.R_below (Kd.R_drew HP.out) hb)
          have HB_7 := Aside0.mk (below_step (Below.drew HB.out) hb)
          have hel7 := (hb.cell (World.block_lt_of_cell? _ _ hel)).trans hel
          have b0 := blk_cell H0_7.out 0
          have b1 := blk_cell H0_7.out 1
          have b2 := blk_cell H0_7.out 2
          have b3 := blk_cell H0_7.out 3
          simp only [List.getElem?_toArray, List.getElem?_cons_zero, List.getElem?_cons_succ] at b0 b1 b2 b3
          have o3 := blk_cell H2_7.out 3
          simp only [List.getElem?_toArray, List.getElem?_cons_zero, List.getElem?_cons_succ] at o3
          refine hK.out _ _ ⟨b0, b1, b2, b3, hel7, o3⟩ (fun hHeld => ?_)
          clear hK K
          refine norm_ (a' := ?_) ?_ ?_
          rotate_left
          · show Act.put _ (some 30) _ = _
            simp only [Act.put, List.setIfInBounds_toArray, List.set_cons_zero, List.set_cons_succ, i64_w, i32_w]
            rfl
          refine one_ (i := 8) (N := some 33) #[true, true, true, true, true, true, true, true, true, false, false, false, false, false, false] rfl rfl (one_of HT_.out (by kernel_rfl)) (by decide) (fun K hK => ?_)
          refine goes_ Try.func61 (by kernel_rfl) rfl #[.agg #[.int .i64 r, .int .i64 c, .int .i64 wd], .int .i64 (j : Int), .int .i64 (i : Int)] (by rfl) rfl rfl (by simp only [List.map_toArray, List.map_cons, List.map_nil]; rfl) ?_
          with_reducible refine (pupilref7_From.calls r c wd (j : Int) (i : Int) sx w7 HSo.out).mono ?_
          rintro e w8 ⟨rfl, hb8⟩
          refine ⟨_, rfl, ?_⟩
          have H0_8 := Aside0.mk (blk_below H0_7.out hb8)
          have H1_8 := Aside0.mk (blk_below H1_7.out hb8)
          have H2_8 := Aside0.mk (blk_below H2_7.out hb8)
          have HP_8 := Aside0.mk (Kd.R_below HP_7.out hb8)
          have HB_8 := Aside0.mk (below_step HB_7.out hb8)
          have hel8 := (hb8.cell (World.block_lt_of_cell? _ _ hel7)).trans hel7
          have b0 := blk_cell H0_8.out 0
          have b1 := blk_cell H0_8.out 1
          have b2 := blk_cell H0_8.out 2
          have b3 := blk_cell H0_8.out 3
          simp only [List.getElem?_toArray, List.getElem?_cons_zero, List.getElem?_cons_succ] at b0 b1 b2 b3
          have o3 := blk_cell H2_8.out 3
          simp only [List.getElem?_toArray, List.getElem?_cons_zero, List.getElem?_cons_succ] at o3
          refine hK.out _ _ ⟨b0, b1, b2, b3, hel8, o3⟩ (fun hHeld => ?_)
          clear hK K
          refine norm_ (a' := ?_) ?_ ?_
          rotate_left
          · show Act.put _ (some 33) _ = _
            simp only [Act.put, List.setIfInBounds_toArray, List.set_cons_zero, List.set_cons_succ, i64_w, i32_w]
            rfl
          refine pure_ (i := 9) (N := some 34) (v := ?_) (a' := ?_) #[true, true, true, true, true, true, true, true, true, true, false, false, false, false, false] rfl rfl (any_of HT_.out (by kernel_rfl)) (fun _ _ _ h => h) (Or.inl ⟨by rfl, ?_⟩) ?_ ?_
          rotate_left
          · intro w'
            go_simp
            with_reducible rfl
          rotate_left
          · simp only [Act.put, List.setIfInBounds_toArray, List.set_cons_zero, List.set_cons_succ, i64_w, i32_w]
            rfl
          refine take_ (i := 10) (N := some 35) (v := ?_) (a' := ?_) #[true, true, true, true, true, true, true, true, true, true, true, false, false, false, false] rfl rfl (take_ofW HT_.out HW_.out (by kernel_rfl)) (fun _ _ _ h => h) (Or.inl ⟨by rfl, ?_⟩) hHeld ?_ ?_
          rotate_left
          · rintro w' ⟨s0, s1, s2, s3, s4, s5⟩
            go_simp
            with_reducible rfl
          rotate_left
          · simp only [Act.put, List.setIfInBounds_toArray, List.set_cons_zero, List.set_cons_succ, i64_w, i32_w]
            rfl
          refine one_ (i := 11) (N := some 36) #[true, true, true, true, true, true, true, true, true, true, true, true, false, false, false] rfl rfl (one_of HT_.out (by kernel_rfl)) (by decide) (fun K hK => ?_)
          refine value_ (w1 := ?_) (v := ?_) (by rfl) rfl ?_ ?_
          rotate_left 2
          · go_simp
            constructor
            · rfl
            · rfl
          have hel8a := ((below_alloc (Below.refl w8.heap.size w8) (Obj.cells #[Value.int IntKind.i64 x] 3)).cell (World.block_lt_of_cell? _ _ hel8)).trans hel8
          refine hK.out _ _ ⟨(blk_cell (blk_alloc H0_8.out _) 0).trans rfl, (blk_cell (blk_alloc H0_8.out _) 1).trans rfl, (blk_cell (blk_alloc H0_8.out _) 2).trans rfl, (blk_cell (blk_alloc H0_8.out _) 3).trans rfl, hel8a, (blk_cell (blk_alloc H2_8.out _) 3).trans rfl⟩ (fun hHeld => ?_)
          clear hK K
          refine norm_ (a' := ?_) ?_ ?_
          rotate_left
          · show Act.put _ (some 36) _ = _
            simp only [Act.put, List.setIfInBounds_toArray, List.set_cons_zero, List.set_cons_succ, i64_w, i32_w]
            rfl
          refine one_ (i := 12) (N := some 37) #[true, true, true, true, true, true, true, true, true, true, true, true, true, false, false] rfl rfl (one_of HT_.out (by kernel_rfl)) (by decide) (fun K hK => ?_)
          refine Kd.R_append_step (Kd.int .i64) (w0 := w) w.heap.size (by rfl) (.tmp 26) (.tmp 36) 23 3 (.int .i64 0) 8 rfl Try.underlying23 info3' rfl (by decide) (by omega) (.slice A2 ln k2) (stretchL r c l id cols j ++ srowL r c l id j i) x [.int .i64 x] (fun _ => True) (fun _ => False) rfl rfl ?aP (fun _ hk => hk.elim) ?aF ?aO ?aB ?aS ?aL ?_
          (case aP => exact rfl)
          (case aB => exact HB_8.out)
          (case aF => exact (fun _ _ => trivial))
          (case aO => exact HP_8.out)
          (case aS => exact below_size HB_8.out)
          (case aL => have := HLN.out; omega)
          intro v9 w9 ho hb9 hg9 hat9
          have H0_9 := Aside0.mk (blk_grown H0_8.out hg9 (Kd.R_ne HP_8.out H0_8.out (by decide)))
          have H1_9 := Aside0.mk (blk_grown H1_8.out hg9 (Kd.R_ne HP_8.out H1_8.out (by decide)))
          have H2_9 := Aside0.mk (blk_grown H2_8.out hg9 (Kd.R_ne HP_8.out H2_8.out (by decide)))
          have HB_9 := Aside0.mk hb9
          have HO_9 := Aside0.mk ho
          obtain ⟨ad2, hA2, hel2⟩ := Kd.at_int (Kd.C_below HH.out.1 hb9) sx (of_eq_true sl0) (of_eq_true sl1)
          injection hA2 with hA2
          subst hA2
          rw [hx] at hel2
          obtain ⟨A9, c9, hv9⟩ := Kd.R_slice ho
          generalize (stretchL r c l id cols j ++ srowL r c l id j i ++ [x]).length = l9 at hv9
          subst hv9
          have b0 := blk_cell H0_9.out 0
          have b1 := blk_cell H0_9.out 1
          have b2 := blk_cell H0_9.out 2
          have b3 := blk_cell H0_9.out 3
          simp only [List.getElem?_toArray, List.getElem?_cons_zero, List.getElem?_cons_succ] at b0 b1 b2 b3
          have o3 := blk_cell H2_9.out 3
          simp only [List.getElem?_toArray, List.getElem?_cons_zero, List.getElem?_cons_succ] at o3
          have rf := blk_frozen H2_9.out 3
          refine hK.out _ _ ⟨b0, b1, b2, b3, hel2, o3⟩ (fun hHeld => ?_)
          clear hK K
          refine norm_ (a' := ?_) ?_ ?_
          rotate_left
          · show Act.put _ (some 37) _ = _
            simp only [Act.put, List.setIfInBounds_toArray, List.set_cons_zero, List.set_cons_succ, i64_w, i32_w]
            rfl
          refine pure_ (i := 13) (N := some 38) (v := ?_) (a' := ?_) #[true, true, true, true, true, true, true, true, true, true, true, true, true, true, false] rfl rfl (any_of HT_.out (by kernel_rfl)) (fun _ _ _ h => h) (Or.inl ⟨by rfl, ?_⟩) ?_ ?_
          rotate_left
          · intro w'
            go_simp
            with_reducible rfl
          rotate_left
          · simp only [Act.put, List.setIfInBounds_toArray, List.set_cons_zero, List.set_cons_succ, i64_w, i32_w]
            rfl
          refine last_ (i := 14) (N := none) #[true, true, true, true, true, true, true, true, true, true, true, true, true, true, true] rfl rfl (one_of HT_.out (by kernel_rfl)) (by decide) (fun K hK => ?_)
          refine skip_ (w1 := ?_) (by rfl) rfl ?_ ?_
          rotate_left
          · go_simp
            rfl
          refine hK.out _ _ ?_
          clear hK K
          refine done_ (done_of HT_.out (by kernel_rfl)) ?_
          clear a0 a1 a2 a3 m3 hel hHeld
          go_wp2
          go_roundg (gk - 1)
          case measure => have := HI.out; have := HI2.out; omega
          case rel => exact ⟨i + 1, next_i6 (by have := HI2.out; have := HSZ.out; omega), ⟨by have := HI.out; have := HI2.out; omega⟩, ⟨blk_far H0_9.out (by show w.heap.size ≠ w.heap.size + 1 + 1; omega) _⟩, ⟨blk_far H1_9.out (by show w.heap.size + 1 ≠ w.heap.size + 1 + 1; omega) _⟩, ⟨_, ⟨blk_set H2_9.out 3 _⟩, ⟨by rw [HTK.out, ← List.append_assoc]; exact Kd.R_set HO_9.out H2_9.out (by decide) 3 _⟩⟩, ⟨below_set HB_9.out (by omega)⟩⟩
        · have d1 : decide (i < cols) = false := decide_eq_false (by omega)
          have hi : i = cols := by have := HI.out; omega
          clear HI
          subst hi
          go_wp2
          go_roundg (gk0 - 1)
          case measure => have := HJ.out; have := HLT.out; have := HG0.out; omega
          case rel => exact ⟨j + 1, next_i6 (by have := HLT.out; have := sized_form HF.out.2.2.2; omega), ⟨by have := HJ.out; have := HLT.out; have := HG0.out; omega⟩, H0, H1, ⟨_, H2, ⟨by rw [stretchL_succ]; exact HP.out⟩⟩, HB⟩
    · have d1 : decide (j < rows) = false := decide_eq_false (by omega)
      have hj : j = rows := by have := HJ.out; omega
      clear HJ
      subst hj
      obtain ⟨A9, cp, hv, hle, hC9⟩ := Kd.R_reads HP.out
      have HRD := Aside0.mk (And.intro hle hC9)
      clear hle hC9
      generalize hln : (stretchL r c l id cols j).length = ln at hv
      have HLNN := Aside0.mk hln
      clear hln
      subst hv
      have m0 := blk_cell H2.out 0
      have m1 := blk_cell H2.out 1
      have m2 := blk_cell H2.out 2
      have m3 := blk_cell H2.out 3
      simp only [List.getElem?_toArray, List.getElem?_cons_zero, List.getElem?_cons_succ] at m0 m1 m2 m3
      go_wp2_with fail
      have hll : (stretchL r c l id cols j).length ≤ 4096 := stretch_len HF.out.2.2.2
      have hcan := pupilref7_Canon.calls (ln + 3) (j : Int) (cols : Int) wd A9 cp (stretchL r c l id cols j) (j : Int) (cols : Int) wd ((stretchL r c l id cols j).map (cleanV wd)) wr HRD.out.2 HRD.out.1 (canon_eq (ln + 3) (j : Int) (cols : Int) wd _ (check_form HF.out.1).1 (stretch_range HF.out HH.out.2.2.2.2) (by omega) (by rw [HLNN.out]; omega))
      rw [HLNN.out] at hcan
      refine hcan.mono ?_
      rintro e w9 ⟨v9, rfl, hR9, hb9⟩
      have H1_9 := Aside0.mk (blk_below H1.out hb9)
      have HB_9 := Aside0.mk (below_step HB.out hb9)
      have HP_9 := Aside0.mk (Kd.R_lower hR9 HB.out.size)
      clear hcan m0 m1 m2 m3 hb9 hR9
      obtain ⟨A7, k7, hv7⟩ := Kd.R_slice HP_9.out
      generalize ((stretchL r c l id cols j).map (cleanV wd)).length = l7 at hv7
      subst hv7
      have n0 := blk_cell H1_9.out 0
      have n1 := blk_cell H1_9.out 1
      have n2 := blk_cell H1_9.out 2
      have n3 := blk_cell H1_9.out 3
      simp only [List.getElem?_toArray, List.getElem?_cons_zero, List.getElem?_cons_succ] at n0 n1 n2 n3
      have nf0 := blk_frozen H1_9.out 0
      have nf1 := blk_frozen H1_9.out 1
      have nf2 := blk_frozen H1_9.out 2
      have nf3 := blk_frozen H1_9.out 3
      go_wp2
      have HE := isB_set4 H1_9.out (.int .i64 j) (.int .i64 cols) (.int .i64 wd) (.slice A7 l7 k7)
      have e0 := blk_cell HE 0
      have e1 := blk_cell HE 1
      have e2 := blk_cell HE 2
      have e3 := blk_cell HE 3
      simp only [List.getElem?_toArray, List.getElem?_cons_zero, List.getElem?_cons_succ] at e0 e1 e2 e3
      refine bodyPost_ret (v := .agg #[.int .i64 j, .int .i64 cols, .int .i64 wd, .slice A7 l7 k7]) (by simp [results, Try.results25, go_sem, e0, e1, e2, e3]) rfl ?_
      exact ⟨_, rfl, by rw [stretchL_map]; exact R_set4 HP_9.out H1_9.out (by decide) _ _ _ _, below_set4 HB_9.out (by omega) _ _ _ _⟩

end Go.Proofs.Ytklomikdihlcgaa
