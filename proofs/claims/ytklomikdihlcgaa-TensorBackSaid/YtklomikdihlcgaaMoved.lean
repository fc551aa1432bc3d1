/- (tensor.Move).Moved: the matrix that a move makes. -/
import Derived.Test.YtklomikdihlcgaaPut
namespace Go.Proofs.Ytklomikdihlcgaa
open Go.RowKit PBase
open Go.Proofs.YtklomikdihlcgaaW.PrintWords Go.Proofs.YtklomikdihlcgaaW.PrintLast Go.Proofs.YtklomikdihlcgaaW.PrintMore
set_option linter.unusedVariables false
set_option linter.unusedSimpArgs false

/-- a matrix: rows, columns, width, elements -/
abbrev Mat := Int × Int × Int × List Int
abbrev matK : Kd Mat := Kd.pair (Kd.int .i64) (Kd.pair (Kd.int .i64) (Kd.pair (Kd.int .i64) (Kd.slice 3 (Kd.int .i64))))
def matAt (ms : List Mat) (i : Int) : Mat := ms.getD i.toNat (0, 0, 0, [])
def elemAt (ms : List Mat) (p : Int × Int) : Int := (matAt ms p.1).2.2.2.getD p.2.toNat 0
def inMs (ms : List Mat) (p : Int × Int) : Prop := 0 ≤ p.1 ∧ p.1 < ms.length ∧ 0 ≤ p.2 ∧ p.2 < (matAt ms p.1).2.2.2.length

theorem add_succ (ad : Addr) (n : Nat) : ad.add (n + 1) = ⟨(ad.add n).block, (ad.add n).off + 1, none⟩ := by
  unfold Addr.add
  by_cases h : n = 0
  · subst h; simp
  · simp [h]; omega

theorem add_three (ad : Addr) (n : Nat) : ad.add (n + 3) = ⟨(ad.add n).block, (ad.add n).off + 3, none⟩ := by
  unfold Addr.add
  by_cases h : n = 0
  · subst h; simp
  · simp [h]; omega

theorem next_i6 {i : Nat} (h : i ≤ 1000000) : Value.int .i64 (wrap64 ((i : Int) + 1)) = .int .i64 ((i + 1 : Nat) : Int) := by
  rw [IntWalk.wrap64_in ((i : Int) + 1) (by omega)]; rfl
theorem keep_blk {W W1 : World} {g g' t : Nat} {cs : Array Value} {row : Option Nat} (h : IsB W g cs t) (hk : KeepBut W W1 g' row) (hne : g ≠ g') (hr : some g ≠ row) : IsB W1 g cs t := (hk.2 g (blk_lt h) hne hr).trans h

theorem place_cells {w : World} {B : Option Addr} {ps : List (Int × Int)} (hF : two.C w B ps.length ps) (i : Nat) (hi : i < ps.length) :
    ∃ ad, B = some ad ∧ w.cell? (ad.add (i * 2)) = some (.int .i64 (ps.getD i (0, 0)).1) ∧ w.cell? (ad.add (i * 2 + 1)) = some (.int .i64 (ps.getD i (0, 0)).2) := by
  obtain ⟨ad, c, h1, h2, h3, h4⟩ := Kd.C_get hF (0, 0) (i : Int) (by omega) (by omega)
  obtain ⟨c0, c1, rfl, e0, e1⟩ := h3
  simp only [Int.toNat_natCast] at e0 e1 h4
  have e0' : c0 = [.int .i64 (ps.getD i (0, 0)).1] := e0
  have e1' : c1 = [.int .i64 (ps.getD i (0, 0)).2] := e1
  subst e0' e1'
  exact ⟨ad, h1, h4 0 _ rfl, h4 1 _ rfl⟩

theorem mat_cells {w : World} {A : Option Addr} {ms : List Mat} (hM : matK.C w A ms.length ms) (a : Int) (h0 : 0 ≤ a) (h1 : a < ms.length) :
    ∃ ad E c, A = some ad ∧ w.cell? (ad.add (a.toNat * 4 + 3)) = some (.slice E (matAt ms a).2.2.2.length c) ∧ (matAt ms a).2.2.2.length ≤ c ∧ (Kd.int .i64).C w E (matAt ms a).2.2.2.length (matAt ms a).2.2.2 := by
  obtain ⟨ad, c, h1, h2, h3, h4⟩ := Kd.C_get hM (0, 0, 0, []) a h0 h1
  obtain ⟨c0, c1, rfl, e0, c2, c3, rfl, e1, c4, c5, rfl, e2, E, cE, rfl, hle, hC⟩ := h3
  have e0' : c0 = [.int .i64 _] := e0
  have e1' : c2 = [.int .i64 _] := e1
  have e2' : c4 = [.int .i64 _] := e2
  subst e0' e1' e2'
  exact ⟨ad, E, cE, h1, h4 3 _ rfl, hle, hC⟩

def F87RT5 : Bool × List (List Nat × List Nat) := (true, [([], []), ([], []), ([1], [1]), ([0, 2], [0, 2]), ([3], [3]), ([4], [4]), ([], []), ([6], [6]), ([5, 7], [5, 7]), ([8], [8]), ([9], [9])])
def F87RB5 : List Nat := [0, 0, 2, 7, 15, 31, 0, 64, 255, 511, 1023]
theorem F87Rtab5 : rtab .any (opsOf Try.f87 5) = F87RT5 := by kernel_rfl
theorem F87Rbits5 : waitsOk F87RT5.2 F87RB5 = true := by kernel_rfl
set_option maxHeartbeats 1000000 in
set_option maxRecDepth 100000 in
theorem Moved_calls (k : Nat) (x0 x1 wd : Int) (B : Option Addr) (cF : Nat) (ps : List (Int × Int)) (A : Option Addr) (cA : Nat) (ms : List Mat) (cl : Int → Int) (w : World)
    (hF : two.C w B ps.length ps) (hcF : ps.length ≤ cF) (hM : matK.C w A ms.length ms) (hcM : ms.length ≤ cA) (hl : ps.length ≤ 1000000) (hin : ∀ p ∈ ps, inMs ms p) (hc : ∀ x, tensor_Clean.f k x wd = some (cl x)) :
    Calls Try.prog 87 #[.agg #[.int .i64 x0, .int .i64 x1, .int .i64 wd, .slice B ps.length cF], .slice A ms.length cA] w fun e w' => ∃ v, e = .returned (.agg #[.int .i64 x0, .int .i64 x1, .int .i64 wd, v]) ∧ Ints w w' v (ps.map fun p => cl (elemAt ms p)) ∧ Below w.heap.size w w' := by
  go_enter Try.func87, Try.ntmps87
  have HH := Aside0.mk (And.intro hF (And.intro hcF (And.intro hM (And.intro hcM (And.intro hl (And.intro hin hc))))))
  clear hF hcF hM hcM hl hin hc
  go_wp2
  generalize hw1 : (((w.alloc (Obj.cells #[Value.int IntKind.i64 x0, Value.int IntKind.i64 x1, Value.int IntKind.i64 wd, Value.slice B ps.length cF] 93)).alloc (Obj.cells #[Value.int IntKind.i64 0, Value.int IntKind.i64 0, Value.int IntKind.i64 0, Value.slice none 0 0] 25)).alloc (Obj.cells #[Value.int IntKind.i64 x0, Value.int IntKind.i64 x1, Value.int IntKind.i64 wd, Value.slice none 0 0] 25)) = w1
  have H0 : Aside0 (IsB w1 w.heap.size (row4 x0 x1 wd (.slice B ps.length cF)) 93) := ⟨by rw [← hw1]; exact blk_alloc (blk_alloc (blk_new _ _) _) _⟩
  have H1 : Aside0 (IsB w1 (w.heap.size + 1) (row4 0 0 0 (.slice none 0 0)) 25) := ⟨by rw [← hw1]; exact blk_alloc (by have h := blk_new (w.alloc (Obj.cells #[Value.int IntKind.i64 x0, Value.int IntKind.i64 x1, Value.int IntKind.i64 wd, Value.slice B ps.length cF] 93)) (Obj.cells #[Value.int IntKind.i64 0, Value.int IntKind.i64 0, Value.int IntKind.i64 0, Value.slice none 0 0] 25); simpa using h) _⟩
  have H2 : Aside0 (IsB w1 (w.heap.size + 1 + 1) (row4 x0 x1 wd (.slice none 0 0)) 25) := ⟨by rw [← hw1]; have h := blk_new ((w.alloc (Obj.cells #[Value.int IntKind.i64 x0, Value.int IntKind.i64 x1, Value.int IntKind.i64 wd, Value.slice B ps.length cF] 93)).alloc (Obj.cells #[Value.int IntKind.i64 0, Value.int IntKind.i64 0, Value.int IntKind.i64 0, Value.slice none 0 0] 25)) (Obj.cells #[Value.int IntKind.i64 x0, Value.int IntKind.i64 x1, Value.int IntKind.i64 wd, Value.slice none 0 0] 25); simp only [World.size_alloc] at h; exact h⟩
  have HB : Aside0 (Below w.heap.size w w1) := ⟨by rw [← hw1]; exact below_alloc (below_alloc (below_alloc (Below.refl _ _) _) _) _⟩
  clear hw1
  go_loopg [21] ps.length (fun kq v21 w' => ∃ i : Nat, v21 = .int .i64 i ∧ Aside0 (i + kq = ps.length) ∧ Aside0 (IsB w' w.heap.size (row4 x0 x1 wd (.slice B ps.length cF)) 93) ∧ Aside0 (IsB w' (w.heap.size + 1) (row4 0 0 0 (.slice none 0 0)) 25) ∧ (∃ v, Aside0 (IsB w' (w.heap.size + 1 + 1) (row4 x0 x1 wd v) 25) ∧ Aside0 (Ints w w' v ((ps.take i).map fun p => cl (elemAt ms p)))) ∧ Aside0 (Below w.heap.size w w'))
  case atStart => exact ⟨0, rfl, ⟨by omega⟩, H0, H1, ⟨_, H2, ⟨Kd.R_nil _ _ _ _ _⟩⟩, HB⟩
  case round =>
    clear H0 H1 H2 HB
    obtain ⟨i, rfl, HI, H0, H1, ⟨v, H2, HP⟩, HB⟩ := hrel
    by_cases hlt : i < ps.length
    · have d1 : decide (i < ps.length) = true := decide_eq_true hlt
      obtain ⟨ad, hB, g0, g1⟩ := place_cells HH.out.1 i hlt
      have hin := HH.out.2.2.2.2.2.1 _ (List.getElem_mem hlt)
      have hpe : ps.getD i (0, 0) = ps[i] := by simp [List.getD_eq_getElem?_getD, hlt]
      rw [hpe] at g0 g1
      have htk : (ps.take (i + 1)).map (fun p => cl (elemAt ms p)) = (ps.take i).map (fun p => cl (elemAt ms p)) ++ [cl (elemAt ms ps[i])] := by
        rw [List.take_succ_eq_append_getElem hlt, List.map_append]; rfl
      have HTK := Aside0.mk htk
      generalize ps[i] = p at g0 g1 hin HTK
      clear htk hpe
      obtain ⟨pa, pb⟩ := p
      have HLT := Aside0.mk hlt
      have g0' := (HB.out.cell (World.block_lt_of_cell? w _ g0)).trans g0
      have g1' := (HB.out.cell (World.block_lt_of_cell? w _ g1)).trans g1
      clear g0 g1
      rw [add_succ] at g1'
      obtain ⟨adA, E, cE, hA, mE, hle, hCE⟩ := mat_cells HH.out.2.2.1 pa hin.1 hin.2.1
      obtain ⟨adE, hE, mb⟩ := Kd.at_int hCE pb hin.2.2.1 hin.2.2.2
      subst hB hA hE
      rw [add_three] at mE
      have pa0 := eq_true hin.1
      have pa1 := eq_true hin.2.1
      have pb0 := eq_true hin.2.2.1
      have pb1 := eq_true hin.2.2.2
      have hrd : rd (matAt ms pa).2.2.2 pb = elemAt ms (pa, pb) := rfl
      rw [hrd] at mb
      clear hrd hin
      go_wp2
      clear g0' g1' hlt
      have mE3 := (below_alloc HB.out (Obj.cells #[Value.int IntKind.i64 pa, Value.int IntKind.i64 pb] 99)).cell (World.block_lt_of_cell? w _ mE) |>.trans mE
      have mb3 := (below_alloc HB.out (Obj.cells #[Value.int IntKind.i64 pa, Value.int IntKind.i64 pb] 99)).cell (World.block_lt_of_cell? w _ mb) |>.trans mb
      have ME := Aside0.mk mE
      have MB := Aside0.mk mb
      clear mE mb
      have HF3 := Aside0.mk (blk_new wr (Obj.cells #[Value.int IntKind.i64 pa, Value.int IntKind.i64 pb] 99))
      have H03 := Aside0.mk (blk_alloc H0.out (Obj.cells #[Value.int IntKind.i64 pa, Value.int IntKind.i64 pb] 99))
      have H13 := Aside0.mk (blk_alloc H1.out (Obj.cells #[Value.int IntKind.i64 pa, Value.int IntKind.i64 pb] 99))
      have H23 := Aside0.mk (blk_alloc H2.out (Obj.cells #[Value.int IntKind.i64 pa, Value.int IntKind.i64 pb] 99))
      have HB3 := Aside0.mk (below_alloc HB.out (Obj.cells #[Value.int IntKind.i64 pa, Value.int IntKind.i64 pb] 99))
      have HP3 := Aside0.mk (Kd.R_alloc HP.out (Obj.cells #[Value.int IntKind.i64 pa, Value.int IntKind.i64 pb] 99))
      have HGF := Aside0.mk (show wr.heap.size ≠ w.heap.size + 1 + 1 from fun h => by have h2 := blk_lt H2.out; omega)
      generalize wr.heap.size = gf at HF3 HGF ⊢
      generalize wr.alloc (Obj.cells #[Value.int IntKind.i64 pa, Value.int IntKind.i64 pb] 99) = w3 at mE3 mb3 HF3 H03 H13 H23 HB3 HP3 ⊢
      clear H0 H1 H2 HB HP
      have f0 := blk_cell HF3.out 0
      have f1 := blk_cell HF3.out 1
      simp only [List.getElem?_toArray, List.getElem?_cons_zero, List.getElem?_cons_succ] at f0 f1
      refine start_ (n := 11) (S := fun w' => w'.cell? ⟨gf, 0, none⟩ = some (.int .i64 pa) ∧ w'.cell? ⟨gf, 1, none⟩ = some (.int .i64 pb) ∧ w'.cell? ⟨(adA.add (pa.toNat * 4)).block, (adA.add (pa.toNat * 4)).off + 3, none⟩ = some (.slice (some adE) (matAt ms pa).2.2.2.length cE) ∧ w'.cell? (adE.add pb.toNat) = some (.int .i64 (elemAt ms (pa, pb)))) (ds := []) #[false, false, false, false, false, false, false, false, false, false, false] (by kernel_rfl) rfl rfl ⟨f0, f1, mE3, mb3⟩ (fun hHeld => ?_)
      refine with_tabW F87Rtab5 F87Rbits5 (fun HT_ HW_ => ?_)
      refine pure_ (i := 0) (N := some 25) (v := ?_) (a' := ?_) #[true, false, false, false, false, false, false, false, false, false, false] rfl rfl (any_of HT_.out (by kernel_rfl)) (fun _ _ _ h => h) (Or.inl ⟨by rfl, ?_⟩) ?_ ?_
      rotate_left
      · intro w'
        go_simp
        with_reducible rfl
      rotate_left
      · simp only [Act.put, List.setIfInBounds_toArray, List.set_cons_zero, List.set_cons_succ, i64_w, i32_w]
        rfl
      refine pure_ (i := 1) (N := some 26) (v := ?_) (a' := ?_) #[true, true, false, false, false, false, false, false, false, false, false] rfl rfl (any_of HT_.out (by kernel_rfl)) (fun _ _ _ h => h) (Or.inl ⟨by rfl, ?_⟩) ?_ ?_
      rotate_left
      · intro w'
        go_simp
        with_reducible rfl
      rotate_left
      · simp only [Act.put, List.setIfInBounds_toArray, List.set_cons_zero, List.set_cons_succ, i64_w, i32_w]
        rfl
      refine pure_ (i := 6) (N := some 31) (v := ?_) (a' := ?_) #[true, true, false, false, false, false, true, false, false, false, false] rfl rfl (any_of HT_.out (by kernel_rfl)) (fun _ _ _ h => h) (Or.inl ⟨by rfl, ?_⟩) ?_ ?_
      rotate_left
      · intro w'
        go_simp
        with_reducible rfl
      rotate_left
      · simp only [Act.put, List.setIfInBounds_toArray, List.set_cons_zero, List.set_cons_succ, i64_w, i32_w]
        rfl
      refine take_ (i := 2) (N := some 27) (v := ?_) (a' := ?_) #[true, true, true, false, false, false, true, false, false, false, false] rfl rfl (take_ofW HT_.out HW_.out (by kernel_rfl)) (fun _ _ _ h => h) (Or.inl ⟨by rfl, ?_⟩) hHeld ?_ ?_
      rotate_left
      · rintro w' ⟨s0, s1, s2, s3⟩
        go_simp
        with_reducible rfl
      rotate_left
      · simp only [Act.put, List.setIfInBounds_toArray, List.set_cons_zero, List.set_cons_succ, i64_w, i32_w]
        rfl
      refine pure_ (i := 3) (N := some 28) (v := ?_) (a' := ?_) #[true, true, true, true, false, false, true, false, false, false, false] rfl rfl (any_of HT_.out (by kernel_rfl)) (fun _ _ _ h => h) (Or.inl ⟨by rfl, ?_⟩) ?_ ?_
      rotate_left
      · intro w'
        go_simp
        with_reducible rfl
      rotate_left
      · simp only [Act.put, List.setIfInBounds_toArray, List.set_cons_zero, List.set_cons_succ, i64_w, i32_w]
        rfl
      refine pure_ (i := 4) (N := some 29) (v := ?_) (a' := ?_) #[true, true, true, true, true, false, true, false, false, false, false] rfl rfl (any_of HT_.out (by kernel_rfl)) (fun _ _ _ h => h) (Or.inl ⟨by rfl, ?_⟩) ?_ ?_
      rotate_left
      · intro w'
        go_simp
        with_reducible rfl
      rotate_left
      · simp only [Act.put, List.setIfInBounds_toArray, List.set_cons_zero, List.set_cons_succ, i64_w, i32_w]
        rfl
      refine take_ (i := 5) (N := some 30) (v := ?_) (a' := ?_) #[true, true, true, true, true, true, true, false, false, false, false] rfl rfl (take_ofW HT_.out HW_.out (by kernel_rfl)) (fun _ _ _ h => h) (Or.inl ⟨by rfl, ?_⟩) hHeld ?_ ?_
      rotate_left
      · rintro w' ⟨s0, s1, s2, s3⟩
        go_simp
        with_reducible rfl
      rotate_left
      · simp only [Act.put, List.setIfInBounds_toArray, List.set_cons_zero, List.set_cons_succ, i64_w, i32_w]
        rfl
      refine take_ (i := 7) (N := some 32) (v := ?_) (a' := ?_) #[true, true, true, true, true, true, true, true, false, false, false] rfl rfl (take_ofW HT_.out HW_.out (by kernel_rfl)) (fun _ _ _ h => h) (Or.inl ⟨by rfl, ?_⟩) hHeld ?_ ?_
      rotate_left
      · rintro w' ⟨s0, s1, s2, s3⟩
        go_simp
        with_reducible rfl
      rotate_left
      · simp only [Act.put, List.setIfInBounds_toArray, List.set_cons_zero, List.set_cons_succ, i64_w, i32_w]
        rfl
      refine pure_ (i := 8) (N := some 33) (v := ?_) (a' := ?_) #[true, true, true, true, true, true, true, true, true, false, false] rfl rfl (any_of HT_.out (by kernel_rfl)) (fun _ _ _ h => h) (Or.inl ⟨by rfl, ?_⟩) ?_ ?_
      rotate_left
      · intro w'
        go_simp
        with_reducible rfl
      rotate_left
      · simp only [Act.put, List.setIfInBounds_toArray, List.set_cons_zero, List.set_cons_succ, i64_w, i32_w]
        rfl
      refine take_ (i := 9) (N := some 34) (v := ?_) (a' := ?_) #[true, true, true, true, true, true, true, true, true, true, false] rfl rfl (take_ofW HT_.out HW_.out (by kernel_rfl)) (fun _ _ _ h => h) (Or.inl ⟨by rfl, ?_⟩) hHeld ?_ ?_
      rotate_left
      · rintro w' ⟨s0, s1, s2, s3⟩
        go_simp
        with_reducible rfl
      rotate_left
      · simp only [Act.put, List.setIfInBounds_toArray, List.set_cons_zero, List.set_cons_succ, i64_w, i32_w]
        rfl
      refine one_ (i := 10) (N := some 35) #[true, true, true, true, true, true, true, true, true, true, true] rfl rfl (one_of HT_.out (by kernel_rfl)) (by decide) (fun K hK => ?_)
      refine goes_ Try.func58 (by kernel_rfl) rfl #[.pointer (some ⟨w.heap.size + 1 + 1, 0, none⟩), .int .i64 (elemAt ms (pa, pb))] (by rfl) rfl rfl (by simp only [List.map_toArray, List.map_cons, List.map_nil]; rfl) ?_
      with_reducible refine (put_calls k (w.heap.size + 1 + 1) w _ x0 x1 wd (elemAt ms (pa, pb)) (cl (elemAt ms (pa, pb))) v _ (blk_drew H23.out) (by omega) (Kd.R_drew HP3.out) (Below.drew HB3.out) (by have := HH.out.2.2.2.2.1; rw [List.length_map, List.length_take]; omega) (HH.out.2.2.2.2.2.2 _)).mono ?_
      rintro e w5 ⟨u, rfl, v5, hI5, hP5, hB5, hK5⟩
      refine ⟨_, rfl, ?_⟩
      have H05 := Aside0.mk (keep_blk (blk_drew H03.out) hK5 (by omega) (Kd.R_ne HP3.out H03.out (by decide)))
      have H15 := Aside0.mk (keep_blk (blk_drew H13.out) hK5 (by omega) (Kd.R_ne HP3.out H13.out (by decide)))
      have H25 := Aside0.mk hI5
      have hF5 := keep_blk (blk_drew HF3.out) hK5 HGF.out (Kd.R_ne HP3.out HF3.out (by decide))
      have mE5 := (hB5.cell (World.block_lt_of_cell? w _ ME.out)).trans ME.out
      have mb5 := (hB5.cell (World.block_lt_of_cell? w _ MB.out)).trans MB.out
      have HP5 := Aside0.mk hP5
      have HB5 := Aside0.mk hB5
      clear hI5 hP5 hB5 hK5
      refine hK.out _ _ ⟨(blk_cell hF5 0).trans rfl, (blk_cell hF5 1).trans rfl, mE5, mb5⟩ (fun hHeld => ?_)
      clear hK K
      refine norm_ (a' := ?_) ?_ ?_
      rotate_left
      · show Act.put _ (some 35) _ = _
        simp only [Act.put, List.setIfInBounds_toArray, List.set_cons_zero, List.set_cons_succ, i64_w, i32_w]
        rfl
      refine done_ (done_of HT_.out (by kernel_rfl)) ?_
      go_wp2
      go_roundg (gk - 1)
      case measure => have := HI.out; have := HLT.out; omega
      case rel => exact ⟨i + 1, next_i6 (by have := HH.out.2.2.2.2.1; have := HLT.out; omega), ⟨by have := HI.out; have := HLT.out; omega⟩, H05, H15, ⟨_, H25, ⟨by rw [HTK.out]; exact HP5.out⟩⟩, HB5⟩
    · have d1 : decide (i < ps.length) = false := decide_eq_false hlt
      have hi : i = ps.length := by have := HI.out; omega
      have hP2 : Ints w wr v (ps.map fun p => cl (elemAt ms p)) := by have h := HP.out; rw [hi, List.take_length] at h; exact h
      have HP2 := Aside0.mk hP2
      clear hP2 HP
      have m0 := blk_cell H2.out 0
      have m1 := blk_cell H2.out 1
      have m2 := blk_cell H2.out 2
      have m3 := blk_cell H2.out 3
      have n0 := blk_cell H1.out 0
      have n1 := blk_cell H1.out 1
      have n2 := blk_cell H1.out 2
      have n3 := blk_cell H1.out 3
      simp only [List.getElem?_toArray, List.getElem?_cons_zero, List.getElem?_cons_succ] at m0 m1 m2 m3 n0 n1 n2 n3
      have rf0 := blk_frozen H1.out 0
      have rf1 := blk_frozen H1.out 1
      have rf2 := blk_frozen H1.out 2
      have rf3 := blk_frozen H1.out 3
      obtain ⟨A9, cp, hv⟩ := Kd.R_slice HP2.out
      generalize (ps.map fun p => cl (elemAt ms p)).length = ln at hv
      subst hv
      go_wp2
      have HE := isB_set4 H1.out (.int .i64 x0) (.int .i64 x1) (.int .i64 wd) (.slice A9 ln cp)
      have e0 := blk_cell HE 0
      have e1 := blk_cell HE 1
      have e2 := blk_cell HE 2
      have e3 := blk_cell HE 3
      simp only [List.getElem?_toArray, List.getElem?_cons_zero, List.getElem?_cons_succ] at e0 e1 e2 e3
      refine bodyPost_ret (v := .agg #[.int .i64 x0, .int .i64 x1, .int .i64 wd, .slice A9 ln cp]) (by simp [results, Try.results87, go_sem, e0, e1, e2, e3]) rfl ?_
      exact ⟨_, rfl, R_set4 HP2.out H1.out (by decide) _ _ _ _, below_set4 HB.out (by omega) _ _ _ _⟩

end Go.Proofs.Ytklomikdihlcgaa
