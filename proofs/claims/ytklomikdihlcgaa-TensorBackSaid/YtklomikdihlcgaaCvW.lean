/- tensor.Convert of a matrix in form; tensor.Same of two that are one. -/
import Derived.Test.YtklomikdihlcgaaBkM
import Derived.Outline
namespace Go.Proofs.Ytklomikdihlcgaa
open Go.RowKit PBase
open Go.Proofs.YtklomikdihlcgaaW.PrintWords Go.Proofs.YtklomikdihlcgaaW.PrintLast Go.Proofs.YtklomikdihlcgaaW.PrintMore
set_option linter.unusedVariables false
set_option linter.unusedSimpArgs false


theorem int_at {w : World} {A : Option Addr} {l : List Int} (hC : (Kd.int .i64).C w A l.length l) (i : Nat) (hi : i < l.length) : ∃ ad, A = some ad ∧ w.cell? (ad.add i) = some (.int .i64 (l.getD i 0)) := by
  obtain ⟨ad, hA, hc⟩ := Kd.at_int hC (i : Int) (by omega) (by omega)
  exact ⟨ad, hA, by simpa [rd] using hc⟩

set_option maxHeartbeats 2000000 in
set_option maxRecDepth 100000 in
theorem convert_calls (cs : List Int) (r c wd tw : Int) (A : Option Addr) (cA : Nat) (l : List Int) (w : World) (hC : (Kd.int .i64).C w A l.length l) (hcA : l.length ≤ cA) (hk : checkV r c wd l = 0) (hto : tw = 32 ∨ tw = 64) (hcs : cs.length = l.length)
    (hcv : ∀ i, i < l.length → ∀ W, Calls Try.prog 80 #[.int .i64 (l.getD i 0), .int .i64 wd, .int .i64 tw] W fun e w' => e = .returned (.int .i64 (cs.getD i 0)) ∧ Below W.heap.size W w') :
    Calls Try.prog 47 #[.agg #[.int .i64 r, .int .i64 c, .int .i64 wd, .slice A l.length cA], .int .i64 tw] w (AnsP w 0 r c tw (cs.map (cleanV tw))) := by
  unfold AnsP
  have hl : l.length ≤ 1000000 := by
    obtain ⟨_, _, _, _, _, h5, h6, _⟩ := check_form hk
    omega
  have hcl : ∀ x, tensor_Clean.f 1 x tw = some (cleanV tw x) := fun x => clean_at 0 x hto
  have hbd : ((tw != 32) = true ∧ (tw != 64) = false) ∨ (tw != 32) = false := by rcases hto with rfl | rfl <;> simp
  have HH := Aside0.mk (And.intro hC (And.intro hcA (And.intro hk (And.intro hl (And.intro hcv (And.intro hcs hcl))))))
  clear hC hcA hk hl hcv hto hcs hcl
  go_enter Try.func47, Try.ntmps47
  go_wp2_with fail
  generalize hw1 : ((w.alloc (Obj.cells #[Value.int IntKind.i64 r, Value.int IntKind.i64 c, Value.int IntKind.i64 wd, Value.slice A l.length cA] 25)).alloc (Obj.cells #[Value.int IntKind.i64 0, Value.int IntKind.i64 0, Value.int IntKind.i64 0, Value.slice none 0 0] 25)) = w1
  have HB : Aside0 (Below w.heap.size w w1) := ⟨by rw [← hw1]; exact below_alloc (below_alloc (Below.refl _ _) _) _⟩
  have H0 : Aside0 (IsB w1 w.heap.size (row4 r c wd (.slice A l.length cA)) 25) := ⟨by rw [← hw1]; exact blk_alloc (blk_new _ _) _⟩
  have H1 : Aside0 (IsB w1 (w.heap.size + 1) (row4 0 0 0 (.slice none 0 0)) 25) := ⟨by rw [← hw1]; exact new1 w _ _ 25 25⟩
  clear hw1
  refine (tensor_Check.calls (l.length + 3) r c wd A cA l 0 w1 (Kd.C_below HH.out.1 HB.out) HH.out.2.1 (by rw [check_eq _ _ _ _ _ (by have := HH.out.2.2.2.1; omega) (by omega), HH.out.2.2.1])).mono ?_
  rintro e w2 ⟨rfl, hb⟩
  have HB2 := Aside0.mk (below_step HB.out hb)
  have H02 := Aside0.mk (blk_below H0.out hb)
  have H12 := Aside0.mk (blk_below H1.out hb)
  clear hb H0 H1 HB
  have a0 := blk_cell H02.out 0
  have a1 := blk_cell H02.out 1
  have a2 := blk_cell H02.out 2
  have a3 := blk_cell H02.out 3
  simp only [List.getElem?_toArray, List.getElem?_cons_zero, List.getElem?_cons_succ] at a0 a1 a2 a3
  have c3 := blk_cell (blk_alloc H02.out (Obj.cells #[.int .i64 r, .int .i64 c, .int .i64 tw, .slice none 0 0] 25)) 3
  simp only [List.getElem?_toArray, List.getElem?_cons_zero, List.getElem?_cons_succ] at c3
  have HBD := Aside0.mk hbd
  clear hbd
  rcases HBD.out with ⟨d1, d2⟩ | d1
  all_goals
    go_wp2
    have HB3 := Aside0.mk (below_alloc HB2.out (Obj.cells (row4 r c tw (.slice none 0 0)) 25))
    have H03 := Aside0.mk (blk_alloc H02.out (Obj.cells (row4 r c tw (.slice none 0 0)) 25))
    have H13 := Aside0.mk (blk_alloc H12.out (Obj.cells (row4 r c tw (.slice none 0 0)) 25))
    have H23 := Aside0.mk (blk_new w2 (Obj.cells (row4 r c tw (.slice none 0 0)) 25))
    have HGF := Aside0.mk (show w.heap.size + 1 < w2.heap.size from blk_lt H12.out)
    generalize w2.alloc (Obj.cells (row4 r c tw (.slice none 0 0)) 25) = w3 at HB3 H03 H13 H23 ⊢
    generalize w2.heap.size = gf at HGF H23 ⊢
    clear a0 a1 a2 a3 c3 HB2 H02 H12
    go_loopg [32] l.length (fun kq v32 w' => ∃ i : Nat, v32 = .int .i64 i ∧ Aside0 (i + kq = l.length) ∧ Aside0 (IsB w' w.heap.size (row4 r c wd (.slice A l.length cA)) 25) ∧ Aside0 (IsB w' (w.heap.size + 1) (row4 0 0 0 (.slice none 0 0)) 25) ∧ (∃ v, Aside0 (IsB w' gf (row4 r c tw v) 25) ∧ Aside0 (Ints w w' v ((cs.take i).map (cleanV tw)))) ∧ Aside0 (Below w.heap.size w w'))
    case atStart => exact ⟨0, rfl, ⟨by omega⟩, H03, H13, ⟨_, H23, ⟨Kd.R_nil _ _ _ _ _⟩⟩, HB3⟩
    case round =>
      clear H03 H13 H23 HB3
      obtain ⟨i, rfl, HI, H0, H1, ⟨v, H2, HP⟩, HB⟩ := hrel
      by_cases hlt : i < l.length
      · have d3 : decide (i < l.length) = true := decide_eq_true hlt
        obtain ⟨ad, hA, g0⟩ := int_at HH.out.1 i hlt
        have hcs := HH.out.2.2.2.2.2.1
        have htk : (cs.take (i + 1)).map (cleanV tw) = (cs.take i).map (cleanV tw) ++ [cleanV tw (cs.getD i 0)] := by
          rw [List.take_succ_eq_append_getElem (by omega), List.map_append, List.getD_eq_getElem?_getD, List.getElem?_eq_getElem (by omega)]; rfl
        have HTK := Aside0.mk htk
        have HLT := Aside0.mk hlt
        have g0' := (HB.out.cell (World.block_lt_of_cell? w _ g0)).trans g0
        have HCV := Aside0.mk (HH.out.2.2.2.2.1 i hlt)
        have HLN := Aside0.mk (show ((cs.take i).map (cleanV tw)).length ≤ 1000000 by rw [List.length_map, List.length_take]; have := HH.out.2.2.2.1; omega)
        generalize l.getD i 0 = x at g0' HCV
        generalize cs.getD i 0 = y at HTK HCV
        clear htk g0 hcs
        subst hA
        have b2 := blk_cell H0.out 2
        simp only [List.getElem?_toArray, List.getElem?_cons_zero, List.getElem?_cons_succ] at b2
        go_wp2_with fail
        refine (HCV.out _).mono ?_
        rintro e w5 ⟨rfl, hb⟩
        have H05 := Aside0.mk (blk_below H0.out hb)
        have H15 := Aside0.mk (blk_below H1.out hb)
        have H25 := Aside0.mk (blk_below H2.out hb)
        have HP5 := Aside0.mk (Kd.R_below HP.out hb)
        have HB5 := Aside0.mk (below_step HB.out hb)
        clear hb H0 H1 H2 HP HB g0' b2
        go_wp2_with fail
        refine (put_calls 1 gf w w5 r c tw y (cleanV tw y) v _ H25.out (by have := HGF.out; omega) HP5.out HB5.out HLN.out (HH.out.2.2.2.2.2.2 _)).mono ?_
        rintro e w6 ⟨u, rfl, v6, hI6, hP6, hB6, hK6⟩
        have H06 := Aside0.mk (keep_blk H05.out hK6 (by have := HGF.out; omega) (Kd.R_ne HP5.out H05.out (by decide)))
        have H16 := Aside0.mk (keep_blk H15.out hK6 (by have := HGF.out; omega) (Kd.R_ne HP5.out H15.out (by decide)))
        have H26 := Aside0.mk hI6
        have HP6 := Aside0.mk hP6
        have HB6 := Aside0.mk hB6
        clear hI6 hP6 hB6 hK6
        go_wp2
        go_roundg (gk - 1)
        case measure => have := HI.out; have := HLT.out; omega
        case rel => exact ⟨i + 1, next_i6 (by have := HH.out.2.2.2.1; have := HLT.out; omega), ⟨by have := HI.out; have := HLT.out; omega⟩, H06, H16, ⟨_, H26, ⟨by rw [HTK.out]; exact HP6.out⟩⟩, HB6⟩
      · have d3 : decide (i < l.length) = false := decide_eq_false hlt
        have hi : i = cs.length := by have := HI.out; have := HH.out.2.2.2.2.2.1; omega
        have hP2 : Ints w wr v (cs.map (cleanV tw)) := by have h := HP.out; rw [hi, List.take_length] at h; exact h
        have HP2 := Aside0.mk hP2
        clear hP2 HP hi
        have m0 := blk_cell H2.out 0
        have m1 := blk_cell H2.out 1
        have m2 := blk_cell H2.out 2
        have m3 := blk_cell H2.out 3
        have n0 := blk_cell H1.out 0
        have n1 := blk_cell H1.out 1
        have n2 := blk_cell H1.out 2
        have n3 := blk_cell H1.out 3
        simp only [List.getElem?_toArray, List.getElem?_cons_zero, List.getElem?_cons_succ] at m0 m1 m2 m3 n0 n1 n2 n3
        have rf0 := blk_frozen H1.out 0
        have rf1 := blk_frozen H1.out 1
        have rf2 := blk_frozen H1.out 2
        have rf3 := blk_frozen H1.out 3
        obtain ⟨A9, cp, hv⟩ := Kd.R_slice HP2.out
        generalize (cs.map (cleanV tw)).length = ln at hv
        subst hv
        go_wp2
        have HE := isB_set4 H1.out (.int .i64 r) (.int .i64 c) (.int .i64 tw) (.slice A9 ln cp)
        have e0 := blk_cell HE 0
        have e1 := blk_cell HE 1
        have e2 := blk_cell HE 2
        have e3 := blk_cell HE 3
        simp only [List.getElem?_toArray, List.getElem?_cons_zero, List.getElem?_cons_succ] at e0 e1 e2 e3
        refine bodyPost_ret (v := .tuple #[.agg #[.int .i64 r, .int .i64 c, .int .i64 tw, .slice A9 ln cp], .int .i64 0]) (by simp [results, Try.results47, go_sem, e0, e1, e2, e3]) rfl ?_
        exact ⟨_, rfl, R_set4 HP2.out H1.out (by decide) _ _ _ _, below_set4 HB.out (by omega) _ _ _ _⟩

/-- are two elements one, their one pattern taken? -/
def eqC (wd x y : Int) : Bool := cleanV wd x == cleanV wd y
def F82RT1 : Bool × List (List Nat × List Nat) := (true, [([], []), ([], []), ([1], [1]), ([0, 2], [0, 2]), ([], []), ([], []), ([5], [5]), ([4, 6, 3], [4, 6]), ([3, 7], [3, 7]), ([8, 7, 0, 1, 2, 3, 4, 5, 6, 7, 8], [8])])
def F82RB1 : List Nat := [0, 0, 2, 7, 0, 0, 32, 127, 255, 511]
theorem F82Rtab1 : rtab .any (opsOf Try.f82 1) = F82RT1 := by kernel_rfl
theorem F82Rbits1 : waitsOk F82RT1.2 F82RB1 = true := by kernel_rfl
set_option maxHeartbeats 1000000 in
set_option maxRecDepth 100000 in
theorem same1_calls (x y wd : Int) (g : Nat) (r c : Int) (v : Value) (w : World) (hI : IsB w g (row4 r c wd v) 25) (hw : wd = 32 ∨ wd = 64) :
    Calls Try.prog 82 #[.int .i64 x, .int .i64 y, .pointer (some ⟨g, 0, none⟩)] w fun e w' => e = .returned (.bool (eqC wd x y)) ∧ Below w.heap.size w w' := by
  unfold eqC
  have HX := Aside0.mk (clean_at 0 x hw)
  have HY := Aside0.mk (clean_at 0 y hw)
  have HI := Aside0.mk hI
  have HB := Aside0.mk (Below.refl w.heap.size w)
  clear hw hI
  generalize cleanV wd x = X at HX ⊢
  generalize cleanV wd y = Y at HY ⊢
  have m2 := blk_cell HI.out 2
  simp only [List.getElem?_toArray, List.getElem?_cons_zero, List.getElem?_cons_succ] at m2
  go_enter Try.func82, Try.ntmps82
  go_wp2
  refine start_ (n := 10) (S := fun w' => w'.cell? ⟨g, 2, none⟩ = some (.int .i64 wd)) (ds := []) #[false, false, false, false, false, false, false, false, false, false] (by kernel_rfl) rfl rfl (m2) (fun hHeld => ?_)
  refine with_tabW F82Rtab1 F82Rbits1 (fun HT_ HW_ => ?_)
  refine pure_ (i := 0) (N := some 6) (v := ?_) (a' := ?_) #[true, false, false, false, false, false, false, false, false, false] rfl rfl (any_of HT_.out (by kernel_rfl)) (fun _ _ _ h => h) (Or.inl ⟨by rfl, ?_⟩) ?_ ?_
  rotate_left
  · intro w'
    go_simp
    with_reducible rfl
  rotate_left
  · simp only [Act.put, List.setIfInBounds_toArray, List.set_cons_zero, List.set_cons_succ, i64_w, i32_w]
    rfl
  refine pure_ (i := 1) (N := some 7) (v := ?_) (a' := ?_) #[true, true, false, false, false, false, false, false, false, false] rfl rfl (any_of HT_.out (by kernel_rfl)) (fun _ _ _ h => h) (Or.inl ⟨by rfl, ?_⟩) ?_ ?_
  rotate_left
  · intro w'
    go_simp
    with_reducible rfl
  rotate_left
  · simp only [Act.put, List.setIfInBounds_toArray, List.set_cons_zero, List.set_cons_succ, i64_w, i32_w]
    rfl
  refine pure_ (i := 4) (N := some 10) (v := ?_) (a' := ?_) #[true, true, false, false, true, false, false, false, false, false] rfl rfl (any_of HT_.out (by kernel_rfl)) (fun _ _ _ h => h) (Or.inl ⟨by rfl, ?_⟩) ?_ ?_
  rotate_left
  · intro w'
    go_simp
    with_reducible rfl
  rotate_left
  · simp only [Act.put, List.setIfInBounds_toArray, List.set_cons_zero, List.set_cons_succ, i64_w, i32_w]
    rfl
  refine pure_ (i := 5) (N := some 11) (v := ?_) (a' := ?_) #[true, true, false, false, true, true, false, false, false, false] rfl rfl (any_of HT_.out (by kernel_rfl)) (fun _ _ _ h => h) (Or.inl ⟨by rfl, ?_⟩) ?_ ?_
  rotate_left
  · intro w'
    go_simp
    with_reducible rfl
  rotate_left
  · simp only [Act.put, List.setIfInBounds_toArray, List.set_cons_zero, List.set_cons_succ, i64_w, i32_w]
    rfl
  refine take_ (i := 2) (N := some 8) (v := ?_) (a' := ?_) #[true, true, true, false, true, true, false, false, false, false] rfl rfl (take_ofW HT_.out HW_.out (by kernel_rfl)) (fun _ _ _ h => h) (Or.inl ⟨by rfl, ?_⟩) hHeld ?_ ?_
  rotate_left
  · intro w' s0
    go_simp
    with_reducible rfl
  rotate_left
  · simp only [Act.put, List.setIfInBounds_toArray, List.set_cons_zero, List.set_cons_succ, i64_w, i32_w]
    rfl
  refine take_ (i := 6) (N := some 12) (v := ?_) (a' := ?_) #[true, true, true, false, true, true, true, false, false, false] rfl rfl (take_ofW HT_.out HW_.out (by kernel_rfl)) (fun _ _ _ h => h) (Or.inl ⟨by rfl, ?_⟩) hHeld ?_ ?_
  rotate_left
  · intro w' s0
    go_simp
    with_reducible rfl
  rotate_left
  · simp only [Act.put, List.setIfInBounds_toArray, List.set_cons_zero, List.set_cons_succ, i64_w, i32_w]
    rfl
  refine one_ (i := 3) (N := some 9) #[true, true, true, true, true, true, true, false, false, false] rfl rfl (one_of HT_.out (by kernel_rfl)) (by decide) (fun K hK => ?_)
  refine goes_ Try.func66 (by kernel_rfl) rfl #[.int .i64 x, .int .i64 wd] (by rfl) rfl rfl (by simp only [List.map_toArray, List.map_cons, List.map_nil]; rfl) ?_
  with_reducible refine (tensor_Clean.calls 1 x wd X _ HX.out).mono ?_
  rintro e w5 ⟨rfl, hb⟩
  refine ⟨_, rfl, ?_⟩
  have H5 := Aside0.mk (blk_below (blk_drew HI.out) hb)
  have HB5 := Aside0.mk (below_step (Below.drew HB.out) hb)
  have p2 := blk_cell H5.out 2
  simp only [List.getElem?_toArray, List.getElem?_cons_zero, List.getElem?_cons_succ] at p2
  refine hK.out _ _ (p2) (fun hHeld => ?_)
  clear hK K
  refine norm_ (a' := ?_) ?_ ?_
  rotate_left
  · show Act.put _ (some 9) _ = _
    simp only [Act.put, List.setIfInBounds_toArray, List.set_cons_zero, List.set_cons_succ, i64_w, i32_w]
    rfl
  refine one_ (i := 7) (N := some 13) #[true, true, true, true, true, true, true, true, false, false] rfl rfl (one_of HT_.out (by kernel_rfl)) (by decide) (fun K hK => ?_)
  refine goes_ Try.func66 (by kernel_rfl) rfl #[.int .i64 y, .int .i64 wd] (by rfl) rfl rfl (by simp only [List.map_toArray, List.map_cons, List.map_nil]; rfl) ?_
  with_reducible refine (tensor_Clean.calls 1 y wd Y _ HY.out).mono ?_
  rintro e w6 ⟨rfl, hb6⟩
  refine ⟨_, rfl, ?_⟩
  have H6 := Aside0.mk (blk_below H5.out hb6)
  have HB4 := Aside0.mk (below_step HB5.out hb6)
  have p2 := blk_cell H6.out 2
  simp only [List.getElem?_toArray, List.getElem?_cons_zero, List.getElem?_cons_succ] at p2
  refine hK.out _ _ (p2) (fun hHeld => ?_)
  clear hK K
  refine norm_ (a' := ?_) ?_ ?_
  rotate_left
  · show Act.put _ (some 13) _ = _
    simp only [Act.put, List.setIfInBounds_toArray, List.set_cons_zero, List.set_cons_succ, i64_w, i32_w]
    rfl
  refine pure_ (i := 8) (N := some 14) (v := ?_) (a' := ?_) #[true, true, true, true, true, true, true, true, true, false] rfl rfl (any_of HT_.out (by kernel_rfl)) (fun _ _ _ h => h) (Or.inl ⟨by rfl, ?_⟩) ?_ ?_
  rotate_left
  · intro w'
    go_simp
    with_reducible rfl
  rotate_left
  · simp only [Act.put, List.setIfInBounds_toArray, List.set_cons_zero, List.set_cons_succ, i64_w, i32_w]
    rfl
  refine pure_ (i := 9) (N := some 5) (v := ?_) (a' := ?_) #[true, true, true, true, true, true, true, true, true, true] rfl rfl (any_of HT_.out (by kernel_rfl)) (fun _ _ _ h => h) (Or.inl ⟨by rfl, ?_⟩) ?_ ?_
  rotate_left
  · intro w'
    go_simp
    with_reducible rfl
  rotate_left
  · simp only [Act.put, List.setIfInBounds_toArray, List.set_cons_zero, List.set_cons_succ, i64_w, i32_w]
    rfl
  refine done_ (done_of HT_.out (by kernel_rfl)) ?_
  go_wp2
  go_ret
  exact ⟨rfl, HB4.out⟩

set_option maxHeartbeats 1000000 in
set_option maxRecDepth 100000 in
theorem equal_calls (f : FuncId) (cap : Array Value) (pr : Int → Int → Bool) (A : Option Addr) (cA : Nat) (l : List Int) (A' : Option Addr) (cA' : Nat) (l' : List Int) (w : World) (hC : (Kd.int .i64).C w A l.length l) (hC' : (Kd.int .i64).C w A' l'.length l') (hll : l.length = l'.length) (hl : l.length ≤ 1000000)
    (hall : ∀ i, i < l.length → pr (l.getD i 0) (l'.getD i 0) = true)
    (hf : ∀ W', Below w.heap.size w W' → (∀ args, Sem.run Try.prog (callFunc f args) W' = .ok (.enter f args) W') ∧ ∀ x y : Int, Calls Try.prog f (#[.int .i64 x, .int .i64 y] ++ cap) W' fun e w' => e = .returned (.bool (pr x y)) ∧ Below W'.heap.size W' w') :
    Calls Try.prog 81 #[.slice A l.length cA, .slice A' l'.length cA', .func (.func f) #[] cap] w fun e w' => e = .returned (.bool true) ∧ Below w.heap.size w w' := by
  have HH := Aside0.mk (And.intro hC (And.intro hC' (And.intro hll (And.intro hl (And.intro hall hf)))))
  have hne : ((l.length : Int) != (l'.length : Int)) = false := by rw [hll]; simp
  have hne2 : ((l.length) != (l'.length)) = false := by rw [hll]; simp
  clear hC hC' hll hl hall hf
  have HB := Aside0.mk (Below.refl w.heap.size w)
  go_enter Try.func81, Try.ntmps81
  go_wp2
  clear hne hne2
  go_loopg [17] l.length (fun kq v17 w' => ∃ i : Nat, v17 = .int .i64 i ∧ Aside0 (i + kq = l.length) ∧ Aside0 (Below w.heap.size w w'))
  case atStart => exact ⟨0, rfl, ⟨by omega⟩, HB⟩
  case round =>
    clear HB
    obtain ⟨i, rfl, HI, HB⟩ := hrel
    by_cases hlt : i < l.length
    · have d1 : decide (i < l.length) = true := decide_eq_true hlt
      have hlt' : i < l'.length := by have := HH.out.2.2.1; omega
      obtain ⟨ad, hA, g0⟩ := int_at HH.out.1 i hlt
      obtain ⟨ad', hA', g1⟩ := int_at HH.out.2.1 i hlt'
      have HP := Aside0.mk (HH.out.2.2.2.2.1 i hlt)
      have HLT := Aside0.mk hlt
      have hi1 := eq_true hlt'
      have g0' := (HB.out.cell (World.block_lt_of_cell? w _ g0)).trans g0
      have g1' := (HB.out.cell (World.block_lt_of_cell? w _ g1)).trans g1
      clear g0 g1 hlt'
      generalize l.getD i 0 = x at g0' HP
      generalize l'.getD i 0 = y at g1' HP
      subst hA hA'
      go_wp2_with fail
      obtain ⟨hent, hcall⟩ := HH.out.2.2.2.2.2 wr HB.out
      rw [hent, Oper.upon_enter]
      refine (hcall x y).mono ?_
      clear hent hcall g0' g1'
      rintro e w4 ⟨rfl, hb⟩
      have HB4 := Aside0.mk (below_step HB.out hb)
      clear hb
      rw [HP.out]
      go_wp2
      go_roundg (gk - 1)
      case measure => have := HI.out; have := HLT.out; omega
      case rel => exact ⟨i + 1, next_i6 (by have := HH.out.2.2.2.1; have := HLT.out; omega), ⟨by have := HI.out; have := HLT.out; omega⟩, HB4⟩
    · have d1 : decide (i < l.length) = false := decide_eq_false hlt
      go_wp2
      go_ret
      exact ⟨rfl, HB.out⟩

def F48RT1 : Bool × List (List Nat × List Nat) := (true, [([], []), ([0], [0]), ([1], [1]), ([2, 1], [2]), ([3], [3]), ([4, 3, 3], [3, 4]), ([5, 3], [3, 5]), ([3, 6], [3, 6]), ([7, 5], [7]), ([8], [8]), ([9, 8, 8], [8, 9]), ([8], [8]), ([11, 10, 8], [8, 11]), ([10, 12, 8], [8, 10, 12]), ([8, 13], [8, 13])])
def F48RB1 : List Nat := [0, 1, 3, 7, 15, 31, 63, 127, 255, 511, 1023, 511, 4095, 8191, 16383]
theorem F48Rtab1 : rtab .any (opsOf Try.f48 1) = F48RT1 := by kernel_rfl
theorem F48Rbits1 : waitsOk F48RT1.2 F48RB1 = true := by kernel_rfl
set_option maxHeartbeats 2000000 in
set_option maxRecDepth 100000 in
theorem Same_true (r c wd : Int) (A : Option Addr) (cA : Nat) (l : List Int) (A' : Option Addr) (cA' : Nat) (l' : List Int) (w : World) (hC : (Kd.int .i64).C w A l.length l) (hcA : l.length ≤ cA) (hC' : (Kd.int .i64).C w A' l'.length l') (hcA' : l'.length ≤ cA')
    (hk : checkV r c wd l = 0) (hk' : checkV r c wd l' = 0) (hs : l.map (cleanV wd) = l'.map (cleanV wd)) :
    Calls Try.prog 48 #[.agg #[.int .i64 r, .int .i64 c, .int .i64 wd, .slice A l.length cA], .agg #[.int .i64 r, .int .i64 c, .int .i64 wd, .slice A' l'.length cA']] w fun e w' => e = .returned (.bool true) ∧ Below w.heap.size w w' := by
  obtain ⟨hw, _, _, _, _, h5, h6, _⟩ := check_form hk
  have hll : l.length = l'.length := by have := congrArg List.length hs; simpa using this
  have hall : ∀ i, i < l.length → eqC wd (l.getD i 0) (l'.getD i 0) = true := by
    intro i hi
    have h1 := congrArg (fun z => z[i]?) hs
    simp only [List.getElem?_map, List.getElem?_eq_getElem hi, List.getElem?_eq_getElem (hll ▸ hi), Option.map_some, Option.some.injEq] at h1
    unfold eqC
    rw [List.getD_eq_getElem?_getD, List.getD_eq_getElem?_getD, List.getElem?_eq_getElem hi, List.getElem?_eq_getElem (hll ▸ hi)]
    simpa using h1
  have hl6 : l.length ≤ 1000000 := by omega
  have HL := Aside0.mk (And.intro hw (And.intro hll (And.intro hall hl6)))
  have HH := Aside0.mk (And.intro hC (And.intro hcA (And.intro hk (And.intro hC' (And.intro hcA' hk')))))
  clear hC hcA hC' hcA' hk hk' hs hw h5 h6 hll hall hl6
  go_enter Try.func48, Try.ntmps48
  go_wp2
  generalize hw1 : ((w.alloc (Obj.cells #[Value.int IntKind.i64 r, Value.int IntKind.i64 c, Value.int IntKind.i64 wd, Value.slice A l.length cA] 25)).alloc (Obj.cells #[Value.int IntKind.i64 r, Value.int IntKind.i64 c, Value.int IntKind.i64 wd, Value.slice A' l'.length cA'] 25)) = w1
  have HB : Aside0 (Below w.heap.size w w1) := ⟨by rw [← hw1]; exact below_alloc (below_alloc (Below.refl _ _) _) _⟩
  have H0 : Aside0 (IsB w1 w.heap.size (row4 r c wd (.slice A l.length cA)) 25) := ⟨by rw [← hw1]; exact blk_alloc (blk_new _ _) _⟩
  have H1 : Aside0 (IsB w1 (w.heap.size + 1) (row4 r c wd (.slice A' l'.length cA')) 25) := ⟨by rw [← hw1]; exact new1 w _ _ 25 25⟩
  clear hw1
  have a0 := blk_cell H0.out 0
  have a1 := blk_cell H0.out 1
  have a2 := blk_cell H0.out 2
  have a3 := blk_cell H0.out 3
  have b0 := blk_cell H1.out 0
  have b1 := blk_cell H1.out 1
  have b2 := blk_cell H1.out 2
  have b3 := blk_cell H1.out 3
  simp only [List.getElem?_toArray, List.getElem?_cons_zero, List.getElem?_cons_succ] at a0 a1 a2 a3 b0 b1 b2 b3
  refine start_ (n := 15) (S := fun w' => w'.cell? ⟨w.heap.size, 0, none⟩ = some (.int .i64 r) ∧ w'.cell? ⟨w.heap.size, 1, none⟩ = some (.int .i64 c) ∧ w'.cell? ⟨w.heap.size, 2, none⟩ = some (.int .i64 wd) ∧ w'.cell? ⟨w.heap.size, 3, none⟩ = some (.slice A l.length cA) ∧ w'.cell? ⟨w.heap.size + 1, 0, none⟩ = some (.int .i64 r) ∧ w'.cell? ⟨w.heap.size + 1, 1, none⟩ = some (.int .i64 c) ∧ w'.cell? ⟨w.heap.size + 1, 2, none⟩ = some (.int .i64 wd) ∧ w'.cell? ⟨w.heap.size + 1, 3, none⟩ = some (.slice A' l'.length cA')) (ds := []) #[false, false, false, false, false, false, false, false, false, false, false, false, false, false, false] (by kernel_rfl) rfl rfl ⟨a0, a1, a2, a3, b0, b1, b2, b3⟩ (fun hHeld => ?_)
  refine with_tabW F48Rtab1 F48Rbits1 (fun HT_ HW_ => ?_)
  refine take_ (i := 0) (N := some 5) (v := ?_) (a' := ?_) #[true, false, false, false, false, false, false, false, false, false, false, false, false, false, false] rfl rfl (take_ofW HT_.out HW_.out (by kernel_rfl)) (fun _ _ _ h => h) (Or.inl ⟨by rfl, ?_⟩) hHeld ?_ ?_
  rotate_left
  · rintro w' ⟨s0, s1, s2, s3, s4, s5, s6, s7⟩
    go_simp
    with_reducible rfl
  rotate_left
  · simp only [Act.put, List.setIfInBounds_toArray, List.set_cons_zero, List.set_cons_succ, i64_w, i32_w]
    rfl
  refine one_ (i := 1) (N := some 6) #[true, true, false, false, false, false, false, false, false, false, false, false, false, false, false] rfl rfl (one_of HT_.out (by kernel_rfl)) (by decide) (fun K hK => ?_)
  refine goes_ Try.func27 (by kernel_rfl) rfl #[.agg #[.int .i64 r, .int .i64 c, .int .i64 wd, .slice A l.length cA]] (by rfl) rfl rfl (by simp only [List.map_toArray, List.map_cons, List.map_nil]; rfl) ?_
  with_reducible refine (tensor_Check.calls (l.length + 3) r c wd A cA l 0 _ (Kd.C_below HH.out.1 (Below.drew HB.out)) HH.out.2.1 (by rw [check_eq _ _ _ _ _ (by have := HL.out.2.2.2; omega) (by omega), HH.out.2.2.1])).mono ?_
  rintro e w2 ⟨rfl, hb⟩
  refine ⟨_, rfl, ?_⟩
  have HB2 := Aside0.mk (below_step (Below.drew HB.out) hb)
  have H02 := Aside0.mk (blk_below (blk_drew H0.out) hb)
  have H12 := Aside0.mk (blk_below (blk_drew H1.out) hb)
  clear hb
  refine hK.out _ _ ⟨(blk_cell H02.out 0).trans rfl, (blk_cell H02.out 1).trans rfl, (blk_cell H02.out 2).trans rfl, (blk_cell H02.out 3).trans rfl, (blk_cell H12.out 0).trans rfl, (blk_cell H12.out 1).trans rfl, (blk_cell H12.out 2).trans rfl, (blk_cell H12.out 3).trans rfl⟩ (fun hHeld => ?_)
  clear hK K
  refine norm_ (a' := ?_) ?_ ?_
  rotate_left
  · show Act.put _ (some 6) _ = _
    simp only [Act.put, List.setIfInBounds_toArray, List.set_cons_zero, List.set_cons_succ, i64_w, i32_w]
    rfl
  refine pure_ (i := 2) (N := some 7) (v := ?_) (a' := ?_) #[true, true, true, false, false, false, false, false, false, false, false, false, false, false, false] rfl rfl (any_of HT_.out (by kernel_rfl)) (fun _ _ _ h => h) (Or.inl ⟨by rfl, ?_⟩) ?_ ?_
  rotate_left
  · intro w'
    go_simp
    with_reducible rfl
  rotate_left
  · simp only [Act.put, List.setIfInBounds_toArray, List.set_cons_zero, List.set_cons_succ, i64_w, i32_w]
    rfl
  refine pure_ (i := 3) (N := some 8) (v := ?_) (a' := ?_) #[true, true, true, true, false, false, false, false, false, false, false, false, false, false, false] rfl rfl (any_of HT_.out (by kernel_rfl)) (fun _ _ _ h => h) (Or.inl ⟨by rfl, ?_⟩) ?_ ?_
  rotate_left
  · intro w'
    go_simp
    with_reducible rfl
  rotate_left
  · simp only [Act.put, List.setIfInBounds_toArray, List.set_cons_zero, List.set_cons_succ, i64_w, i32_w]
    rfl
  refine take_ (i := 4) (N := some 9) (v := ?_) (a' := ?_) #[true, true, true, true, true, false, false, false, false, false, false, false, false, false, false] rfl rfl (take_ofW HT_.out HW_.out (by kernel_rfl)) (fun _ _ _ h => h) (Or.inl ⟨by rfl, ?_⟩) hHeld ?_ ?_
  rotate_left
  · rintro w' ⟨s0, s1, s2, s3, s4, s5, s6, s7⟩
    go_simp
    with_reducible rfl
  rotate_left
  · simp only [Act.put, List.setIfInBounds_toArray, List.set_cons_zero, List.set_cons_succ, i64_w, i32_w]
    rfl
  refine one_ (i := 5) (N := some 10) #[true, true, true, true, true, true, false, false, false, false, false, false, false, false, false] rfl rfl (one_of HT_.out (by kernel_rfl)) (by decide) (fun K hK => ?_)
  refine goes_ Try.func27 (by kernel_rfl) rfl #[.agg #[.int .i64 r, .int .i64 c, .int .i64 wd, .slice A' l'.length cA']] (by rfl) rfl rfl (by simp only [List.map_toArray, List.map_cons, List.map_nil]; rfl) ?_
  with_reducible refine (tensor_Check.calls (l'.length + 3) r c wd A' cA' l' 0 _ (Kd.C_below HH.out.2.2.2.1 HB2.out) HH.out.2.2.2.2.1 (by rw [check_eq _ _ _ _ _ (by have := HL.out.2.2.2; have := HL.out.2.1; omega) (by omega), HH.out.2.2.2.2.2])).mono ?_
  rintro e w3 ⟨rfl, hb⟩
  refine ⟨_, rfl, ?_⟩
  have HB3 := Aside0.mk (below_step HB2.out hb)
  have H03 := Aside0.mk (blk_below H02.out hb)
  have H13 := Aside0.mk (blk_below H12.out hb)
  clear hb
  refine hK.out _ _ ⟨(blk_cell H03.out 0).trans rfl, (blk_cell H03.out 1).trans rfl, (blk_cell H03.out 2).trans rfl, (blk_cell H03.out 3).trans rfl, (blk_cell H13.out 0).trans rfl, (blk_cell H13.out 1).trans rfl, (blk_cell H13.out 2).trans rfl, (blk_cell H13.out 3).trans rfl⟩ (fun hHeld => ?_)
  clear hK K
  refine norm_ (a' := ?_) ?_ ?_
  rotate_left
  · show Act.put _ (some 10) _ = _
    simp only [Act.put, List.setIfInBounds_toArray, List.set_cons_zero, List.set_cons_succ, i64_w, i32_w]
    rfl
  refine pure_ (i := 6) (N := some 11) (v := ?_) (a' := ?_) #[true, true, true, true, true, true, true, false, false, false, false, false, false, false, false] rfl rfl (any_of HT_.out (by kernel_rfl)) (fun _ _ _ h => h) (Or.inl ⟨by rfl, ?_⟩) ?_ ?_
  rotate_left
  · intro w'
    go_simp
    with_reducible rfl
  rotate_left
  · simp only [Act.put, List.setIfInBounds_toArray, List.set_cons_zero, List.set_cons_succ, i64_w, i32_w]
    rfl
  refine pure_ (i := 7) (N := some 12) (v := ?_) (a' := ?_) #[true, true, true, true, true, true, true, true, false, false, false, false, false, false, false] rfl rfl (any_of HT_.out (by kernel_rfl)) (fun _ _ _ h => h) (Or.inl ⟨by rfl, ?_⟩) ?_ ?_
  rotate_left
  · intro w'
    go_simp
    with_reducible rfl
  rotate_left
  · simp only [Act.put, List.setIfInBounds_toArray, List.set_cons_zero, List.set_cons_succ, i64_w, i32_w]
    rfl
  refine pure_ (i := 8) (N := some 13) (v := ?_) (a' := ?_) #[true, true, true, true, true, true, true, true, true, false, false, false, false, false, false] rfl rfl (any_of HT_.out (by kernel_rfl)) (fun _ _ _ h => h) (Or.inl ⟨by rfl, ?_⟩) ?_ ?_
  rotate_left
  · intro w'
    go_simp
    with_reducible rfl
  rotate_left
  · simp only [Act.put, List.setIfInBounds_toArray, List.set_cons_zero, List.set_cons_succ, i64_w, i32_w]
    rfl
  refine take_ (i := 9) (N := some 14) (v := ?_) (a' := ?_) #[true, true, true, true, true, true, true, true, true, true, false, false, false, false, false] rfl rfl (take_ofW HT_.out HW_.out (by kernel_rfl)) (fun _ _ _ h => h) (Or.inl ⟨by rfl, ?_⟩) hHeld ?_ ?_
  rotate_left
  · rintro w' ⟨s0, s1, s2, s3, s4, s5, s6, s7⟩
    go_simp
    with_reducible rfl
  rotate_left
  · simp only [Act.put, List.setIfInBounds_toArray, List.set_cons_zero, List.set_cons_succ, i64_w, i32_w]
    rfl
  refine take_ (i := 11) (N := some 16) (v := ?_) (a' := ?_) #[true, true, true, true, true, true, true, true, true, true, false, true, false, false, false] rfl rfl (take_ofW HT_.out HW_.out (by kernel_rfl)) (fun _ _ _ h => h) (Or.inl ⟨by rfl, ?_⟩) hHeld ?_ ?_
  rotate_left
  · rintro w' ⟨s0, s1, s2, s3, s4, s5, s6, s7⟩
    go_simp
    with_reducible rfl
  rotate_left
  · simp only [Act.put, List.setIfInBounds_toArray, List.set_cons_zero, List.set_cons_succ, i64_w, i32_w]
    rfl
  refine one_ (i := 10) (N := some 15) #[true, true, true, true, true, true, true, true, true, true, true, true, false, false, false] rfl rfl (one_of HT_.out (by kernel_rfl)) (by decide) (fun K hK => ?_)
  refine goes_ Try.func60 (by kernel_rfl) rfl #[.agg #[.int .i64 r, .int .i64 c, .int .i64 wd, .slice A l.length cA]] (by rfl) rfl rfl (by simp only [List.map_toArray, List.map_cons, List.map_nil]; rfl) ?_
  with_reducible refine (tensor_Shape.calls r c wd A cA l r c wd _ (Kd.C_below HH.out.1 HB3.out) HH.out.2.1 (by unfold tensor_Shape.f; rfl)).mono ?_
  rintro e w4 ⟨rfl, hb⟩
  refine ⟨_, rfl, ?_⟩
  have HB4 := Aside0.mk (below_step HB3.out hb)
  have H04 := Aside0.mk (blk_below H03.out hb)
  have H14 := Aside0.mk (blk_below H13.out hb)
  clear hb
  refine hK.out _ _ ⟨(blk_cell H04.out 0).trans rfl, (blk_cell H04.out 1).trans rfl, (blk_cell H04.out 2).trans rfl, (blk_cell H04.out 3).trans rfl, (blk_cell H14.out 0).trans rfl, (blk_cell H14.out 1).trans rfl, (blk_cell H14.out 2).trans rfl, (blk_cell H14.out 3).trans rfl⟩ (fun hHeld => ?_)
  clear hK K
  refine norm_ (a' := ?_) ?_ ?_
  rotate_left
  · show Act.put _ (some 15) _ = _
    simp only [Act.put, List.setIfInBounds_toArray, List.set_cons_zero, List.set_cons_succ, i64_w, i32_w]
    rfl
  refine one_ (i := 12) (N := some 17) #[true, true, true, true, true, true, true, true, true, true, true, true, true, false, false] rfl rfl (one_of HT_.out (by kernel_rfl)) (by decide) (fun K hK => ?_)
  refine goes_ Try.func60 (by kernel_rfl) rfl #[.agg #[.int .i64 r, .int .i64 c, .int .i64 wd, .slice A' l'.length cA']] (by rfl) rfl rfl (by simp only [List.map_toArray, List.map_cons, List.map_nil]; rfl) ?_
  with_reducible refine (tensor_Shape.calls r c wd A' cA' l' r c wd _ (Kd.C_below HH.out.2.2.2.1 HB4.out) HH.out.2.2.2.2.1 (by unfold tensor_Shape.f; rfl)).mono ?_
  rintro e w6 ⟨rfl, hb⟩
  refine ⟨_, rfl, ?_⟩
  have HB6 := Aside0.mk (below_step HB4.out hb)
  have H06 := Aside0.mk (blk_below H04.out hb)
  have H16 := Aside0.mk (blk_below H14.out hb)
  clear hb
  refine hK.out _ _ ⟨(blk_cell H06.out 0).trans rfl, (blk_cell H06.out 1).trans rfl, (blk_cell H06.out 2).trans rfl, (blk_cell H06.out 3).trans rfl, (blk_cell H16.out 0).trans rfl, (blk_cell H16.out 1).trans rfl, (blk_cell H16.out 2).trans rfl, (blk_cell H16.out 3).trans rfl⟩ (fun hHeld => ?_)
  clear hK K
  refine norm_ (a' := ?_) ?_ ?_
  rotate_left
  · show Act.put _ (some 17) _ = _
    simp only [Act.put, List.setIfInBounds_toArray, List.set_cons_zero, List.set_cons_succ, i64_w, i32_w]
    rfl
  refine pure_ (i := 13) (N := some 18) (v := ?_) (a' := ?_) #[true, true, true, true, true, true, true, true, true, true, true, true, true, true, false] rfl rfl (any_of HT_.out (by kernel_rfl)) (fun _ _ _ h => h) (Or.inl ⟨by rfl, ?_⟩) ?_ ?_
  rotate_left
  · intro w'
    go_simp
    with_reducible rfl
  rotate_left
  · simp only [Act.put, List.setIfInBounds_toArray, List.set_cons_zero, List.set_cons_succ, i64_w, i32_w]
    rfl
  refine pure_ (i := 14) (N := some 19) (v := ?_) (a' := ?_) #[true, true, true, true, true, true, true, true, true, true, true, true, true, true, true] rfl rfl (any_of HT_.out (by kernel_rfl)) (fun _ _ _ h => h) (Or.inl ⟨by rfl, ?_⟩) ?_ ?_
  rotate_left
  · intro w'
    go_simp
    with_reducible rfl
  rotate_left
  · simp only [Act.put, List.setIfInBounds_toArray, List.set_cons_zero, List.set_cons_succ, i64_w, i32_w]
    rfl
  refine done_ (done_of HT_.out (by kernel_rfl)) ?_
  clear a0 a1 a2 a3 b0 b1 b2 b3
  have a3 := blk_cell H06.out 3
  have b3 := blk_cell H16.out 3
  simp only [List.getElem?_toArray, List.getElem?_cons_zero, List.getElem?_cons_succ] at a3 b3
  have hmf : ∀ (fn : Fn) (first cap : Array Value) (w : World), (Instr.makeFunc fn first cap).run Try.prog w = .ok (.func fn first cap) w := fun _ _ _ _ => rfl
  go_wp2_with fail
  refine (equal_calls 82 #[.pointer (some ⟨w.heap.size, 0, none⟩)] (eqC wd) A cA l A' cA' l' w6 (Kd.C_below HH.out.1 HB6.out) (Kd.C_below HH.out.2.2.2.1 HB6.out) HL.out.2.1 HL.out.2.2.2 HL.out.2.2.1 (fun W' hW' => ⟨fun args => enters_ Try.func82 (by kernel_rfl) (by kernel_rfl) args W', fun x y => same1_calls x y wd w.heap.size r c _ W' (blk_below H06.out hW') HL.out.1⟩)).mono ?_
  rintro e w7 ⟨rfl, hb⟩
  have HB7 := Aside0.mk (below_step HB6.out hb)
  go_wp2
  go_ret
  exact ⟨rfl, HB7.out⟩
end Go.Proofs.Ytklomikdihlcgaa
