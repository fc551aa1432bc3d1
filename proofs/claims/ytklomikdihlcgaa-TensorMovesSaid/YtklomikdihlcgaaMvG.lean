/- TensorMoves: the good case. -/
import Derived.Test.YtklomikdihlcgaaMvW
namespace Go.Proofs.Ytklomikdihlcgaa
open Go.RowKit PBase
open Go.Proofs.YtklomikdihlcgaaW.PrintWords Go.Proofs.YtklomikdihlcgaaW.PrintLast Go.Proofs.YtklomikdihlcgaaW.PrintMore
set_option linter.unusedVariables false
set_option linter.unusedSimpArgs false

/-- a row of places behind a mark -/
def PRow (W : World) (N : Nat) (v : Value) (pl : List (Int × Int)) : Prop := Kd.R two 99 W N (fun k => N ≤ k) v pl
theorem prow_of {w w' : World} {v : Value} {pl : List (Int × Int)} (h : Places w w' v pl) : PRow w' w.heap.size v pl := Kd.R_mono (Kd.R_bound h) (fun _ hk => hk.2.1)
theorem prow_step {W W1 : World} {N : Nat} {v : Value} {pl : List (Int × Int)} (h : PRow W N v pl) (hm : ∀ k, N ≤ k → k < W.heap.size → W1.heap[k]? = W.heap[k]?) : PRow W1 N v pl := Kd.R_step h (fun k hk hlt => hm k hk hlt)
theorem prow_below {W W1 : World} {N : Nat} {v : Value} {pl : List (Int × Int)} (h : PRow W N v pl) (hb : Below W.heap.size W W1) : PRow W1 N v pl := prow_step h (fun k _ hlt => hb.block k hlt)
theorem prow_reads {W : World} {N : Nat} {B : Option Addr} {n c : Nat} {pl : List (Int × Int)} (h : PRow W N (.slice B n c) pl) : pl.length ≤ c ∧ two.C W B pl.length pl := by
  obtain ⟨A8, c8, hv, hle, hC⟩ := Kd.R_reads h
  injection hv with h1_ h2_ h3_
  subst h1_ h3_
  exact ⟨hle, hC⟩
section
variable {W : World} {gA gE o0 o1 o2 o3 j : Nat} {x y z e : Int} {v' : Value}
theorem put5_prow {v : Value} {N : Nat} {pl : List (Int × Int)} (h : PRow W N v pl) (h1 : gA < N) (h2 : gE < N) : PRow (put5 W gA gE o0 o1 o2 o3 j x y z v' e) N v pl :=
  prow_step h (fun k hk _ => put5_heap k (by omega) (by omega))
theorem put5_far {g t : Nat} {cs : Array Value} (h : IsB W g cs t) (h1 : g ≠ gA) (h2 : g ≠ gE) : IsB (put5 W gA gE o0 o1 o2 o3 j x y z v' e) g cs t := (put5_heap g h1 h2).trans h
end
theorem mv_call (r c wd : Int) (A : Option Addr) (cA : Nat) (l : List Int) (e p q s : Int) (pl : List (Int × Int)) (L : List Int) (B : Option Addr) (y : Nat) (W : World) (hC : (Kd.int .i64).C W A l.length l) (hcA : l.length ≤ cA) (hl : l.length ≤ 1000000) (hr : InR l) (hk : checkV r c wd l = 0) (hF : MoveFacts [(r, c, wd, l)] wd e p q s pl) (hL : L = pl.map fun x => cleanV wd (elemAt [(r, c, wd, l)] x)) (hB : two.C W B pl.length pl) (hy : pl.length ≤ y) :
    Calls Try.prog 42 #[.agg #[.int .i64 r, .int .i64 c, .int .i64 wd, .slice A l.length cA], .agg #[.int .i64 p, .int .i64 q, .int .i64 s, .slice B pl.length y], .int .i64 e] W (AnsP W e p q s L) := by
  obtain ⟨h1, h2, h3, h4⟩ := hF
  by_cases he : e = 0
  · have hs := h4 he
    subst hs hL
    have := lm_good r c s A cA l p q s e B y pl W hC hcA hl hk he hB hy (by omega) h2 hr (check_form hk).1
    rw [he] at this ⊢
    exact this
  · obtain ⟨rfl, rfl, rfl, rfl⟩ := h3 he
    subst hL
    exact lm_badF r c wd A cA l 0 0 0 e B y [] W hC hcA hl hk he

set_option maxHeartbeats 4000000 in
set_option maxRecDepth 100000 in
theorem mv_good (r c wd : Int) (A : Option Addr) (cA : Nat) (l : List Int) (a b : Int) (e0 p0 q0 s0 : Int) (L0 : List Int) (pl0 : List (Int × Int)) (e1 p1 q1 s1 : Int) (L1 : List Int) (pl1 : List (Int × Int)) (e2 p2 q2 s2 : Int) (L2 : List Int) (pl2 : List (Int × Int)) (e3 p3 q3 s3 : Int) (L3 : List Int) (pl3 : List (Int × Int)) (e4 p4 q4 s4 : Int) (L4 : List Int) (pl4 : List (Int × Int)) (hT0 : ∀ (A : Option Addr) (cA : Nat) (w : World), (Kd.int .i64).C w A l.length l → l.length ≤ cA → Calls Try.prog 32 #[.agg #[.int .i64 r, .int .i64 c, .int .i64 wd, .slice A l.length cA]] w (AnsP w e0 p0 q0 s0 L0)) (hL0 : L0.length ≤ 100000) (hT1 : ∀ (A : Option Addr) (cA : Nat) (w : World), (Kd.int .i64).C w A l.length l → l.length ≤ cA → Calls Try.prog 33 #[.agg #[.int .i64 r, .int .i64 c, .int .i64 wd, .slice A l.length cA], .int .i64 a, .int .i64 b] w (AnsP w e1 p1 q1 s1 L1)) (hL1 : L1.length ≤ 100000) (hT2 : ∀ (A : Option Addr) (cA : Nat) (w : World), (Kd.int .i64).C w A l.length l → l.length ≤ cA → Calls Try.prog 34 #[.agg #[.int .i64 r, .int .i64 c, .int .i64 wd, .slice A l.length cA], .int .i64 a, .int .i64 b] w (AnsP w e2 p2 q2 s2 L2)) (hL2 : L2.length ≤ 100000) (hT3 : ∀ (A : Option Addr) (cA : Nat) (w : World), (Kd.int .i64).C w A l.length l → l.length ≤ cA → Calls Try.prog 35 #[.agg #[.int .i64 r, .int .i64 c, .int .i64 wd, .slice A l.length cA], .int .i64 a, .int .i64 b] w (AnsP w e3 p3 q3 s3 L3)) (hL3 : L3.length ≤ 100000) (hT4 : ∀ (A : Option Addr) (cA : Nat) (w : World), (Kd.int .i64).C w A l.length l → l.length ≤ cA → Calls Try.prog 36 #[.agg #[.int .i64 r, .int .i64 c, .int .i64 wd, .slice A l.length cA], .int .i64 a, .int .i64 b] w (AnsP w e4 p4 q4 s4 L4)) (hL4 : L4.length ≤ 100000) (hU0 : ∀ w : World, Calls Try.prog 38 #[.agg #[.int .i64 r, .int .i64 c, .int .i64 wd]] w (fun e w' => ∃ v, e = .returned (.agg #[.int .i64 p0, .int .i64 q0, .int .i64 s0, v]) ∧ Places w w' v pl0 ∧ Below w.heap.size w w')) (hF0 : MoveFacts [(r, c, wd, l)] wd e0 p0 q0 s0 pl0) (hM0 : L0 = pl0.map fun x => cleanV wd (elemAt [(r, c, wd, l)] x)) (hU1 : ∀ w : World, Calls Try.prog 39 #[.agg #[.int .i64 r, .int .i64 c, .int .i64 wd], .int .i64 a, .int .i64 b] w (MoveP w e1 p1 q1 s1 pl1)) (hF1 : MoveFacts [(r, c, wd, l)] wd e1 p1 q1 s1 pl1) (hM1 : L1 = pl1.map fun x => cleanV wd (elemAt [(r, c, wd, l)] x)) (hU2 : ∀ w : World, Calls Try.prog 40 #[.agg #[.int .i64 r, .int .i64 c, .int .i64 wd], .int .i64 0, .int .i64 r, .int .i64 a, .int .i64 b] w (MoveP w e2 p2 q2 s2 pl2)) (hF2 : MoveFacts [(r, c, wd, l)] wd e2 p2 q2 s2 pl2) (hM2 : L2 = pl2.map fun x => cleanV wd (elemAt [(r, c, wd, l)] x)) (hU3 : ∀ w : World, Calls Try.prog 40 #[.agg #[.int .i64 r, .int .i64 c, .int .i64 wd], .int .i64 a, .int .i64 b, .int .i64 0, .int .i64 c] w (MoveP w e3 p3 q3 s3 pl3)) (hF3 : MoveFacts [(r, c, wd, l)] wd e3 p3 q3 s3 pl3) (hM3 : L3 = pl3.map fun x => cleanV wd (elemAt [(r, c, wd, l)] x)) (hU4 : ∀ w : World, Calls Try.prog 41 #[.agg #[.int .i64 r, .int .i64 c, .int .i64 wd], .int .i64 a, .int .i64 b] w (MoveP w e4 p4 q4 s4 pl4)) (hF4 : MoveFacts [(r, c, wd, l)] wd e4 p4 q4 s4 pl4) (hM4 : L4 = pl4.map fun x => cleanV wd (elemAt [(r, c, wd, l)] x)) (he0 : e0 = 0) (hl : l.length ≤ 5000) (hE : checkV r c wd l = 0) (w : World) (hC : (Kd.int .i64).C w A l.length l) (hcA : l.length ≤ cA) (hr : InR l) :
    Calls Try.prog 7 #[.agg #[.int .i64 r, .int .i64 c, .int .i64 wd, .slice A l.length cA], .int .i64 a, .int .i64 b] w fun e w' => e = .returned (.bool true) ∧ Below w.heap.size w w' := by
  have HE_R := Aside0.mk hE
  have HU0 := Aside0.mk hU0
  have HF0 := Aside0.mk hF0
  have HM0 := Aside0.mk hM0
  have HU1 := Aside0.mk hU1
  have HF1 := Aside0.mk hF1
  have HM1 := Aside0.mk hM1
  have HU2 := Aside0.mk hU2
  have HF2 := Aside0.mk hF2
  have HM2 := Aside0.mk hM2
  have HU3 := Aside0.mk hU3
  have HF3 := Aside0.mk hF3
  have HM3 := Aside0.mk hM3
  have HU4 := Aside0.mk hU4
  have HF4 := Aside0.mk hF4
  have HM4 := Aside0.mk hM4
  have HE0 := Aside0.mk he0
  clear hE he0 hU0 hF0 hM0 hU1 hF1 hM1 hU2 hF2 hM2 hU3 hF3 hM3 hU4 hF4 hM4
  have HL := Aside0.mk hl
  have d1 : decide ((5000 : Int) < (l.length : Int)) = false := decide_eq_false (by omega)
  clear hl
  have HT0 := Aside0.mk hT0
  have HLL0 := Aside0.mk hL0
  have HT1 := Aside0.mk hT1
  have HLL1 := Aside0.mk hL1
  have HT2 := Aside0.mk hT2
  have HLL2 := Aside0.mk hL2
  have HT3 := Aside0.mk hT3
  have HLL3 := Aside0.mk hL3
  have HT4 := Aside0.mk hT4
  have HLL4 := Aside0.mk hL4
  clear hT0 hL0 hT1 hL1 hT2 hL2 hT3 hL3 hT4 hL4
  have HH := Aside0.mk (And.intro hC (And.intro hcA hr))
  clear hC hcA hr
  go_enter Try.func7, Try.ntmps7
  go_wp2_with fail
  generalize hw1 : w.alloc (Obj.cells #[Value.int IntKind.i64 r, Value.int IntKind.i64 c, Value.int IntKind.i64 wd, Value.slice A l.length cA] 25) = w1
  have HB_1 : Aside0 (Below w.heap.size w w1) := ⟨by rw [← hw1]; exact below_alloc (Below.refl _ _) _⟩
  have H0_1 : Aside0 (IsB w1 w.heap.size (row4 r c wd (.slice A l.length cA)) 25) := ⟨by rw [← hw1]; exact blk_new _ _⟩
  clear hw1
  refine (alive_calls w1).mono ?_
  rintro e w2 ⟨rfl, hb⟩
  have H0_2 := Aside0.mk (blk_below H0_1.out hb)
  have HB_2 := Aside0.mk (below_step HB_1.out hb)
  clear hb H0_1 HB_1
  have a0 := blk_cell H0_2.out 0
  have a1 := blk_cell H0_2.out 1
  have a2 := blk_cell H0_2.out 2
  have a3 := blk_cell H0_2.out 3
  simp only [List.getElem?_toArray, List.getElem?_cons_zero, List.getElem?_cons_succ] at a0 a1 a2 a3
  go_wp2_with fail
  refine (lent_calls r c wd A cA l w2 (Kd.C_below HH.out.1 HB_2.out) HH.out.2.1 (by have := HL.out; omega)).mono ?_
  rintro e w3 ⟨A9, c9, rfl, hc9, hR9, hb⟩
  have H0_4 := Aside0.mk (blk_alloc (blk_below H0_2.out hb) (Obj.cells (row4 r c wd (.slice A9 l.length c9)) 25))
  have H1_4 := Aside0.mk (blk_new w3 (Obj.cells (row4 r c wd (.slice A9 l.length c9)) 25))
  have HB_4 := Aside0.mk (below_alloc (below_step HB_2.out hb) (Obj.cells (row4 r c wd (.slice A9 l.length c9)) 25))
  have hCf : (Kd.int .i64).C w3 A9 (l.length + 1) (l ++ [-71]) := by
    obtain ⟨A8, c8, hv, _, hC⟩ := Kd.R_reads hR9
    injection hv with g1_ g2_ g3_
    subst g1_
    have hll : (l ++ [(-71 : Int)]).length = l.length + 1 := by simp
    rw [hll] at hC
    exact hC
  have HCF := Aside0.mk (And.intro hc9 (Kd.C_alloc hCf (Obj.cells (row4 r c wd (.slice A9 l.length c9)) 25)))
  clear hb hR9 hc9 hCf H0_2 HB_2
  clear a0 a1 a2 a3
  obtain ⟨w4, hw4⟩ : ∃ w4, w4 = w3.alloc (Obj.cells (row4 r c wd (.slice A9 l.length c9)) 25) := ⟨_, rfl⟩
  have hsz4 : w4.heap.size = w3.heap.size + 1 := by rw [hw4, World.size_alloc]
  have HW4 := Aside0.mk hw4
  rw [← hw4] at H0_4 H1_4 HB_4 HCF
  have HCM := Aside0.mk (Kd.C_below HH.out.1 HB_4.out)
  obtain ⟨w5, hw5⟩ : ∃ w5, w5 = (w4.alloc (Obj.cells #[Value.int IntKind.i64 0, Value.int IntKind.i64 0, Value.int IntKind.i64 0, Value.slice none 0 0, Value.int IntKind.i64 0, Value.int IntKind.i64 0, Value.int IntKind.i64 0, Value.slice none 0 0, Value.int IntKind.i64 0, Value.int IntKind.i64 0, Value.int IntKind.i64 0, Value.slice none 0 0, Value.int IntKind.i64 0, Value.int IntKind.i64 0, Value.int IntKind.i64 0, Value.slice none 0 0, Value.int IntKind.i64 0, Value.int IntKind.i64 0, Value.int IntKind.i64 0, Value.slice none 0 0] 55)).alloc (Obj.cells #[Value.int IntKind.i64 0, Value.int IntKind.i64 0, Value.int IntKind.i64 0, Value.int IntKind.i64 0, Value.int IntKind.i64 0] 56) := ⟨_, rfl⟩
  have HS_5 : Aside0 (Below w4.heap.size w4 w5) := ⟨by rw [hw5]; exact below_alloc (below_alloc (Below.refl _ _) _) _⟩
  have HA_5 : Aside0 (IsB w5 w4.heap.size #[.int .i64 0, .int .i64 0, .int .i64 0, .slice none 0 0, .int .i64 0, .int .i64 0, .int .i64 0, .slice none 0 0, .int .i64 0, .int .i64 0, .int .i64 0, .slice none 0 0, .int .i64 0, .int .i64 0, .int .i64 0, .slice none 0 0, .int .i64 0, .int .i64 0, .int .i64 0, .slice none 0 0] 55) := ⟨by rw [hw5]; exact blk_alloc (blk_new _ _) _⟩
  have HE_5 : Aside0 (IsB w5 (w4.heap.size + 1) #[.int .i64 0, .int .i64 0, .int .i64 0, .int .i64 0, .int .i64 0] 56) := ⟨by rw [hw5]; exact new1 w4 _ _ 55 56⟩
  have HN0 : Aside0 (w5.heap.size = w4.heap.size + 1 + 1) := ⟨by rw [hw5]; simp [World.size_alloc]⟩
  have H1_5 := Aside0.mk (blk_below H1_4.out HS_5.out)
  have b0 := blk_cell H1_5.out 0
  have b1 := blk_cell H1_5.out 1
  have b2 := blk_cell H1_5.out 2
  have b3 := blk_cell H1_5.out 3
  simp only [List.getElem?_toArray, List.getElem?_cons_zero, List.getElem?_cons_succ] at b0 b1 b2 b3
  rw [hw5, hw4] at b0 b1 b2 b3
  go_wp2_with fail
  rw [← hw4, ← hsz4]
  rw [← hw5]
  clear hw5 hw4 hsz4 b0 b1 b2 b3
  refine (HT0.out A9 c9 w5 (Kd.C_below (C_front HCF.out.2) HS_5.out) (by have := HCF.out.1; omega)).mono ?_
  rintro e u0 ⟨v, rfl, hP, hb⟩
  have R0 := Aside0.mk (row_of hP)
  have HSu := Aside0.mk (below_step HS_5.out hb)
  have HAu := Aside0.mk (blk_below HA_5.out hb)
  have HEu := Aside0.mk (blk_below HE_5.out hb)
  have HO0 : Aside0 (w5.heap.size ≤ u0.heap.size) := ⟨hb.size⟩
  obtain ⟨A_0, k_0, hv⟩ := Kd.R_slice hP
  obtain ⟨n_0, hn⟩ : ∃ n, n = L0.length := ⟨_, rfl⟩
  have HNL0 := Aside0.mk hn
  rw [← hn] at hv
  clear hn
  subst hv
  clear hP hb HS_5 HA_5 HE_5
  have HS_m0 : Aside0 (Below w4.heap.size w4 (((((u0.setCell ⟨w4.heap.size, 0, none⟩ (.int .i64 p0)).setCell ⟨w4.heap.size, 1, none⟩ (.int .i64 q0)).setCell ⟨w4.heap.size, 2, none⟩ (.int .i64 s0)).setCell ⟨w4.heap.size, 3, none⟩ (.slice A_0 n_0 k_0)).setCell ⟨w4.heap.size + 1, 0, none⟩ (.int .i64 e0))) := ⟨put5_below HSu.out (Nat.le_refl _) (Nat.le_succ _)⟩
  have HA_m0 : Aside0 (IsB (((((u0.setCell ⟨w4.heap.size, 0, none⟩ (.int .i64 p0)).setCell ⟨w4.heap.size, 1, none⟩ (.int .i64 q0)).setCell ⟨w4.heap.size, 2, none⟩ (.int .i64 s0)).setCell ⟨w4.heap.size, 3, none⟩ (.slice A_0 n_0 k_0)).setCell ⟨w4.heap.size + 1, 0, none⟩ (.int .i64 e0)) w4.heap.size #[.int .i64 p0, .int .i64 q0, .int .i64 s0, .slice A_0 n_0 k_0, .int .i64 0, .int .i64 0, .int .i64 0, .slice none 0 0, .int .i64 0, .int .i64 0, .int .i64 0, .slice none 0 0, .int .i64 0, .int .i64 0, .int .i64 0, .slice none 0 0, .int .i64 0, .int .i64 0, .int .i64 0, .slice none 0 0] 55) := ⟨put5_A HAu.out (by omega) rfl⟩
  have HE_m0 : Aside0 (IsB (((((u0.setCell ⟨w4.heap.size, 0, none⟩ (.int .i64 p0)).setCell ⟨w4.heap.size, 1, none⟩ (.int .i64 q0)).setCell ⟨w4.heap.size, 2, none⟩ (.int .i64 s0)).setCell ⟨w4.heap.size, 3, none⟩ (.slice A_0 n_0 k_0)).setCell ⟨w4.heap.size + 1, 0, none⟩ (.int .i64 e0)) (w4.heap.size + 1) #[.int .i64 e0, .int .i64 0, .int .i64 0, .int .i64 0, .int .i64 0] 56) := ⟨put5_E HEu.out (by omega) rfl⟩
  have hsz : (((((u0.setCell ⟨w4.heap.size, 0, none⟩ (.int .i64 p0)).setCell ⟨w4.heap.size, 1, none⟩ (.int .i64 q0)).setCell ⟨w4.heap.size, 2, none⟩ (.int .i64 s0)).setCell ⟨w4.heap.size, 3, none⟩ (.slice A_0 n_0 k_0)).setCell ⟨w4.heap.size + 1, 0, none⟩ (.int .i64 e0)).heap.size = u0.heap.size := put5_size
  replace R0 : Aside0 (Row (((((u0.setCell ⟨w4.heap.size, 0, none⟩ (.int .i64 p0)).setCell ⟨w4.heap.size, 1, none⟩ (.int .i64 q0)).setCell ⟨w4.heap.size, 2, none⟩ (.int .i64 s0)).setCell ⟨w4.heap.size, 3, none⟩ (.slice A_0 n_0 k_0)).setCell ⟨w4.heap.size + 1, 0, none⟩ (.int .i64 e0)) _ _ (.slice A_0 n_0 k_0) L0) := ⟨put5_row R0.out (by have := HN0.out; have := HO0.out; omega) (by have := HN0.out; have := HO0.out; omega)⟩
  rw [← hsz] at R0 HO0
  clear hsz
  have H1_m0 := Aside0.mk (blk_below H1_4.out HS_m0.out)
  have x0 := blk_cell HAu.out 0
  have xf0 := blk_frozen HAu.out 0
  have x1 := blk_cell HAu.out 1
  have xf1 := blk_frozen HAu.out 1
  have x2 := blk_cell HAu.out 2
  have xf2 := blk_frozen HAu.out 2
  have x3 := blk_cell HAu.out 3
  have xf3 := blk_frozen HAu.out 3
  have y0 := blk_cell HEu.out 0
  have yf0 := blk_frozen HEu.out 0
  simp only [List.getElem?_toArray, List.getElem?_cons_zero, List.getElem?_cons_succ] at x0 x1 x2 x3 y0
  have b0 := blk_cell H1_m0.out 0
  have b1 := blk_cell H1_m0.out 1
  have b2 := blk_cell H1_m0.out 2
  have b3 := blk_cell H1_m0.out 3
  simp only [List.getElem?_toArray, List.getElem?_cons_zero, List.getElem?_cons_succ] at b0 b1 b2 b3
  go_wp2_with fail
  generalize (((((u0.setCell ⟨w4.heap.size, 0, none⟩ (.int .i64 p0)).setCell ⟨w4.heap.size, 1, none⟩ (.int .i64 q0)).setCell ⟨w4.heap.size, 2, none⟩ (.int .i64 s0)).setCell ⟨w4.heap.size, 3, none⟩ (.slice A_0 n_0 k_0)).setCell ⟨w4.heap.size + 1, 0, none⟩ (.int .i64 e0)) = m0 at HS_m0 HA_m0 HE_m0 H1_m0 HO0 R0 ⊢
  clear HSu HAu HEu x0 x1 x2 x3 y0 xf0 xf1 xf2 xf3 yf0 b0 b1 b2 b3 H1_m0
  refine (HT1.out A9 c9 m0 (Kd.C_below (C_front HCF.out.2) HS_m0.out) (by have := HCF.out.1; omega)).mono ?_
  rintro e u1 ⟨v, rfl, hP, hb⟩
  have R1 := Aside0.mk (row_of hP)
  replace R0 := Aside0.mk (row_below R0.out hb)
  have HSu := Aside0.mk (below_step HS_m0.out hb)
  have HAu := Aside0.mk (blk_below HA_m0.out hb)
  have HEu := Aside0.mk (blk_below HE_m0.out hb)
  have HO1 : Aside0 (m0.heap.size ≤ u1.heap.size) := ⟨hb.size⟩
  obtain ⟨A_1, k_1, hv⟩ := Kd.R_slice hP
  obtain ⟨n_1, hn⟩ : ∃ n, n = L1.length := ⟨_, rfl⟩
  have HNL1 := Aside0.mk hn
  rw [← hn] at hv
  clear hn
  subst hv
  clear hP hb HS_m0 HA_m0 HE_m0
  have HS_m1 : Aside0 (Below w4.heap.size w4 (((((u1.setCell ⟨w4.heap.size, 4, none⟩ (.int .i64 p1)).setCell ⟨w4.heap.size, 5, none⟩ (.int .i64 q1)).setCell ⟨w4.heap.size, 6, none⟩ (.int .i64 s1)).setCell ⟨w4.heap.size, 7, none⟩ (.slice A_1 n_1 k_1)).setCell ⟨w4.heap.size + 1, 1, none⟩ (.int .i64 e1))) := ⟨put5_below HSu.out (Nat.le_refl _) (Nat.le_succ _)⟩
  have HA_m1 : Aside0 (IsB (((((u1.setCell ⟨w4.heap.size, 4, none⟩ (.int .i64 p1)).setCell ⟨w4.heap.size, 5, none⟩ (.int .i64 q1)).setCell ⟨w4.heap.size, 6, none⟩ (.int .i64 s1)).setCell ⟨w4.heap.size, 7, none⟩ (.slice A_1 n_1 k_1)).setCell ⟨w4.heap.size + 1, 1, none⟩ (.int .i64 e1)) w4.heap.size #[.int .i64 p0, .int .i64 q0, .int .i64 s0, .slice A_0 n_0 k_0, .int .i64 p1, .int .i64 q1, .int .i64 s1, .slice A_1 n_1 k_1, .int .i64 0, .int .i64 0, .int .i64 0, .slice none 0 0, .int .i64 0, .int .i64 0, .int .i64 0, .slice none 0 0, .int .i64 0, .int .i64 0, .int .i64 0, .slice none 0 0] 55) := ⟨put5_A HAu.out (by omega) rfl⟩
  have HE_m1 : Aside0 (IsB (((((u1.setCell ⟨w4.heap.size, 4, none⟩ (.int .i64 p1)).setCell ⟨w4.heap.size, 5, none⟩ (.int .i64 q1)).setCell ⟨w4.heap.size, 6, none⟩ (.int .i64 s1)).setCell ⟨w4.heap.size, 7, none⟩ (.slice A_1 n_1 k_1)).setCell ⟨w4.heap.size + 1, 1, none⟩ (.int .i64 e1)) (w4.heap.size + 1) #[.int .i64 e0, .int .i64 e1, .int .i64 0, .int .i64 0, .int .i64 0] 56) := ⟨put5_E HEu.out (by omega) rfl⟩
  have hsz : (((((u1.setCell ⟨w4.heap.size, 4, none⟩ (.int .i64 p1)).setCell ⟨w4.heap.size, 5, none⟩ (.int .i64 q1)).setCell ⟨w4.heap.size, 6, none⟩ (.int .i64 s1)).setCell ⟨w4.heap.size, 7, none⟩ (.slice A_1 n_1 k_1)).setCell ⟨w4.heap.size + 1, 1, none⟩ (.int .i64 e1)).heap.size = u1.heap.size := put5_size
  replace R0 : Aside0 (Row (((((u1.setCell ⟨w4.heap.size, 4, none⟩ (.int .i64 p1)).setCell ⟨w4.heap.size, 5, none⟩ (.int .i64 q1)).setCell ⟨w4.heap.size, 6, none⟩ (.int .i64 s1)).setCell ⟨w4.heap.size, 7, none⟩ (.slice A_1 n_1 k_1)).setCell ⟨w4.heap.size + 1, 1, none⟩ (.int .i64 e1)) _ _ (.slice A_0 n_0 k_0) L0) := ⟨put5_row R0.out (by have := HN0.out; have := HO0.out; have := HO1.out; omega) (by have := HN0.out; have := HO0.out; have := HO1.out; omega)⟩
  replace R1 : Aside0 (Row (((((u1.setCell ⟨w4.heap.size, 4, none⟩ (.int .i64 p1)).setCell ⟨w4.heap.size, 5, none⟩ (.int .i64 q1)).setCell ⟨w4.heap.size, 6, none⟩ (.int .i64 s1)).setCell ⟨w4.heap.size, 7, none⟩ (.slice A_1 n_1 k_1)).setCell ⟨w4.heap.size + 1, 1, none⟩ (.int .i64 e1)) _ _ (.slice A_1 n_1 k_1) L1) := ⟨put5_row R1.out (by have := HN0.out; have := HO0.out; have := HO1.out; omega) (by have := HN0.out; have := HO0.out; have := HO1.out; omega)⟩
  rw [← hsz] at R1 HO1
  clear hsz
  have H1_m1 := Aside0.mk (blk_below H1_4.out HS_m1.out)
  have x0 := blk_cell HAu.out 4
  have xf0 := blk_frozen HAu.out 4
  have x1 := blk_cell HAu.out 5
  have xf1 := blk_frozen HAu.out 5
  have x2 := blk_cell HAu.out 6
  have xf2 := blk_frozen HAu.out 6
  have x3 := blk_cell HAu.out 7
  have xf3 := blk_frozen HAu.out 7
  have y0 := blk_cell HEu.out 1
  have yf0 := blk_frozen HEu.out 1
  simp only [List.getElem?_toArray, List.getElem?_cons_zero, List.getElem?_cons_succ] at x0 x1 x2 x3 y0
  have b0 := blk_cell H1_m1.out 0
  have b1 := blk_cell H1_m1.out 1
  have b2 := blk_cell H1_m1.out 2
  have b3 := blk_cell H1_m1.out 3
  simp only [List.getElem?_toArray, List.getElem?_cons_zero, List.getElem?_cons_succ] at b0 b1 b2 b3
  go_wp2_with fail
  generalize (((((u1.setCell ⟨w4.heap.size, 4, none⟩ (.int .i64 p1)).setCell ⟨w4.heap.size, 5, none⟩ (.int .i64 q1)).setCell ⟨w4.heap.size, 6, none⟩ (.int .i64 s1)).setCell ⟨w4.heap.size, 7, none⟩ (.slice A_1 n_1 k_1)).setCell ⟨w4.heap.size + 1, 1, none⟩ (.int .i64 e1)) = m1 at HS_m1 HA_m1 HE_m1 H1_m1 HO1 R0 R1 ⊢
  clear HSu HAu HEu x0 x1 x2 x3 y0 xf0 xf1 xf2 xf3 yf0 b0 b1 b2 b3 H1_m1
  refine (HT2.out A9 c9 m1 (Kd.C_below (C_front HCF.out.2) HS_m1.out) (by have := HCF.out.1; omega)).mono ?_
  rintro e u2 ⟨v, rfl, hP, hb⟩
  have R2 := Aside0.mk (row_of hP)
  replace R0 := Aside0.mk (row_below R0.out hb)
  replace R1 := Aside0.mk (row_below R1.out hb)
  have HSu := Aside0.mk (below_step HS_m1.out hb)
  have HAu := Aside0.mk (blk_below HA_m1.out hb)
  have HEu := Aside0.mk (blk_below HE_m1.out hb)
  have HO2 : Aside0 (m1.heap.size ≤ u2.heap.size) := ⟨hb.size⟩
  obtain ⟨A_2, k_2, hv⟩ := Kd.R_slice hP
  obtain ⟨n_2, hn⟩ : ∃ n, n = L2.length := ⟨_, rfl⟩
  have HNL2 := Aside0.mk hn
  rw [← hn] at hv
  clear hn
  subst hv
  clear hP hb HS_m1 HA_m1 HE_m1
  have HS_m2 : Aside0 (Below w4.heap.size w4 (((((u2.setCell ⟨w4.heap.size, 8, none⟩ (.int .i64 p2)).setCell ⟨w4.heap.size, 9, none⟩ (.int .i64 q2)).setCell ⟨w4.heap.size, 10, none⟩ (.int .i64 s2)).setCell ⟨w4.heap.size, 11, none⟩ (.slice A_2 n_2 k_2)).setCell ⟨w4.heap.size + 1, 2, none⟩ (.int .i64 e2))) := ⟨put5_below HSu.out (Nat.le_refl _) (Nat.le_succ _)⟩
  have HA_m2 : Aside0 (IsB (((((u2.setCell ⟨w4.heap.size, 8, none⟩ (.int .i64 p2)).setCell ⟨w4.heap.size, 9, none⟩ (.int .i64 q2)).setCell ⟨w4.heap.size, 10, none⟩ (.int .i64 s2)).setCell ⟨w4.heap.size, 11, none⟩ (.slice A_2 n_2 k_2)).setCell ⟨w4.heap.size + 1, 2, none⟩ (.int .i64 e2)) w4.heap.size #[.int .i64 p0, .int .i64 q0, .int .i64 s0, .slice A_0 n_0 k_0, .int .i64 p1, .int .i64 q1, .int .i64 s1, .slice A_1 n_1 k_1, .int .i64 p2, .int .i64 q2, .int .i64 s2, .slice A_2 n_2 k_2, .int .i64 0, .int .i64 0, .int .i64 0, .slice none 0 0, .int .i64 0, .int .i64 0, .int .i64 0, .slice none 0 0] 55) := ⟨put5_A HAu.out (by omega) rfl⟩
  have HE_m2 : Aside0 (IsB (((((u2.setCell ⟨w4.heap.size, 8, none⟩ (.int .i64 p2)).setCell ⟨w4.heap.size, 9, none⟩ (.int .i64 q2)).setCell ⟨w4.heap.size, 10, none⟩ (.int .i64 s2)).setCell ⟨w4.heap.size, 11, none⟩ (.slice A_2 n_2 k_2)).setCell ⟨w4.heap.size + 1, 2, none⟩ (.int .i64 e2)) (w4.heap.size + 1) #[.int .i64 e0, .int .i64 e1, .int .i64 e2, .int .i64 0, .int .i64 0] 56) := ⟨put5_E HEu.out (by omega) rfl⟩
  have hsz : (((((u2.setCell ⟨w4.heap.size, 8, none⟩ (.int .i64 p2)).setCell ⟨w4.heap.size, 9, none⟩ (.int .i64 q2)).setCell ⟨w4.heap.size, 10, none⟩ (.int .i64 s2)).setCell ⟨w4.heap.size, 11, none⟩ (.slice A_2 n_2 k_2)).setCell ⟨w4.heap.size + 1, 2, none⟩ (.int .i64 e2)).heap.size = u2.heap.size := put5_size
  replace R0 : Aside0 (Row (((((u2.setCell ⟨w4.heap.size, 8, none⟩ (.int .i64 p2)).setCell ⟨w4.heap.size, 9, none⟩ (.int .i64 q2)).setCell ⟨w4.heap.size, 10, none⟩ (.int .i64 s2)).setCell ⟨w4.heap.size, 11, none⟩ (.slice A_2 n_2 k_2)).setCell ⟨w4.heap.size + 1, 2, none⟩ (.int .i64 e2)) _ _ (.slice A_0 n_0 k_0) L0) := ⟨put5_row R0.out (by have := HN0.out; have := HO0.out; have := HO1.out; have := HO2.out; omega) (by have := HN0.out; have := HO0.out; have := HO1.out; have := HO2.out; omega)⟩
  replace R1 : Aside0 (Row (((((u2.setCell ⟨w4.heap.size, 8, none⟩ (.int .i64 p2)).setCell ⟨w4.heap.size, 9, none⟩ (.int .i64 q2)).setCell ⟨w4.heap.size, 10, none⟩ (.int .i64 s2)).setCell ⟨w4.heap.size, 11, none⟩ (.slice A_2 n_2 k_2)).setCell ⟨w4.heap.size + 1, 2, none⟩ (.int .i64 e2)) _ _ (.slice A_1 n_1 k_1) L1) := ⟨put5_row R1.out (by have := HN0.out; have := HO0.out; have := HO1.out; have := HO2.out; omega) (by have := HN0.out; have := HO0.out; have := HO1.out; have := HO2.out; omega)⟩
  replace R2 : Aside0 (Row (((((u2.setCell ⟨w4.heap.size, 8, none⟩ (.int .i64 p2)).setCell ⟨w4.heap.size, 9, none⟩ (.int .i64 q2)).setCell ⟨w4.heap.size, 10, none⟩ (.int .i64 s2)).setCell ⟨w4.heap.size, 11, none⟩ (.slice A_2 n_2 k_2)).setCell ⟨w4.heap.size + 1, 2, none⟩ (.int .i64 e2)) _ _ (.slice A_2 n_2 k_2) L2) := ⟨put5_row R2.out (by have := HN0.out; have := HO0.out; have := HO1.out; have := HO2.out; omega) (by have := HN0.out; have := HO0.out; have := HO1.out; have := HO2.out; omega)⟩
  rw [← hsz] at R2 HO2
  clear hsz
  have H1_m2 := Aside0.mk (blk_below H1_4.out HS_m2.out)
  have x0 := blk_cell HAu.out 8
  have xf0 := blk_frozen HAu.out 8
  have x1 := blk_cell HAu.out 9
  have xf1 := blk_frozen HAu.out 9
  have x2 := blk_cell HAu.out 10
  have xf2 := blk_frozen HAu.out 10
  have x3 := blk_cell HAu.out 11
  have xf3 := blk_frozen HAu.out 11
  have y0 := blk_cell HEu.out 2
  have yf0 := blk_frozen HEu.out 2
  simp only [List.getElem?_toArray, List.getElem?_cons_zero, List.getElem?_cons_succ] at x0 x1 x2 x3 y0
  have b0 := blk_cell H1_m2.out 0
  have b1 := blk_cell H1_m2.out 1
  have b2 := blk_cell H1_m2.out 2
  have b3 := blk_cell H1_m2.out 3
  simp only [List.getElem?_toArray, List.getElem?_cons_zero, List.getElem?_cons_succ] at b0 b1 b2 b3
  go_wp2_with fail
  generalize (((((u2.setCell ⟨w4.heap.size, 8, none⟩ (.int .i64 p2)).setCell ⟨w4.heap.size, 9, none⟩ (.int .i64 q2)).setCell ⟨w4.heap.size, 10, none⟩ (.int .i64 s2)).setCell ⟨w4.heap.size, 11, none⟩ (.slice A_2 n_2 k_2)).setCell ⟨w4.heap.size + 1, 2, none⟩ (.int .i64 e2)) = m2 at HS_m2 HA_m2 HE_m2 H1_m2 HO2 R0 R1 R2 ⊢
  clear HSu HAu HEu x0 x1 x2 x3 y0 xf0 xf1 xf2 xf3 yf0 b0 b1 b2 b3 H1_m2
  refine (HT3.out A9 c9 m2 (Kd.C_below (C_front HCF.out.2) HS_m2.out) (by have := HCF.out.1; omega)).mono ?_
  rintro e u3 ⟨v, rfl, hP, hb⟩
  have R3 := Aside0.mk (row_of hP)
  replace R0 := Aside0.mk (row_below R0.out hb)
  replace R1 := Aside0.mk (row_below R1.out hb)
  replace R2 := Aside0.mk (row_below R2.out hb)
  have HSu := Aside0.mk (below_step HS_m2.out hb)
  have HAu := Aside0.mk (blk_below HA_m2.out hb)
  have HEu := Aside0.mk (blk_below HE_m2.out hb)
  have HO3 : Aside0 (m2.heap.size ≤ u3.heap.size) := ⟨hb.size⟩
  obtain ⟨A_3, k_3, hv⟩ := Kd.R_slice hP
  obtain ⟨n_3, hn⟩ : ∃ n, n = L3.length := ⟨_, rfl⟩
  have HNL3 := Aside0.mk hn
  rw [← hn] at hv
  clear hn
  subst hv
  clear hP hb HS_m2 HA_m2 HE_m2
  have HS_m3 : Aside0 (Below w4.heap.size w4 (((((u3.setCell ⟨w4.heap.size, 12, none⟩ (.int .i64 p3)).setCell ⟨w4.heap.size, 13, none⟩ (.int .i64 q3)).setCell ⟨w4.heap.size, 14, none⟩ (.int .i64 s3)).setCell ⟨w4.heap.size, 15, none⟩ (.slice A_3 n_3 k_3)).setCell ⟨w4.heap.size + 1, 3, none⟩ (.int .i64 e3))) := ⟨put5_below HSu.out (Nat.le_refl _) (Nat.le_succ _)⟩
  have HA_m3 : Aside0 (IsB (((((u3.setCell ⟨w4.heap.size, 12, none⟩ (.int .i64 p3)).setCell ⟨w4.heap.size, 13, none⟩ (.int .i64 q3)).setCell ⟨w4.heap.size, 14, none⟩ (.int .i64 s3)).setCell ⟨w4.heap.size, 15, none⟩ (.slice A_3 n_3 k_3)).setCell ⟨w4.heap.size + 1, 3, none⟩ (.int .i64 e3)) w4.heap.size #[.int .i64 p0, .int .i64 q0, .int .i64 s0, .slice A_0 n_0 k_0, .int .i64 p1, .int .i64 q1, .int .i64 s1, .slice A_1 n_1 k_1, .int .i64 p2, .int .i64 q2, .int .i64 s2, .slice A_2 n_2 k_2, .int .i64 p3, .int .i64 q3, .int .i64 s3, .slice A_3 n_3 k_3, .int .i64 0, .int .i64 0, .int .i64 0, .slice none 0 0] 55) := ⟨put5_A HAu.out (by omega) rfl⟩
  have HE_m3 : Aside0 (IsB (((((u3.setCell ⟨w4.heap.size, 12, none⟩ (.int .i64 p3)).setCell ⟨w4.heap.size, 13, none⟩ (.int .i64 q3)).setCell ⟨w4.heap.size, 14, none⟩ (.int .i64 s3)).setCell ⟨w4.heap.size, 15, none⟩ (.slice A_3 n_3 k_3)).setCell ⟨w4.heap.size + 1, 3, none⟩ (.int .i64 e3)) (w4.heap.size + 1) #[.int .i64 e0, .int .i64 e1, .int .i64 e2, .int .i64 e3, .int .i64 0] 56) := ⟨put5_E HEu.out (by omega) rfl⟩
  have hsz : (((((u3.setCell ⟨w4.heap.size, 12, none⟩ (.int .i64 p3)).setCell ⟨w4.heap.size, 13, none⟩ (.int .i64 q3)).setCell ⟨w4.heap.size, 14, none⟩ (.int .i64 s3)).setCell ⟨w4.heap.size, 15, none⟩ (.slice A_3 n_3 k_3)).setCell ⟨w4.heap.size + 1, 3, none⟩ (.int .i64 e3)).heap.size = u3.heap.size := put5_size
  replace R0 : Aside0 (Row (((((u3.setCell ⟨w4.heap.size, 12, none⟩ (.int .i64 p3)).setCell ⟨w4.heap.size, 13, none⟩ (.int .i64 q3)).setCell ⟨w4.heap.size, 14, none⟩ (.int .i64 s3)).setCell ⟨w4.heap.size, 15, none⟩ (.slice A_3 n_3 k_3)).setCell ⟨w4.heap.size + 1, 3, none⟩ (.int .i64 e3)) _ _ (.slice A_0 n_0 k_0) L0) := ⟨put5_row R0.out (by have := HN0.out; have := HO0.out; have := HO1.out; have := HO2.out; have := HO3.out; omega) (by have := HN0.out; have := HO0.out; have := HO1.out; have := HO2.out; have := HO3.out; omega)⟩
  replace R1 : Aside0 (Row (((((u3.setCell ⟨w4.heap.size, 12, none⟩ (.int .i64 p3)).setCell ⟨w4.heap.size, 13, none⟩ (.int .i64 q3)).setCell ⟨w4.heap.size, 14, none⟩ (.int .i64 s3)).setCell ⟨w4.heap.size, 15, none⟩ (.slice A_3 n_3 k_3)).setCell ⟨w4.heap.size + 1, 3, none⟩ (.int .i64 e3)) _ _ (.slice A_1 n_1 k_1) L1) := ⟨put5_row R1.out (by have := HN0.out; have := HO0.out; have := HO1.out; have := HO2.out; have := HO3.out; omega) (by have := HN0.out; have := HO0.out; have := HO1.out; have := HO2.out; have := HO3.out; omega)⟩
  replace R2 : Aside0 (Row (((((u3.setCell ⟨w4.heap.size, 12, none⟩ (.int .i64 p3)).setCell ⟨w4.heap.size, 13, none⟩ (.int .i64 q3)).setCell ⟨w4.heap.size, 14, none⟩ (.int .i64 s3)).setCell ⟨w4.heap.size, 15, none⟩ (.slice A_3 n_3 k_3)).setCell ⟨w4.heap.size + 1, 3, none⟩ (.int .i64 e3)) _ _ (.slice A_2 n_2 k_2) L2) := ⟨put5_row R2.out (by have := HN0.out; have := HO0.out; have := HO1.out; have := HO2.out; have := HO3.out; omega) (by have := HN0.out; have := HO0.out; have := HO1.out; have := HO2.out; have := HO3.out; omega)⟩
  replace R3 : Aside0 (Row (((((u3.setCell ⟨w4.heap.size, 12, none⟩ (.int .i64 p3)).setCell ⟨w4.heap.size, 13, none⟩ (.int .i64 q3)).setCell ⟨w4.heap.size, 14, none⟩ (.int .i64 s3)).setCell ⟨w4.heap.size, 15, none⟩ (.slice A_3 n_3 k_3)).setCell ⟨w4.heap.size + 1, 3, none⟩ (.int .i64 e3)) _ _ (.slice A_3 n_3 k_3) L3) := ⟨put5_row R3.out (by have := HN0.out; have := HO0.out; have := HO1.out; have := HO2.out; have := HO3.out; omega) (by have := HN0.out; have := HO0.out; have := HO1.out; have := HO2.out; have := HO3.out; omega)⟩
  rw [← hsz] at R3 HO3
  clear hsz
  have H1_m3 := Aside0.mk (blk_below H1_4.out HS_m3.out)
  have x0 := blk_cell HAu.out 12
  have xf0 := blk_frozen HAu.out 12
  have x1 := blk_cell HAu.out 13
  have xf1 := blk_frozen HAu.out 13
  have x2 := blk_cell HAu.out 14
  have xf2 := blk_frozen HAu.out 14
  have x3 := blk_cell HAu.out 15
  have xf3 := blk_frozen HAu.out 15
  have y0 := blk_cell HEu.out 3
  have yf0 := blk_frozen HEu.out 3
  simp only [List.getElem?_toArray, List.getElem?_cons_zero, List.getElem?_cons_succ] at x0 x1 x2 x3 y0
  have b0 := blk_cell H1_m3.out 0
  have b1 := blk_cell H1_m3.out 1
  have b2 := blk_cell H1_m3.out 2
  have b3 := blk_cell H1_m3.out 3
  simp only [List.getElem?_toArray, List.getElem?_cons_zero, List.getElem?_cons_succ] at b0 b1 b2 b3
  go_wp2_with fail
  generalize (((((u3.setCell ⟨w4.heap.size, 12, none⟩ (.int .i64 p3)).setCell ⟨w4.heap.size, 13, none⟩ (.int .i64 q3)).setCell ⟨w4.heap.size, 14, none⟩ (.int .i64 s3)).setCell ⟨w4.heap.size, 15, none⟩ (.slice A_3 n_3 k_3)).setCell ⟨w4.heap.size + 1, 3, none⟩ (.int .i64 e3)) = m3 at HS_m3 HA_m3 HE_m3 H1_m3 HO3 R0 R1 R2 R3 ⊢
  clear HSu HAu HEu x0 x1 x2 x3 y0 xf0 xf1 xf2 xf3 yf0 b0 b1 b2 b3 H1_m3
  refine (HT4.out A9 c9 m3 (Kd.C_below (C_front HCF.out.2) HS_m3.out) (by have := HCF.out.1; omega)).mono ?_
  rintro e u4 ⟨v, rfl, hP, hb⟩
  have R4 := Aside0.mk (row_of hP)
  replace R0 := Aside0.mk (row_below R0.out hb)
  replace R1 := Aside0.mk (row_below R1.out hb)
  replace R2 := Aside0.mk (row_below R2.out hb)
  replace R3 := Aside0.mk (row_below R3.out hb)
  have HSu := Aside0.mk (below_step HS_m3.out hb)
  have HAu := Aside0.mk (blk_below HA_m3.out hb)
  have HEu := Aside0.mk (blk_below HE_m3.out hb)
  have HO4 : Aside0 (m3.heap.size ≤ u4.heap.size) := ⟨hb.size⟩
  obtain ⟨A_4, k_4, hv⟩ := Kd.R_slice hP
  obtain ⟨n_4, hn⟩ : ∃ n, n = L4.length := ⟨_, rfl⟩
  have HNL4 := Aside0.mk hn
  rw [← hn] at hv
  clear hn
  subst hv
  clear hP hb HS_m3 HA_m3 HE_m3
  have HS_m4 : Aside0 (Below w4.heap.size w4 (((((u4.setCell ⟨w4.heap.size, 16, none⟩ (.int .i64 p4)).setCell ⟨w4.heap.size, 17, none⟩ (.int .i64 q4)).setCell ⟨w4.heap.size, 18, none⟩ (.int .i64 s4)).setCell ⟨w4.heap.size, 19, none⟩ (.slice A_4 n_4 k_4)).setCell ⟨w4.heap.size + 1, 4, none⟩ (.int .i64 e4))) := ⟨put5_below HSu.out (Nat.le_refl _) (Nat.le_succ _)⟩
  have HA_m4 : Aside0 (IsB (((((u4.setCell ⟨w4.heap.size, 16, none⟩ (.int .i64 p4)).setCell ⟨w4.heap.size, 17, none⟩ (.int .i64 q4)).setCell ⟨w4.heap.size, 18, none⟩ (.int .i64 s4)).setCell ⟨w4.heap.size, 19, none⟩ (.slice A_4 n_4 k_4)).setCell ⟨w4.heap.size + 1, 4, none⟩ (.int .i64 e4)) w4.heap.size #[.int .i64 p0, .int .i64 q0, .int .i64 s0, .slice A_0 n_0 k_0, .int .i64 p1, .int .i64 q1, .int .i64 s1, .slice A_1 n_1 k_1, .int .i64 p2, .int .i64 q2, .int .i64 s2, .slice A_2 n_2 k_2, .int .i64 p3, .int .i64 q3, .int .i64 s3, .slice A_3 n_3 k_3, .int .i64 p4, .int .i64 q4, .int .i64 s4, .slice A_4 n_4 k_4] 55) := ⟨put5_A HAu.out (by omega) rfl⟩
  have HE_m4 : Aside0 (IsB (((((u4.setCell ⟨w4.heap.size, 16, none⟩ (.int .i64 p4)).setCell ⟨w4.heap.size, 17, none⟩ (.int .i64 q4)).setCell ⟨w4.heap.size, 18, none⟩ (.int .i64 s4)).setCell ⟨w4.heap.size, 19, none⟩ (.slice A_4 n_4 k_4)).setCell ⟨w4.heap.size + 1, 4, none⟩ (.int .i64 e4)) (w4.heap.size + 1) #[.int .i64 e0, .int .i64 e1, .int .i64 e2, .int .i64 e3, .int .i64 e4] 56) := ⟨put5_E HEu.out (by omega) rfl⟩
  have hsz : (((((u4.setCell ⟨w4.heap.size, 16, none⟩ (.int .i64 p4)).setCell ⟨w4.heap.size, 17, none⟩ (.int .i64 q4)).setCell ⟨w4.heap.size, 18, none⟩ (.int .i64 s4)).setCell ⟨w4.heap.size, 19, none⟩ (.slice A_4 n_4 k_4)).setCell ⟨w4.heap.size + 1, 4, none⟩ (.int .i64 e4)).heap.size = u4.heap.size := put5_size
  replace R0 : Aside0 (Row (((((u4.setCell ⟨w4.heap.size, 16, none⟩ (.int .i64 p4)).setCell ⟨w4.heap.size, 17, none⟩ (.int .i64 q4)).setCell ⟨w4.heap.size, 18, none⟩ (.int .i64 s4)).setCell ⟨w4.heap.size, 19, none⟩ (.slice A_4 n_4 k_4)).setCell ⟨w4.heap.size + 1, 4, none⟩ (.int .i64 e4)) _ _ (.slice A_0 n_0 k_0) L0) := ⟨put5_row R0.out (by have := HN0.out; have := HO0.out; have := HO1.out; have := HO2.out; have := HO3.out; have := HO4.out; omega) (by have := HN0.out; have := HO0.out; have := HO1.out; have := HO2.out; have := HO3.out; have := HO4.out; omega)⟩
  replace R1 : Aside0 (Row (((((u4.setCell ⟨w4.heap.size, 16, none⟩ (.int .i64 p4)).setCell ⟨w4.heap.size, 17, none⟩ (.int .i64 q4)).setCell ⟨w4.heap.size, 18, none⟩ (.int .i64 s4)).setCell ⟨w4.heap.size, 19, none⟩ (.slice A_4 n_4 k_4)).setCell ⟨w4.heap.size + 1, 4, none⟩ (.int .i64 e4)) _ _ (.slice A_1 n_1 k_1) L1) := ⟨put5_row R1.out (by have := HN0.out; have := HO0.out; have := HO1.out; have := HO2.out; have := HO3.out; have := HO4.out; omega) (by have := HN0.out; have := HO0.out; have := HO1.out; have := HO2.out; have := HO3.out; have := HO4.out; omega)⟩
  replace R2 : Aside0 (Row (((((u4.setCell ⟨w4.heap.size, 16, none⟩ (.int .i64 p4)).setCell ⟨w4.heap.size, 17, none⟩ (.int .i64 q4)).setCell ⟨w4.heap.size, 18, none⟩ (.int .i64 s4)).setCell ⟨w4.heap.size, 19, none⟩ (.slice A_4 n_4 k_4)).setCell ⟨w4.heap.size + 1, 4, none⟩ (.int .i64 e4)) _ _ (.slice A_2 n_2 k_2) L2) := ⟨put5_row R2.out (by have := HN0.out; have := HO0.out; have := HO1.out; have := HO2.out; have := HO3.out; have := HO4.out; omega) (by have := HN0.out; have := HO0.out; have := HO1.out; have := HO2.out; have := HO3.out; have := HO4.out; omega)⟩
  replace R3 : Aside0 (Row (((((u4.setCell ⟨w4.heap.size, 16, none⟩ (.int .i64 p4)).setCell ⟨w4.heap.size, 17, none⟩ (.int .i64 q4)).setCell ⟨w4.heap.size, 18, none⟩ (.int .i64 s4)).setCell ⟨w4.heap.size, 19, none⟩ (.slice A_4 n_4 k_4)).setCell ⟨w4.heap.size + 1, 4, none⟩ (.int .i64 e4)) _ _ (.slice A_3 n_3 k_3) L3) := ⟨put5_row R3.out (by have := HN0.out; have := HO0.out; have := HO1.out; have := HO2.out; have := HO3.out; have := HO4.out; omega) (by have := HN0.out; have := HO0.out; have := HO1.out; have := HO2.out; have := HO3.out; have := HO4.out; omega)⟩
  replace R4 : Aside0 (Row (((((u4.setCell ⟨w4.heap.size, 16, none⟩ (.int .i64 p4)).setCell ⟨w4.heap.size, 17, none⟩ (.int .i64 q4)).setCell ⟨w4.heap.size, 18, none⟩ (.int .i64 s4)).setCell ⟨w4.heap.size, 19, none⟩ (.slice A_4 n_4 k_4)).setCell ⟨w4.heap.size + 1, 4, none⟩ (.int .i64 e4)) _ _ (.slice A_4 n_4 k_4) L4) := ⟨put5_row R4.out (by have := HN0.out; have := HO0.out; have := HO1.out; have := HO2.out; have := HO3.out; have := HO4.out; omega) (by have := HN0.out; have := HO0.out; have := HO1.out; have := HO2.out; have := HO3.out; have := HO4.out; omega)⟩
  rw [← hsz] at R4 HO4
  clear hsz
  have H1_m4 := Aside0.mk (blk_below H1_4.out HS_m4.out)
  have x0 := blk_cell HAu.out 16
  have xf0 := blk_frozen HAu.out 16
  have x1 := blk_cell HAu.out 17
  have xf1 := blk_frozen HAu.out 17
  have x2 := blk_cell HAu.out 18
  have xf2 := blk_frozen HAu.out 18
  have x3 := blk_cell HAu.out 19
  have xf3 := blk_frozen HAu.out 19
  have y0 := blk_cell HEu.out 4
  have yf0 := blk_frozen HEu.out 4
  simp only [List.getElem?_toArray, List.getElem?_cons_zero, List.getElem?_cons_succ] at x0 x1 x2 x3 y0
  have b0 := blk_cell H1_m4.out 0
  have b1 := blk_cell H1_m4.out 1
  have b2 := blk_cell H1_m4.out 2
  have b3 := blk_cell H1_m4.out 3
  simp only [List.getElem?_toArray, List.getElem?_cons_zero, List.getElem?_cons_succ] at b0 b1 b2 b3
  have a0 := blk_cell (Aside0.mk (blk_below H0_4.out HS_m4.out)).out 0
  have a1 := blk_cell (Aside0.mk (blk_below H0_4.out HS_m4.out)).out 1
  have a2 := blk_cell (Aside0.mk (blk_below H0_4.out HS_m4.out)).out 2
  have a3 := blk_cell (Aside0.mk (blk_below H0_4.out HS_m4.out)).out 3
  simp only [List.getElem?_toArray, List.getElem?_cons_zero, List.getElem?_cons_succ] at a0 a1 a2 a3
  go_wp2_with fail
  generalize (((((u4.setCell ⟨w4.heap.size, 16, none⟩ (.int .i64 p4)).setCell ⟨w4.heap.size, 17, none⟩ (.int .i64 q4)).setCell ⟨w4.heap.size, 18, none⟩ (.int .i64 s4)).setCell ⟨w4.heap.size, 19, none⟩ (.slice A_4 n_4 k_4)).setCell ⟨w4.heap.size + 1, 4, none⟩ (.int .i64 e4)) = m4 at HS_m4 HA_m4 HE_m4 H1_m4 HO4 R0 R1 R2 R3 R4 ⊢
  clear HSu HAu HEu x0 x1 x2 x3 y0 xf0 xf1 xf2 xf3 yf0 b0 b1 b2 b3 H1_m4 a0 a1 a2 a3
  refine (stays_calls r c wd A A9 cA c9 l m4 (Kd.C_below HCM.out HS_m4.out) HH.out.2.1 (by have := HL.out; omega) (Kd.C_below HCF.out.2 HS_m4.out) HCF.out.1).mono ?_
  rintro e x1 ⟨rfl, hb⟩
  have HS_x1 := Aside0.mk (below_step HS_m4.out hb)
  have HA_x1 := Aside0.mk (blk_below HA_m4.out hb)
  have HE_x1 := Aside0.mk (blk_below HE_m4.out hb)
  have HZ1 : Aside0 (m4.heap.size ≤ x1.heap.size) := ⟨hb.size⟩
  replace R0 := Aside0.mk (row_below R0.out hb)
  replace R1 := Aside0.mk (row_below R1.out hb)
  replace R2 := Aside0.mk (row_below R2.out hb)
  replace R3 := Aside0.mk (row_below R3.out hb)
  replace R4 := Aside0.mk (row_below R4.out hb)
  clear hb HS_m4 HA_m4 HE_m4
  have a0 := blk_cell (Aside0.mk (blk_below H0_4.out HS_x1.out)).out 0
  have a1 := blk_cell (Aside0.mk (blk_below H0_4.out HS_x1.out)).out 1
  have a2 := blk_cell (Aside0.mk (blk_below H0_4.out HS_x1.out)).out 2
  have a3 := blk_cell (Aside0.mk (blk_below H0_4.out HS_x1.out)).out 3
  simp only [List.getElem?_toArray, List.getElem?_cons_zero, List.getElem?_cons_succ] at a0 a1 a2 a3
  go_wp2_with fail
  refine (pupilref7_Check.calls (2 * (l.length + 1)) r c wd A cA l 0 x1 (Kd.C_below HCM.out HS_x1.out) HH.out.2.1 (by rw [refCheck_eq _ r c wd l (by have := HL.out; omega) (by omega), HE_R.out])).mono ?_
  rintro e x2 ⟨rfl, hb⟩
  have HS_x2 := Aside0.mk (below_step HS_x1.out hb)
  have HA_x2 := Aside0.mk (blk_below HA_x1.out hb)
  have HE_x2 := Aside0.mk (blk_below HE_x1.out hb)
  have HN5 : Aside0 (m4.heap.size ≤ x2.heap.size) := ⟨Nat.le_trans HZ1.out hb.size⟩
  replace R0 := Aside0.mk (row_below R0.out hb)
  replace R1 := Aside0.mk (row_below R1.out hb)
  replace R2 := Aside0.mk (row_below R2.out hb)
  replace R3 := Aside0.mk (row_below R3.out hb)
  replace R4 := Aside0.mk (row_below R4.out hb)
  clear hb HS_x1 HA_x1 HE_x1 HZ1 a0 a1 a2 a3
  obtain ⟨N5, hN5⟩ : ∃ N5, N5 = x2.heap.size := ⟨_, rfl⟩
  have HX_0 : Aside0 (Below x2.heap.size x2 ((x2.alloc (Obj.cells #[Value.int IntKind.i64 0, Value.int IntKind.i64 0, Value.int IntKind.i64 0, Value.slice none 0 0, Value.int IntKind.i64 0, Value.int IntKind.i64 0, Value.int IntKind.i64 0, Value.slice none 0 0, Value.int IntKind.i64 0, Value.int IntKind.i64 0, Value.int IntKind.i64 0, Value.slice none 0 0, Value.int IntKind.i64 0, Value.int IntKind.i64 0, Value.int IntKind.i64 0, Value.slice none 0 0, Value.int IntKind.i64 0, Value.int IntKind.i64 0, Value.int IntKind.i64 0, Value.slice none 0 0] 61)).alloc (Obj.cells #[Value.int IntKind.i64 0, Value.int IntKind.i64 0, Value.int IntKind.i64 0, Value.int IntKind.i64 0, Value.int IntKind.i64 0] 62))) := ⟨below_alloc (below_alloc (Below.refl _ _) _) _⟩
  have HV_0 : Aside0 (IsB ((x2.alloc (Obj.cells #[Value.int IntKind.i64 0, Value.int IntKind.i64 0, Value.int IntKind.i64 0, Value.slice none 0 0, Value.int IntKind.i64 0, Value.int IntKind.i64 0, Value.int IntKind.i64 0, Value.slice none 0 0, Value.int IntKind.i64 0, Value.int IntKind.i64 0, Value.int IntKind.i64 0, Value.slice none 0 0, Value.int IntKind.i64 0, Value.int IntKind.i64 0, Value.int IntKind.i64 0, Value.slice none 0 0, Value.int IntKind.i64 0, Value.int IntKind.i64 0, Value.int IntKind.i64 0, Value.slice none 0 0] 61)).alloc (Obj.cells #[Value.int IntKind.i64 0, Value.int IntKind.i64 0, Value.int IntKind.i64 0, Value.int IntKind.i64 0, Value.int IntKind.i64 0] 62)) N5 #[.int .i64 0, .int .i64 0, .int .i64 0, .slice none 0 0, .int .i64 0, .int .i64 0, .int .i64 0, .slice none 0 0, .int .i64 0, .int .i64 0, .int .i64 0, .slice none 0 0, .int .i64 0, .int .i64 0, .int .i64 0, .slice none 0 0, .int .i64 0, .int .i64 0, .int .i64 0, .slice none 0 0] 61) := ⟨by rw [hN5]; exact blk_alloc (blk_new _ _) _⟩
  have HQ_0 : Aside0 (IsB ((x2.alloc (Obj.cells #[Value.int IntKind.i64 0, Value.int IntKind.i64 0, Value.int IntKind.i64 0, Value.slice none 0 0, Value.int IntKind.i64 0, Value.int IntKind.i64 0, Value.int IntKind.i64 0, Value.slice none 0 0, Value.int IntKind.i64 0, Value.int IntKind.i64 0, Value.int IntKind.i64 0, Value.slice none 0 0, Value.int IntKind.i64 0, Value.int IntKind.i64 0, Value.int IntKind.i64 0, Value.slice none 0 0, Value.int IntKind.i64 0, Value.int IntKind.i64 0, Value.int IntKind.i64 0, Value.slice none 0 0] 61)).alloc (Obj.cells #[Value.int IntKind.i64 0, Value.int IntKind.i64 0, Value.int IntKind.i64 0, Value.int IntKind.i64 0, Value.int IntKind.i64 0] 62)) (N5 + 1) #[.int .i64 0, .int .i64 0, .int .i64 0, .int .i64 0, .int .i64 0] 62) := ⟨by rw [hN5]; exact new1 x2 _ _ 61 62⟩
  have HMI := Aside0.mk (blk_below (blk_below H0_4.out HS_x2.out) HX_0.out)
  have a0 := blk_cell HMI.out 0
  have a1 := blk_cell HMI.out 1
  have a2 := blk_cell HMI.out 2
  have a3 := blk_cell HMI.out 3
  simp only [List.getElem?_toArray, List.getElem?_cons_zero, List.getElem?_cons_succ] at a0 a1 a2 a3
  go_wp2_with fail
  rw [← hN5]
  rw [← hN5] at HN5
  generalize ((x2.alloc (Obj.cells #[Value.int IntKind.i64 0, Value.int IntKind.i64 0, Value.int IntKind.i64 0, Value.slice none 0 0, Value.int IntKind.i64 0, Value.int IntKind.i64 0, Value.int IntKind.i64 0, Value.slice none 0 0, Value.int IntKind.i64 0, Value.int IntKind.i64 0, Value.int IntKind.i64 0, Value.slice none 0 0, Value.int IntKind.i64 0, Value.int IntKind.i64 0, Value.int IntKind.i64 0, Value.slice none 0 0, Value.int IntKind.i64 0, Value.int IntKind.i64 0, Value.int IntKind.i64 0, Value.slice none 0 0] 61)).alloc (Obj.cells #[Value.int IntKind.i64 0, Value.int IntKind.i64 0, Value.int IntKind.i64 0, Value.int IntKind.i64 0, Value.int IntKind.i64 0] 62)) = y0 at HX_0 HV_0 HQ_0 ⊢
  clear a0 a1 a2 a3 HMI
  refine (pupilref7_Of.calls r c wd A cA l r c wd y0 (Kd.C_below HCM.out (below_step HS_x2.out HX_0.out)) HH.out.2.1 (by unfold pupilref7_Of.f; rfl)).mono ?_
  rintro e y1 ⟨rfl, hb⟩
  have HNX : Aside0 (N5 = x2.heap.size) := ⟨hN5⟩
  clear hN5
  have HX_1 := Aside0.mk (below_alloc (below_step HX_0.out hb) (Obj.cells (row3 r c wd) 34))
  have HV_1 := Aside0.mk (blk_alloc (blk_below HV_0.out hb) (Obj.cells (row3 r c wd) 34))
  have HQ_1 := Aside0.mk (blk_alloc (blk_below HQ_0.out hb) (Obj.cells (row3 r c wd) 34))
  have HG_1 := Aside0.mk (blk_new y1 (Obj.cells (row3 r c wd) 34))
  have HGS : Aside0 (N5 + 1 < y1.heap.size) := ⟨blk_lt (blk_below HQ_0.out hb)⟩
  clear hb HX_0 HV_0 HQ_0
  go_wp2_with fail
  generalize y1.alloc (Obj.cells #[Value.int IntKind.i64 r, Value.int IntKind.i64 c, Value.int IntKind.i64 wd] 34) = y2 at HX_1 HV_1 HQ_1 HG_1 ⊢
  generalize y1.heap.size = gS at HG_1 HGS ⊢
  refine (HU0.out y2).mono ?_
  rintro e r0_ ⟨v, rfl, hP, hb⟩
  have Q0 := Aside0.mk (prow_of hP)
  have HXu := Aside0.mk (below_step HX_1.out hb)
  have HVu := Aside0.mk (blk_below HV_1.out hb)
  have HQu := Aside0.mk (blk_below HQ_1.out hb)
  have HGu := Aside0.mk (blk_below HG_1.out hb)
  have HW0 : Aside0 (N5 + 1 < y2.heap.size) := ⟨blk_lt HQ_1.out⟩
  obtain ⟨B_0, y_0, hv⟩ := Kd.R_slice hP
  subst hv
  clear hP hb HX_1 HV_1 HQ_1 HG_1
  have hhk : ∀ k, k ≠ N5 → ((((r0_.setCell ⟨N5, 0, none⟩ (.int .i64 p0)).setCell ⟨N5, 1, none⟩ (.int .i64 q0)).setCell ⟨N5, 2, none⟩ (.int .i64 s0)).setCell ⟨N5, 3, none⟩ (.slice B_0 pl0.length y_0)).heap[k]? = r0_.heap[k]? := fun k hk => by
    rw [Below.heap_setCell _ _ _ k hk, Below.heap_setCell _ _ _ k hk, Below.heap_setCell _ _ _ k hk, Below.heap_setCell _ _ _ k hk]
  have HX_0k : Aside0 (Below x2.heap.size x2 ((((r0_.setCell ⟨N5, 0, none⟩ (.int .i64 p0)).setCell ⟨N5, 1, none⟩ (.int .i64 q0)).setCell ⟨N5, 2, none⟩ (.int .i64 s0)).setCell ⟨N5, 3, none⟩ (.slice B_0 pl0.length y_0))) := ⟨below_set4 HXu.out (by have := HNX.out; omega) _ _ _ _⟩
  have HV_0k : Aside0 (IsB ((((r0_.setCell ⟨N5, 0, none⟩ (.int .i64 p0)).setCell ⟨N5, 1, none⟩ (.int .i64 q0)).setCell ⟨N5, 2, none⟩ (.int .i64 s0)).setCell ⟨N5, 3, none⟩ (.slice B_0 pl0.length y_0)) N5 #[.int .i64 p0, .int .i64 q0, .int .i64 s0, .slice B_0 pl0.length y_0, .int .i64 0, .int .i64 0, .int .i64 0, .slice none 0 0, .int .i64 0, .int .i64 0, .int .i64 0, .slice none 0 0, .int .i64 0, .int .i64 0, .int .i64 0, .slice none 0 0, .int .i64 0, .int .i64 0, .int .i64 0, .slice none 0 0] 61) := ⟨blk_set (blk_set (blk_set (blk_set HVu.out 0 _) 1 _) 2 _) 3 _⟩
  have HQ_0k : Aside0 (IsB ((((r0_.setCell ⟨N5, 0, none⟩ (.int .i64 p0)).setCell ⟨N5, 1, none⟩ (.int .i64 q0)).setCell ⟨N5, 2, none⟩ (.int .i64 s0)).setCell ⟨N5, 3, none⟩ (.slice B_0 pl0.length y_0)) (N5 + 1) #[.int .i64 0, .int .i64 0, .int .i64 0, .int .i64 0, .int .i64 0] 62) := ⟨(hhk _ (by omega)).trans HQu.out⟩
  have HG_0k : Aside0 (IsB ((((r0_.setCell ⟨N5, 0, none⟩ (.int .i64 p0)).setCell ⟨N5, 1, none⟩ (.int .i64 q0)).setCell ⟨N5, 2, none⟩ (.int .i64 s0)).setCell ⟨N5, 3, none⟩ (.slice B_0 pl0.length y_0)) gS (row3 r c wd) 34) := ⟨(hhk _ (by have := HGS.out; omega)).trans HGu.out⟩
  replace Q0 : Aside0 (PRow ((((r0_.setCell ⟨N5, 0, none⟩ (.int .i64 p0)).setCell ⟨N5, 1, none⟩ (.int .i64 q0)).setCell ⟨N5, 2, none⟩ (.int .i64 s0)).setCell ⟨N5, 3, none⟩ (.slice B_0 pl0.length y_0)) _ (.slice B_0 pl0.length y_0) pl0) := ⟨prow_step Q0.out (fun k a _ => hhk k (by have := HW0.out; omega))⟩
  clear hhk
  have x0_ := blk_cell HVu.out 0
  have xf0_ := blk_frozen HVu.out 0
  have x1_ := blk_cell HVu.out 1
  have xf1_ := blk_frozen HVu.out 1
  have x2_ := blk_cell HVu.out 2
  have xf2_ := blk_frozen HVu.out 2
  have x3_ := blk_cell HVu.out 3
  have xf3_ := blk_frozen HVu.out 3
  have z0_ := blk_cell HQu.out 0
  have zf0_ := blk_frozen HQu.out 0
  simp only [List.getElem?_toArray, List.getElem?_cons_zero, List.getElem?_cons_succ] at x0_ x1_ x2_ x3_ z0_
  have b0 := blk_cell HG_0k.out 0
  have b1 := blk_cell HG_0k.out 1
  have b2 := blk_cell HG_0k.out 2
  simp only [List.getElem?_toArray, List.getElem?_cons_zero, List.getElem?_cons_succ] at b0 b1 b2
  go_wp2_with fail
  generalize ((((r0_.setCell ⟨N5, 0, none⟩ (.int .i64 p0)).setCell ⟨N5, 1, none⟩ (.int .i64 q0)).setCell ⟨N5, 2, none⟩ (.int .i64 s0)).setCell ⟨N5, 3, none⟩ (.slice B_0 pl0.length y_0)) = k0_ at HX_0k HV_0k HQ_0k HG_0k Q0 ⊢
  clear HXu HVu HQu HGu x0_ x1_ x2_ x3_ z0_ xf0_ xf1_ xf2_ xf3_ zf0_ b0 b1 b2
  refine (HU1.out k0_).mono ?_
  rintro e r1_ ⟨v, rfl, hP, hb⟩
  have Q1 := Aside0.mk (prow_of hP)
  replace Q0 := Aside0.mk (prow_below Q0.out hb)
  have HXu := Aside0.mk (below_step HX_0k.out hb)
  have HVu := Aside0.mk (blk_below HV_0k.out hb)
  have HQu := Aside0.mk (blk_below HQ_0k.out hb)
  have HGu := Aside0.mk (blk_below HG_0k.out hb)
  have HW1 : Aside0 (N5 + 1 < k0_.heap.size) := ⟨blk_lt HQ_0k.out⟩
  obtain ⟨B_1, y_1, hv⟩ := Kd.R_slice hP
  subst hv
  clear hP hb HX_0k HV_0k HQ_0k HG_0k
  have HX_1k : Aside0 (Below x2.heap.size x2 (((((r1_.setCell ⟨N5, 4, none⟩ (.int .i64 p1)).setCell ⟨N5, 5, none⟩ (.int .i64 q1)).setCell ⟨N5, 6, none⟩ (.int .i64 s1)).setCell ⟨N5, 7, none⟩ (.slice B_1 pl1.length y_1)).setCell ⟨N5 + 1, 1, none⟩ (.int .i64 e1))) := ⟨put5_below HXu.out (by have := HNX.out; omega) (by have := HNX.out; omega)⟩
  have HV_1k : Aside0 (IsB (((((r1_.setCell ⟨N5, 4, none⟩ (.int .i64 p1)).setCell ⟨N5, 5, none⟩ (.int .i64 q1)).setCell ⟨N5, 6, none⟩ (.int .i64 s1)).setCell ⟨N5, 7, none⟩ (.slice B_1 pl1.length y_1)).setCell ⟨N5 + 1, 1, none⟩ (.int .i64 e1)) N5 #[.int .i64 p0, .int .i64 q0, .int .i64 s0, .slice B_0 pl0.length y_0, .int .i64 p1, .int .i64 q1, .int .i64 s1, .slice B_1 pl1.length y_1, .int .i64 0, .int .i64 0, .int .i64 0, .slice none 0 0, .int .i64 0, .int .i64 0, .int .i64 0, .slice none 0 0, .int .i64 0, .int .i64 0, .int .i64 0, .slice none 0 0] 61) := ⟨put5_A HVu.out (by omega) rfl⟩
  have HQ_1k : Aside0 (IsB (((((r1_.setCell ⟨N5, 4, none⟩ (.int .i64 p1)).setCell ⟨N5, 5, none⟩ (.int .i64 q1)).setCell ⟨N5, 6, none⟩ (.int .i64 s1)).setCell ⟨N5, 7, none⟩ (.slice B_1 pl1.length y_1)).setCell ⟨N5 + 1, 1, none⟩ (.int .i64 e1)) (N5 + 1) #[.int .i64 0, .int .i64 e1, .int .i64 0, .int .i64 0, .int .i64 0] 62) := ⟨put5_E HQu.out (by omega) rfl⟩
  have HG_1k : Aside0 (IsB (((((r1_.setCell ⟨N5, 4, none⟩ (.int .i64 p1)).setCell ⟨N5, 5, none⟩ (.int .i64 q1)).setCell ⟨N5, 6, none⟩ (.int .i64 s1)).setCell ⟨N5, 7, none⟩ (.slice B_1 pl1.length y_1)).setCell ⟨N5 + 1, 1, none⟩ (.int .i64 e1)) gS (row3 r c wd) 34) := ⟨put5_far HGu.out (by have := HGS.out; omega) (by have := HGS.out; omega)⟩
  replace Q0 : Aside0 (PRow (((((r1_.setCell ⟨N5, 4, none⟩ (.int .i64 p1)).setCell ⟨N5, 5, none⟩ (.int .i64 q1)).setCell ⟨N5, 6, none⟩ (.int .i64 s1)).setCell ⟨N5, 7, none⟩ (.slice B_1 pl1.length y_1)).setCell ⟨N5 + 1, 1, none⟩ (.int .i64 e1)) _ (.slice B_0 pl0.length y_0) pl0) := ⟨put5_prow Q0.out (by have := HW0.out; omega) (by have := HW0.out; omega)⟩
  replace Q1 : Aside0 (PRow (((((r1_.setCell ⟨N5, 4, none⟩ (.int .i64 p1)).setCell ⟨N5, 5, none⟩ (.int .i64 q1)).setCell ⟨N5, 6, none⟩ (.int .i64 s1)).setCell ⟨N5, 7, none⟩ (.slice B_1 pl1.length y_1)).setCell ⟨N5 + 1, 1, none⟩ (.int .i64 e1)) _ (.slice B_1 pl1.length y_1) pl1) := ⟨put5_prow Q1.out (by have := HW1.out; omega) (by have := HW1.out; omega)⟩
  have x0_ := blk_cell HVu.out 4
  have xf0_ := blk_frozen HVu.out 4
  have x1_ := blk_cell HVu.out 5
  have xf1_ := blk_frozen HVu.out 5
  have x2_ := blk_cell HVu.out 6
  have xf2_ := blk_frozen HVu.out 6
  have x3_ := blk_cell HVu.out 7
  have xf3_ := blk_frozen HVu.out 7
  have z0_ := blk_cell HQu.out 1
  have zf0_ := blk_frozen HQu.out 1
  simp only [List.getElem?_toArray, List.getElem?_cons_zero, List.getElem?_cons_succ] at x0_ x1_ x2_ x3_ z0_
  have b0 := blk_cell HG_1k.out 0
  have b1 := blk_cell HG_1k.out 1
  have b2 := blk_cell HG_1k.out 2
  simp only [List.getElem?_toArray, List.getElem?_cons_zero, List.getElem?_cons_succ] at b0 b1 b2
  go_wp2_with fail
  generalize (((((r1_.setCell ⟨N5, 4, none⟩ (.int .i64 p1)).setCell ⟨N5, 5, none⟩ (.int .i64 q1)).setCell ⟨N5, 6, none⟩ (.int .i64 s1)).setCell ⟨N5, 7, none⟩ (.slice B_1 pl1.length y_1)).setCell ⟨N5 + 1, 1, none⟩ (.int .i64 e1)) = k1_ at HX_1k HV_1k HQ_1k HG_1k Q0 Q1 ⊢
  clear HXu HVu HQu HGu x0_ x1_ x2_ x3_ z0_ xf0_ xf1_ xf2_ xf3_ zf0_ b0 b1 b2
  refine (HU2.out k1_).mono ?_
  rintro e r2_ ⟨v, rfl, hP, hb⟩
  have Q2 := Aside0.mk (prow_of hP)
  replace Q0 := Aside0.mk (prow_below Q0.out hb)
  replace Q1 := Aside0.mk (prow_below Q1.out hb)
  have HXu := Aside0.mk (below_step HX_1k.out hb)
  have HVu := Aside0.mk (blk_below HV_1k.out hb)
  have HQu := Aside0.mk (blk_below HQ_1k.out hb)
  have HGu := Aside0.mk (blk_below HG_1k.out hb)
  have HW2 : Aside0 (N5 + 1 < k1_.heap.size) := ⟨blk_lt HQ_1k.out⟩
  obtain ⟨B_2, y_2, hv⟩ := Kd.R_slice hP
  subst hv
  clear hP hb HX_1k HV_1k HQ_1k HG_1k
  have HX_2k : Aside0 (Below x2.heap.size x2 (((((r2_.setCell ⟨N5, 8, none⟩ (.int .i64 p2)).setCell ⟨N5, 9, none⟩ (.int .i64 q2)).setCell ⟨N5, 10, none⟩ (.int .i64 s2)).setCell ⟨N5, 11, none⟩ (.slice B_2 pl2.length y_2)).setCell ⟨N5 + 1, 2, none⟩ (.int .i64 e2))) := ⟨put5_below HXu.out (by have := HNX.out; omega) (by have := HNX.out; omega)⟩
  have HV_2k : Aside0 (IsB (((((r2_.setCell ⟨N5, 8, none⟩ (.int .i64 p2)).setCell ⟨N5, 9, none⟩ (.int .i64 q2)).setCell ⟨N5, 10, none⟩ (.int .i64 s2)).setCell ⟨N5, 11, none⟩ (.slice B_2 pl2.length y_2)).setCell ⟨N5 + 1, 2, none⟩ (.int .i64 e2)) N5 #[.int .i64 p0, .int .i64 q0, .int .i64 s0, .slice B_0 pl0.length y_0, .int .i64 p1, .int .i64 q1, .int .i64 s1, .slice B_1 pl1.length y_1, .int .i64 p2, .int .i64 q2, .int .i64 s2, .slice B_2 pl2.length y_2, .int .i64 0, .int .i64 0, .int .i64 0, .slice none 0 0, .int .i64 0, .int .i64 0, .int .i64 0, .slice none 0 0] 61) := ⟨put5_A HVu.out (by omega) rfl⟩
  have HQ_2k : Aside0 (IsB (((((r2_.setCell ⟨N5, 8, none⟩ (.int .i64 p2)).setCell ⟨N5, 9, none⟩ (.int .i64 q2)).setCell ⟨N5, 10, none⟩ (.int .i64 s2)).setCell ⟨N5, 11, none⟩ (.slice B_2 pl2.length y_2)).setCell ⟨N5 + 1, 2, none⟩ (.int .i64 e2)) (N5 + 1) #[.int .i64 0, .int .i64 e1, .int .i64 e2, .int .i64 0, .int .i64 0] 62) := ⟨put5_E HQu.out (by omega) rfl⟩
  have HG_2k : Aside0 (IsB (((((r2_.setCell ⟨N5, 8, none⟩ (.int .i64 p2)).setCell ⟨N5, 9, none⟩ (.int .i64 q2)).setCell ⟨N5, 10, none⟩ (.int .i64 s2)).setCell ⟨N5, 11, none⟩ (.slice B_2 pl2.length y_2)).setCell ⟨N5 + 1, 2, none⟩ (.int .i64 e2)) gS (row3 r c wd) 34) := ⟨put5_far HGu.out (by have := HGS.out; omega) (by have := HGS.out; omega)⟩
  replace Q0 : Aside0 (PRow (((((r2_.setCell ⟨N5, 8, none⟩ (.int .i64 p2)).setCell ⟨N5, 9, none⟩ (.int .i64 q2)).setCell ⟨N5, 10, none⟩ (.int .i64 s2)).setCell ⟨N5, 11, none⟩ (.slice B_2 pl2.length y_2)).setCell ⟨N5 + 1, 2, none⟩ (.int .i64 e2)) _ (.slice B_0 pl0.length y_0) pl0) := ⟨put5_prow Q0.out (by have := HW0.out; omega) (by have := HW0.out; omega)⟩
  replace Q1 : Aside0 (PRow (((((r2_.setCell ⟨N5, 8, none⟩ (.int .i64 p2)).setCell ⟨N5, 9, none⟩ (.int .i64 q2)).setCell ⟨N5, 10, none⟩ (.int .i64 s2)).setCell ⟨N5, 11, none⟩ (.slice B_2 pl2.length y_2)).setCell ⟨N5 + 1, 2, none⟩ (.int .i64 e2)) _ (.slice B_1 pl1.length y_1) pl1) := ⟨put5_prow Q1.out (by have := HW1.out; omega) (by have := HW1.out; omega)⟩
  replace Q2 : Aside0 (PRow (((((r2_.setCell ⟨N5, 8, none⟩ (.int .i64 p2)).setCell ⟨N5, 9, none⟩ (.int .i64 q2)).setCell ⟨N5, 10, none⟩ (.int .i64 s2)).setCell ⟨N5, 11, none⟩ (.slice B_2 pl2.length y_2)).setCell ⟨N5 + 1, 2, none⟩ (.int .i64 e2)) _ (.slice B_2 pl2.length y_2) pl2) := ⟨put5_prow Q2.out (by have := HW2.out; omega) (by have := HW2.out; omega)⟩
  have x0_ := blk_cell HVu.out 8
  have xf0_ := blk_frozen HVu.out 8
  have x1_ := blk_cell HVu.out 9
  have xf1_ := blk_frozen HVu.out 9
  have x2_ := blk_cell HVu.out 10
  have xf2_ := blk_frozen HVu.out 10
  have x3_ := blk_cell HVu.out 11
  have xf3_ := blk_frozen HVu.out 11
  have z0_ := blk_cell HQu.out 2
  have zf0_ := blk_frozen HQu.out 2
  simp only [List.getElem?_toArray, List.getElem?_cons_zero, List.getElem?_cons_succ] at x0_ x1_ x2_ x3_ z0_
  have b0 := blk_cell HG_2k.out 0
  have b1 := blk_cell HG_2k.out 1
  have b2 := blk_cell HG_2k.out 2
  simp only [List.getElem?_toArray, List.getElem?_cons_zero, List.getElem?_cons_succ] at b0 b1 b2
  go_wp2_with fail
  generalize (((((r2_.setCell ⟨N5, 8, none⟩ (.int .i64 p2)).setCell ⟨N5, 9, none⟩ (.int .i64 q2)).setCell ⟨N5, 10, none⟩ (.int .i64 s2)).setCell ⟨N5, 11, none⟩ (.slice B_2 pl2.length y_2)).setCell ⟨N5 + 1, 2, none⟩ (.int .i64 e2)) = k2_ at HX_2k HV_2k HQ_2k HG_2k Q0 Q1 Q2 ⊢
  clear HXu HVu HQu HGu x0_ x1_ x2_ x3_ z0_ xf0_ xf1_ xf2_ xf3_ zf0_ b0 b1 b2
  refine (HU3.out k2_).mono ?_
  rintro e r3_ ⟨v, rfl, hP, hb⟩
  have Q3 := Aside0.mk (prow_of hP)
  replace Q0 := Aside0.mk (prow_below Q0.out hb)
  replace Q1 := Aside0.mk (prow_below Q1.out hb)
  replace Q2 := Aside0.mk (prow_below Q2.out hb)
  have HXu := Aside0.mk (below_step HX_2k.out hb)
  have HVu := Aside0.mk (blk_below HV_2k.out hb)
  have HQu := Aside0.mk (blk_below HQ_2k.out hb)
  have HGu := Aside0.mk (blk_below HG_2k.out hb)
  have HW3 : Aside0 (N5 + 1 < k2_.heap.size) := ⟨blk_lt HQ_2k.out⟩
  obtain ⟨B_3, y_3, hv⟩ := Kd.R_slice hP
  subst hv
  clear hP hb HX_2k HV_2k HQ_2k HG_2k
  have HX_3k : Aside0 (Below x2.heap.size x2 (((((r3_.setCell ⟨N5, 12, none⟩ (.int .i64 p3)).setCell ⟨N5, 13, none⟩ (.int .i64 q3)).setCell ⟨N5, 14, none⟩ (.int .i64 s3)).setCell ⟨N5, 15, none⟩ (.slice B_3 pl3.length y_3)).setCell ⟨N5 + 1, 3, none⟩ (.int .i64 e3))) := ⟨put5_below HXu.out (by have := HNX.out; omega) (by have := HNX.out; omega)⟩
  have HV_3k : Aside0 (IsB (((((r3_.setCell ⟨N5, 12, none⟩ (.int .i64 p3)).setCell ⟨N5, 13, none⟩ (.int .i64 q3)).setCell ⟨N5, 14, none⟩ (.int .i64 s3)).setCell ⟨N5, 15, none⟩ (.slice B_3 pl3.length y_3)).setCell ⟨N5 + 1, 3, none⟩ (.int .i64 e3)) N5 #[.int .i64 p0, .int .i64 q0, .int .i64 s0, .slice B_0 pl0.length y_0, .int .i64 p1, .int .i64 q1, .int .i64 s1, .slice B_1 pl1.length y_1, .int .i64 p2, .int .i64 q2, .int .i64 s2, .slice B_2 pl2.length y_2, .int .i64 p3, .int .i64 q3, .int .i64 s3, .slice B_3 pl3.length y_3, .int .i64 0, .int .i64 0, .int .i64 0, .slice none 0 0] 61) := ⟨put5_A HVu.out (by omega) rfl⟩
  have HQ_3k : Aside0 (IsB (((((r3_.setCell ⟨N5, 12, none⟩ (.int .i64 p3)).setCell ⟨N5, 13, none⟩ (.int .i64 q3)).setCell ⟨N5, 14, none⟩ (.int .i64 s3)).setCell ⟨N5, 15, none⟩ (.slice B_3 pl3.length y_3)).setCell ⟨N5 + 1, 3, none⟩ (.int .i64 e3)) (N5 + 1) #[.int .i64 0, .int .i64 e1, .int .i64 e2, .int .i64 e3, .int .i64 0] 62) := ⟨put5_E HQu.out (by omega) rfl⟩
  have HG_3k : Aside0 (IsB (((((r3_.setCell ⟨N5, 12, none⟩ (.int .i64 p3)).setCell ⟨N5, 13, none⟩ (.int .i64 q3)).setCell ⟨N5, 14, none⟩ (.int .i64 s3)).setCell ⟨N5, 15, none⟩ (.slice B_3 pl3.length y_3)).setCell ⟨N5 + 1, 3, none⟩ (.int .i64 e3)) gS (row3 r c wd) 34) := ⟨put5_far HGu.out (by have := HGS.out; omega) (by have := HGS.out; omega)⟩
  replace Q0 : Aside0 (PRow (((((r3_.setCell ⟨N5, 12, none⟩ (.int .i64 p3)).setCell ⟨N5, 13, none⟩ (.int .i64 q3)).setCell ⟨N5, 14, none⟩ (.int .i64 s3)).setCell ⟨N5, 15, none⟩ (.slice B_3 pl3.length y_3)).setCell ⟨N5 + 1, 3, none⟩ (.int .i64 e3)) _ (.slice B_0 pl0.length y_0) pl0) := ⟨put5_prow Q0.out (by have := HW0.out; omega) (by have := HW0.out; omega)⟩
  replace Q1 : Aside0 (PRow (((((r3_.setCell ⟨N5, 12, none⟩ (.int .i64 p3)).setCell ⟨N5, 13, none⟩ (.int .i64 q3)).setCell ⟨N5, 14, none⟩ (.int .i64 s3)).setCell ⟨N5, 15, none⟩ (.slice B_3 pl3.length y_3)).setCell ⟨N5 + 1, 3, none⟩ (.int .i64 e3)) _ (.slice B_1 pl1.length y_1) pl1) := ⟨put5_prow Q1.out (by have := HW1.out; omega) (by have := HW1.out; omega)⟩
  replace Q2 : Aside0 (PRow (((((r3_.setCell ⟨N5, 12, none⟩ (.int .i64 p3)).setCell ⟨N5, 13, none⟩ (.int .i64 q3)).setCell ⟨N5, 14, none⟩ (.int .i64 s3)).setCell ⟨N5, 15, none⟩ (.slice B_3 pl3.length y_3)).setCell ⟨N5 + 1, 3, none⟩ (.int .i64 e3)) _ (.slice B_2 pl2.length y_2) pl2) := ⟨put5_prow Q2.out (by have := HW2.out; omega) (by have := HW2.out; omega)⟩
  replace Q3 : Aside0 (PRow (((((r3_.setCell ⟨N5, 12, none⟩ (.int .i64 p3)).setCell ⟨N5, 13, none⟩ (.int .i64 q3)).setCell ⟨N5, 14, none⟩ (.int .i64 s3)).setCell ⟨N5, 15, none⟩ (.slice B_3 pl3.length y_3)).setCell ⟨N5 + 1, 3, none⟩ (.int .i64 e3)) _ (.slice B_3 pl3.length y_3) pl3) := ⟨put5_prow Q3.out (by have := HW3.out; omega) (by have := HW3.out; omega)⟩
  have x0_ := blk_cell HVu.out 12
  have xf0_ := blk_frozen HVu.out 12
  have x1_ := blk_cell HVu.out 13
  have xf1_ := blk_frozen HVu.out 13
  have x2_ := blk_cell HVu.out 14
  have xf2_ := blk_frozen HVu.out 14
  have x3_ := blk_cell HVu.out 15
  have xf3_ := blk_frozen HVu.out 15
  have z0_ := blk_cell HQu.out 3
  have zf0_ := blk_frozen HQu.out 3
  simp only [List.getElem?_toArray, List.getElem?_cons_zero, List.getElem?_cons_succ] at x0_ x1_ x2_ x3_ z0_
  have b0 := blk_cell HG_3k.out 0
  have b1 := blk_cell HG_3k.out 1
  have b2 := blk_cell HG_3k.out 2
  simp only [List.getElem?_toArray, List.getElem?_cons_zero, List.getElem?_cons_succ] at b0 b1 b2
  go_wp2_with fail
  generalize (((((r3_.setCell ⟨N5, 12, none⟩ (.int .i64 p3)).setCell ⟨N5, 13, none⟩ (.int .i64 q3)).setCell ⟨N5, 14, none⟩ (.int .i64 s3)).setCell ⟨N5, 15, none⟩ (.slice B_3 pl3.length y_3)).setCell ⟨N5 + 1, 3, none⟩ (.int .i64 e3)) = k3_ at HX_3k HV_3k HQ_3k HG_3k Q0 Q1 Q2 Q3 ⊢
  clear HXu HVu HQu HGu x0_ x1_ x2_ x3_ z0_ xf0_ xf1_ xf2_ xf3_ zf0_ b0 b1 b2
  refine (HU4.out k3_).mono ?_
  rintro e r4_ ⟨v, rfl, hP, hb⟩
  have Q4 := Aside0.mk (prow_of hP)
  replace Q0 := Aside0.mk (prow_below Q0.out hb)
  replace Q1 := Aside0.mk (prow_below Q1.out hb)
  replace Q2 := Aside0.mk (prow_below Q2.out hb)
  replace Q3 := Aside0.mk (prow_below Q3.out hb)
  have HXu := Aside0.mk (below_step HX_3k.out hb)
  have HVu := Aside0.mk (blk_below HV_3k.out hb)
  have HQu := Aside0.mk (blk_below HQ_3k.out hb)
  have HGu := Aside0.mk (blk_below HG_3k.out hb)
  have HW4 : Aside0 (N5 + 1 < k3_.heap.size) := ⟨blk_lt HQ_3k.out⟩
  obtain ⟨B_4, y_4, hv⟩ := Kd.R_slice hP
  subst hv
  clear hP hb HX_3k HV_3k HQ_3k HG_3k
  have HX_4k : Aside0 (Below x2.heap.size x2 (((((r4_.setCell ⟨N5, 16, none⟩ (.int .i64 p4)).setCell ⟨N5, 17, none⟩ (.int .i64 q4)).setCell ⟨N5, 18, none⟩ (.int .i64 s4)).setCell ⟨N5, 19, none⟩ (.slice B_4 pl4.length y_4)).setCell ⟨N5 + 1, 4, none⟩ (.int .i64 e4))) := ⟨put5_below HXu.out (by have := HNX.out; omega) (by have := HNX.out; omega)⟩
  have HV_4k : Aside0 (IsB (((((r4_.setCell ⟨N5, 16, none⟩ (.int .i64 p4)).setCell ⟨N5, 17, none⟩ (.int .i64 q4)).setCell ⟨N5, 18, none⟩ (.int .i64 s4)).setCell ⟨N5, 19, none⟩ (.slice B_4 pl4.length y_4)).setCell ⟨N5 + 1, 4, none⟩ (.int .i64 e4)) N5 #[.int .i64 p0, .int .i64 q0, .int .i64 s0, .slice B_0 pl0.length y_0, .int .i64 p1, .int .i64 q1, .int .i64 s1, .slice B_1 pl1.length y_1, .int .i64 p2, .int .i64 q2, .int .i64 s2, .slice B_2 pl2.length y_2, .int .i64 p3, .int .i64 q3, .int .i64 s3, .slice B_3 pl3.length y_3, .int .i64 p4, .int .i64 q4, .int .i64 s4, .slice B_4 pl4.length y_4] 61) := ⟨put5_A HVu.out (by omega) rfl⟩
  have HQ_4k : Aside0 (IsB (((((r4_.setCell ⟨N5, 16, none⟩ (.int .i64 p4)).setCell ⟨N5, 17, none⟩ (.int .i64 q4)).setCell ⟨N5, 18, none⟩ (.int .i64 s4)).setCell ⟨N5, 19, none⟩ (.slice B_4 pl4.length y_4)).setCell ⟨N5 + 1, 4, none⟩ (.int .i64 e4)) (N5 + 1) #[.int .i64 0, .int .i64 e1, .int .i64 e2, .int .i64 e3, .int .i64 e4] 62) := ⟨put5_E HQu.out (by omega) rfl⟩
  have HG_4k : Aside0 (IsB (((((r4_.setCell ⟨N5, 16, none⟩ (.int .i64 p4)).setCell ⟨N5, 17, none⟩ (.int .i64 q4)).setCell ⟨N5, 18, none⟩ (.int .i64 s4)).setCell ⟨N5, 19, none⟩ (.slice B_4 pl4.length y_4)).setCell ⟨N5 + 1, 4, none⟩ (.int .i64 e4)) gS (row3 r c wd) 34) := ⟨put5_far HGu.out (by have := HGS.out; omega) (by have := HGS.out; omega)⟩
  replace Q0 : Aside0 (PRow (((((r4_.setCell ⟨N5, 16, none⟩ (.int .i64 p4)).setCell ⟨N5, 17, none⟩ (.int .i64 q4)).setCell ⟨N5, 18, none⟩ (.int .i64 s4)).setCell ⟨N5, 19, none⟩ (.slice B_4 pl4.length y_4)).setCell ⟨N5 + 1, 4, none⟩ (.int .i64 e4)) _ (.slice B_0 pl0.length y_0) pl0) := ⟨put5_prow Q0.out (by have := HW0.out; omega) (by have := HW0.out; omega)⟩
  replace Q1 : Aside0 (PRow (((((r4_.setCell ⟨N5, 16, none⟩ (.int .i64 p4)).setCell ⟨N5, 17, none⟩ (.int .i64 q4)).setCell ⟨N5, 18, none⟩ (.int .i64 s4)).setCell ⟨N5, 19, none⟩ (.slice B_4 pl4.length y_4)).setCell ⟨N5 + 1, 4, none⟩ (.int .i64 e4)) _ (.slice B_1 pl1.length y_1) pl1) := ⟨put5_prow Q1.out (by have := HW1.out; omega) (by have := HW1.out; omega)⟩
  replace Q2 : Aside0 (PRow (((((r4_.setCell ⟨N5, 16, none⟩ (.int .i64 p4)).setCell ⟨N5, 17, none⟩ (.int .i64 q4)).setCell ⟨N5, 18, none⟩ (.int .i64 s4)).setCell ⟨N5, 19, none⟩ (.slice B_4 pl4.length y_4)).setCell ⟨N5 + 1, 4, none⟩ (.int .i64 e4)) _ (.slice B_2 pl2.length y_2) pl2) := ⟨put5_prow Q2.out (by have := HW2.out; omega) (by have := HW2.out; omega)⟩
  replace Q3 : Aside0 (PRow (((((r4_.setCell ⟨N5, 16, none⟩ (.int .i64 p4)).setCell ⟨N5, 17, none⟩ (.int .i64 q4)).setCell ⟨N5, 18, none⟩ (.int .i64 s4)).setCell ⟨N5, 19, none⟩ (.slice B_4 pl4.length y_4)).setCell ⟨N5 + 1, 4, none⟩ (.int .i64 e4)) _ (.slice B_3 pl3.length y_3) pl3) := ⟨put5_prow Q3.out (by have := HW3.out; omega) (by have := HW3.out; omega)⟩
  replace Q4 : Aside0 (PRow (((((r4_.setCell ⟨N5, 16, none⟩ (.int .i64 p4)).setCell ⟨N5, 17, none⟩ (.int .i64 q4)).setCell ⟨N5, 18, none⟩ (.int .i64 s4)).setCell ⟨N5, 19, none⟩ (.slice B_4 pl4.length y_4)).setCell ⟨N5 + 1, 4, none⟩ (.int .i64 e4)) _ (.slice B_4 pl4.length y_4) pl4) := ⟨put5_prow Q4.out (by have := HW4.out; omega) (by have := HW4.out; omega)⟩
  have x0_ := blk_cell HVu.out 16
  have xf0_ := blk_frozen HVu.out 16
  have x1_ := blk_cell HVu.out 17
  have xf1_ := blk_frozen HVu.out 17
  have x2_ := blk_cell HVu.out 18
  have xf2_ := blk_frozen HVu.out 18
  have x3_ := blk_cell HVu.out 19
  have xf3_ := blk_frozen HVu.out 19
  have z0_ := blk_cell HQu.out 4
  have zf0_ := blk_frozen HQu.out 4
  simp only [List.getElem?_toArray, List.getElem?_cons_zero, List.getElem?_cons_succ] at x0_ x1_ x2_ x3_ z0_
  have b0 := blk_cell HG_4k.out 0
  have b1 := blk_cell HG_4k.out 1
  have b2 := blk_cell HG_4k.out 2
  simp only [List.getElem?_toArray, List.getElem?_cons_zero, List.getElem?_cons_succ] at b0 b1 b2
  go_wp2
  generalize (((((r4_.setCell ⟨N5, 16, none⟩ (.int .i64 p4)).setCell ⟨N5, 17, none⟩ (.int .i64 q4)).setCell ⟨N5, 18, none⟩ (.int .i64 s4)).setCell ⟨N5, 19, none⟩ (.slice B_4 pl4.length y_4)).setCell ⟨N5 + 1, 4, none⟩ (.int .i64 e4)) = wL at HX_4k HV_4k HQ_4k HG_4k Q0 Q1 Q2 Q3 Q4 ⊢
  clear HXu HVu HQu HGu x0_ x1_ x2_ x3_ z0_ xf0_ xf1_ xf2_ xf3_ zf0_ b0 b1 b2
  have HC : Aside0 (Com w4 wL N5 #[.int .i64 p0, .int .i64 q0, .int .i64 s0, .slice A_0 n_0 k_0, .int .i64 p1, .int .i64 q1, .int .i64 s1, .slice A_1 n_1 k_1, .int .i64 p2, .int .i64 q2, .int .i64 s2, .slice A_2 n_2 k_2, .int .i64 p3, .int .i64 q3, .int .i64 s3, .slice A_3 n_3 k_3, .int .i64 p4, .int .i64 q4, .int .i64 s4, .slice A_4 n_4 k_4] #[.int .i64 e0, .int .i64 e1, .int .i64 e2, .int .i64 e3, .int .i64 e4] wL) := ⟨blk_below HA_x2.out HX_4k.out, blk_below HE_x2.out HX_4k.out, below_step HS_x2.out HX_4k.out, Nat.le_refl _, fun k _ _ => rfl⟩
  have HNL_ : Aside0 (N5 + 1 < wL.heap.size) := ⟨blk_lt HQ_4k.out⟩
  replace R0 := Aside0.mk (row_below R0.out HX_4k.out)
  replace R1 := Aside0.mk (row_below R1.out HX_4k.out)
  replace R2 := Aside0.mk (row_below R2.out HX_4k.out)
  replace R3 := Aside0.mk (row_below R3.out HX_4k.out)
  replace R4 := Aside0.mk (row_below R4.out HX_4k.out)
  obtain ⟨D, hD⟩ : ∃ D : Nat → MD, D = fun i => [MD.mk p0 q0 s0 e0 A_0 n_0 k_0 L0 p0 q0 s0 0 B_0 pl0.length y_0 w5.heap.size m0.heap.size, MD.mk p1 q1 s1 e1 A_1 n_1 k_1 L1 p1 q1 s1 e1 B_1 pl1.length y_1 m0.heap.size m1.heap.size, MD.mk p2 q2 s2 e2 A_2 n_2 k_2 L2 p2 q2 s2 e2 B_2 pl2.length y_2 m1.heap.size m2.heap.size, MD.mk p3 q3 s3 e3 A_3 n_3 k_3 L3 p3 q3 s3 e3 B_3 pl3.length y_3 m2.heap.size m3.heap.size, MD.mk p4 q4 s4 e4 A_4 n_4 k_4 L4 p4 q4 s4 e4 B_4 pl4.length y_4 m3.heap.size m4.heap.size].getD i (MD.mk 0 0 0 0 none 0 0 [] 0 0 0 0 none 0 0 0 0) := ⟨_, rfl⟩
  have HMS : Aside0 (MSet D w4 wL N5 #[.int .i64 p0, .int .i64 q0, .int .i64 s0, .slice A_0 n_0 k_0, .int .i64 p1, .int .i64 q1, .int .i64 s1, .slice A_1 n_1 k_1, .int .i64 p2, .int .i64 q2, .int .i64 s2, .slice A_2 n_2 k_2, .int .i64 p3, .int .i64 q3, .int .i64 s3, .slice A_3 n_3 k_3, .int .i64 p4, .int .i64 q4, .int .i64 s4, .slice A_4 n_4 k_4] #[.int .i64 e0, .int .i64 e1, .int .i64 e2, .int .i64 e3, .int .i64 e4] (.agg #[.int .i64 r, .int .i64 c, .int .i64 wd, .slice A l.length cA])) := ⟨by
    subst hD
    refine ⟨fun W h => arr_cells _ _ _ (fun i => .slice _ _ _) h, fun W h => row_cells _ h, fun W h => arr_cells _ _ _ (fun i => .slice _ _ _) (com_V h HV_4k.out (Nat.le_refl _)), fun W h => row_cells _ (com_V h HQ_4k.out (Nat.le_succ _)), ?_, ?_, ?_, ?_⟩
    · intro i hi W hB hK
      rcases i with _ | _ | _ | _ | _ | i
      · have hq := prow_reads (prow_step Q0.out (fun k a b => hK k (by have := HW0.out; omega) b))
        have hmv := mv_call r c wd A cA l e0 p0 q0 s0 pl0 L0 B_0 y_0 W (Kd.C_below HCM.out hB) HH.out.2.1 (by have := HL.out; omega) HH.out.2.2 HE_R.out HF0.out HM0.out hq.2 hq.1
        have h0 := HE0.out
        subst h0
        exact hmv
      · have hq := prow_reads (prow_step Q1.out (fun k a b => hK k (by have := HW1.out; omega) b))
        have hmv := mv_call r c wd A cA l e1 p1 q1 s1 pl1 L1 B_1 y_1 W (Kd.C_below HCM.out hB) HH.out.2.1 (by have := HL.out; omega) HH.out.2.2 HE_R.out HF1.out HM1.out hq.2 hq.1
        exact hmv
      · have hq := prow_reads (prow_step Q2.out (fun k a b => hK k (by have := HW2.out; omega) b))
        have hmv := mv_call r c wd A cA l e2 p2 q2 s2 pl2 L2 B_2 y_2 W (Kd.C_below HCM.out hB) HH.out.2.1 (by have := HL.out; omega) HH.out.2.2 HE_R.out HF2.out HM2.out hq.2 hq.1
        exact hmv
      · have hq := prow_reads (prow_step Q3.out (fun k a b => hK k (by have := HW3.out; omega) b))
        have hmv := mv_call r c wd A cA l e3 p3 q3 s3 pl3 L3 B_3 y_3 W (Kd.C_below HCM.out hB) HH.out.2.1 (by have := HL.out; omega) HH.out.2.2 HE_R.out HF3.out HM3.out hq.2 hq.1
        exact hmv
      · have hq := prow_reads (prow_step Q4.out (fun k a b => hK k (by have := HW4.out; omega) b))
        have hmv := mv_call r c wd A cA l e4 p4 q4 s4 pl4 L4 B_4 y_4 W (Kd.C_below HCM.out hB) HH.out.2.1 (by have := HL.out; omega) HH.out.2.2 HE_R.out HF4.out HM4.out hq.2 hq.1
        exact hmv
      · omega
    · intro j hj
      rcases j with _ | _ | _ | _ | _ | j
      · exact ⟨by have := HN0.out; have := HO0.out; have := HO1.out; have := HO2.out; have := HO3.out; have := HO4.out; have := HN5.out; simp only [Nat.zero_add, Nat.reduceAdd, List.getD_cons_zero, List.getD_cons_succ]; omega, by have := HN0.out; have := HO0.out; have := HO1.out; have := HO2.out; have := HO3.out; have := HO4.out; have := HN5.out; simp only [Nat.zero_add, Nat.reduceAdd, List.getD_cons_zero, List.getD_cons_succ]; omega, HNL0.out, HLL0.out⟩
      · exact ⟨by have := HN0.out; have := HO0.out; have := HO1.out; have := HO2.out; have := HO3.out; have := HO4.out; have := HN5.out; simp only [Nat.zero_add, Nat.reduceAdd, List.getD_cons_zero, List.getD_cons_succ]; omega, by have := HN0.out; have := HO0.out; have := HO1.out; have := HO2.out; have := HO3.out; have := HO4.out; have := HN5.out; simp only [Nat.zero_add, Nat.reduceAdd, List.getD_cons_zero, List.getD_cons_succ]; omega, HNL1.out, HLL1.out⟩
      · exact ⟨by have := HN0.out; have := HO0.out; have := HO1.out; have := HO2.out; have := HO3.out; have := HO4.out; have := HN5.out; simp only [Nat.zero_add, Nat.reduceAdd, List.getD_cons_zero, List.getD_cons_succ]; omega, by have := HN0.out; have := HO0.out; have := HO1.out; have := HO2.out; have := HO3.out; have := HO4.out; have := HN5.out; simp only [Nat.zero_add, Nat.reduceAdd, List.getD_cons_zero, List.getD_cons_succ]; omega, HNL2.out, HLL2.out⟩
      · exact ⟨by have := HN0.out; have := HO0.out; have := HO1.out; have := HO2.out; have := HO3.out; have := HO4.out; have := HN5.out; simp only [Nat.zero_add, Nat.reduceAdd, List.getD_cons_zero, List.getD_cons_succ]; omega, by have := HN0.out; have := HO0.out; have := HO1.out; have := HO2.out; have := HO3.out; have := HO4.out; have := HN5.out; simp only [Nat.zero_add, Nat.reduceAdd, List.getD_cons_zero, List.getD_cons_succ]; omega, HNL3.out, HLL3.out⟩
      · exact ⟨by have := HN0.out; have := HO0.out; have := HO1.out; have := HO2.out; have := HO3.out; have := HO4.out; have := HN5.out; simp only [Nat.zero_add, Nat.reduceAdd, List.getD_cons_zero, List.getD_cons_succ]; omega, by have := HN0.out; have := HO0.out; have := HO1.out; have := HO2.out; have := HO3.out; have := HO4.out; have := HN5.out; simp only [Nat.zero_add, Nat.reduceAdd, List.getD_cons_zero, List.getD_cons_succ]; omega, HNL4.out, HLL4.out⟩
      · omega
    · intro i j hij hj
      have := HN0.out
      have := HO0.out
      have := HO1.out
      have := HO2.out
      have := HO3.out
      have := HO4.out
      have := HN5.out
      rcases j with _ | _ | _ | _ | _ | j <;> rcases i with _ | _ | _ | _ | _ | i <;> first | omega | (simp only [Nat.zero_add, Nat.reduceAdd, List.getD_cons_zero, List.getD_cons_succ]; omega)
    · have h1 := HNL_.out
      have := HN0.out
      have := HO0.out
      have := HO1.out
      have := HO2.out
      have := HO3.out
      have := HO4.out
      have := HN5.out
      exact ⟨by omega, by omega⟩⟩
  have HRW0 : Aside0 (MRows D 0 wL) := ⟨by
    subst hD
    intro j h1 h2
    rcases j with _ | _ | _ | _ | _ | j
    · exact R0.out
    · exact R1.out
    · exact R2.out
    · exact R3.out
    · exact R4.out
    · omega⟩
  clear hD
  generalize (#[.int .i64 p0, .int .i64 q0, .int .i64 s0, .slice A_0 n_0 k_0, .int .i64 p1, .int .i64 q1, .int .i64 s1, .slice A_1 n_1 k_1, .int .i64 p2, .int .i64 q2, .int .i64 s2, .slice A_2 n_2 k_2, .int .i64 p3, .int .i64 q3, .int .i64 s3, .slice A_3 n_3 k_3, .int .i64 p4, .int .i64 q4, .int .i64 s4, .slice A_4 n_4 k_4] : Array Value) = ga at HMS HC
  generalize (#[.int .i64 e0, .int .i64 e1, .int .i64 e2, .int .i64 e3, .int .i64 e4] : Array Value) = ge at HMS HC
  go_loopg [16] 5 (fun kq vo w_ => ∃ i : Nat, vo = .int .i64 i ∧ Aside0 (i + kq = 5) ∧ Aside0 (MRows D i w_) ∧ Aside0 (Com w4 wL N5 ga ge w_))
  case atStart => exact ⟨0, rfl, ⟨by omega⟩, HRW0, HC⟩
  case round =>
    clear HRW0 HC
    obtain ⟨i, rfl, HKK, HRW, HC⟩ := hrel
    by_cases hlt : i < 5
    · have d1 : decide ((i : Int) < 5) = true := decide_eq_true (by omega)
      have di := eq_true (show (i : Int) < 5 by omega)
      have di2 := eq_true hlt
      have HMV := Aside0.mk (HMS.out.calls i hlt)
      have HMVC : Aside0 (∀ W, Com w4 wL N5 ga ge W → _) := ⟨fun W h => HMS.out.mov W h i hlt⟩
      have HMFC : Aside0 (∀ W, Com w4 wL N5 ga ge W → _) := ⟨fun W h => HMS.out.fal W h i hlt⟩
      have HMGC : Aside0 (∀ W, IsB W w4.heap.size ga 55 → _) := ⟨fun W h => HMS.out.got W h i hlt⟩
      have HMEC : Aside0 (∀ W, IsB W (w4.heap.size + 1) ge 56 → _) := ⟨fun W h => HMS.out.err W h i hlt⟩
      have HROW : Aside0 (∀ W, MRows D i W → Row W (D i).lo (D i).hi (.slice (D i).A (D i).n (D i).k) (D i).L) := ⟨fun W h => h i (Nat.le_refl _) hlt⟩
      have HMK := Aside0.mk (And.intro (HMS.out.mark i hlt).1 (And.intro (HMS.out.mark i hlt).2.1 (HMS.out.mark i hlt).2.2.2))
      have HNLL := Aside0.mk (HMS.out.mark i hlt).2.2.1
      have HMH : Aside0 (∀ j, i + 1 ≤ j → j < 5 → (D i).hi ≤ (D j).lo) := ⟨fun j h1 h2 => HMS.out.apart i j h1 h2⟩
      generalize D i = Di at HMV HMVC HMFC HMGC HMEC HROW HMK HNLL HMH
      obtain ⟨p_, q_, s_, e_, A_, n_, k_, L_, a_, b_, d_, f_, B_, x_, y_, lo_, hi_⟩ := Di
      dsimp only at HMV HMVC HMFC HMGC HMEC HROW HMK HNLL HMH
      have HMI := Aside0.mk (blk_below H0_4.out HC.out.2.2.1)
      obtain ⟨v0_, v1_, v2_, v3_⟩ := HMVC.out _ HC.out
      have f0_ := HMFC.out _ HC.out
      have a0 := blk_cell HMI.out 0
      have a1 := blk_cell HMI.out 1
      have a2 := blk_cell HMI.out 2
      have a3 := blk_cell HMI.out 3
      simp only [List.getElem?_toArray, List.getElem?_cons_zero, List.getElem?_cons_succ] at a0 a1 a2 a3
      go_wp2
      refine start_ (n := 14) (S := fun w' => w'.cell? ⟨w.heap.size, 0, none⟩ = some (.int .i64 r) ∧ w'.cell? ⟨w.heap.size, 1, none⟩ = some (.int .i64 c) ∧ w'.cell? ⟨w.heap.size, 2, none⟩ = some (.int .i64 wd) ∧ w'.cell? ⟨w.heap.size, 3, none⟩ = some (.slice A l.length cA) ∧ w'.cell? ⟨N5, i * 4, none⟩ = some (.int .i64 a_) ∧ w'.cell? ⟨N5, i * 4 + 1, none⟩ = some (.int .i64 b_) ∧ w'.cell? ⟨N5, i * 4 + 2, none⟩ = some (.int .i64 d_) ∧ w'.cell? ⟨N5, i * 4 + 3, none⟩ = some (.slice B_ x_ y_) ∧ w'.cell? ⟨N5 + 1, i, none⟩ = some (.int .i64 f_)) (ds := [12]) #[false, false, false, false, false, false, false, false, false, false, false, false, false, false] (by kernel_rfl) rfl rfl ⟨a0, a1, a2, a3, v0_, v1_, v2_, v3_, f0_⟩ (fun hHeld => ?_)
      refine with_tabW F7Rtab28 F7Rbits28 (fun HT_ HW_ => ?_)
      refine pure_ (i := 1) (N := some 134) (v := ?_) (a' := ?_) #[false, true, false, false, false, false, false, false, false, false, false, false, false, false] rfl rfl (any_of HT_.out (by kernel_rfl)) (fun _ _ _ h => h) (Or.inl ⟨by rfl, ?_⟩) ?_ ?_
      rotate_left
      · intro w'
        go_simp
        with_reducible rfl
      rotate_left
      · simp only [Act.put, List.setIfInBounds_toArray, List.set_cons_zero, List.set_cons_succ, i64_w, i32_w]
        rfl
      refine pure_ (i := 2) (N := some 135) (v := ?_) (a' := ?_) #[false, true, true, false, false, false, false, false, false, false, false, false, false, false] rfl rfl (any_of HT_.out (by kernel_rfl)) (fun _ _ _ h => h) (Or.inl ⟨by rfl, ?_⟩) ?_ ?_
      rotate_left
      · intro w'
        go_simp
        with_reducible rfl
      rotate_left
      · simp only [Act.put, List.setIfInBounds_toArray, List.set_cons_zero, List.set_cons_succ, i64_w, i32_w]
        rfl
      refine pure_ (i := 4) (N := some 137) (v := ?_) (a' := ?_) #[false, true, true, false, true, false, false, false, false, false, false, false, false, false] rfl rfl (any_of HT_.out (by kernel_rfl)) (fun _ _ _ h => h) (Or.inl ⟨by rfl, ?_⟩) ?_ ?_
      rotate_left
      · intro w'
        go_simp
        with_reducible rfl
      rotate_left
      · simp only [Act.put, List.setIfInBounds_toArray, List.set_cons_zero, List.set_cons_succ, i64_w, i32_w]
        rfl
      refine pure_ (i := 5) (N := some 138) (v := ?_) (a' := ?_) #[false, true, true, false, true, true, false, false, false, false, false, false, false, false] rfl rfl (any_of HT_.out (by kernel_rfl)) (fun _ _ _ h => h) (Or.inl ⟨by rfl, ?_⟩) ?_ ?_
      rotate_left
      · intro w'
        go_simp
        with_reducible rfl
      rotate_left
      · simp only [Act.put, List.setIfInBounds_toArray, List.set_cons_zero, List.set_cons_succ, i64_w, i32_w]
        rfl
      refine take_ (i := 0) (N := some 133) (v := ?_) (a' := ?_) #[true, true, true, false, true, true, false, false, false, false, false, false, false, false] rfl rfl (take_ofW HT_.out HW_.out (by kernel_rfl)) (fun _ _ _ h => h) (Or.inl ⟨by rfl, ?_⟩) hHeld ?_ ?_
      rotate_left
      · rintro w' ⟨s0, s1, s2, s3, s4, s5, s6, s7, s8⟩
        go_simp
        with_reducible rfl
      rotate_left
      · simp only [Act.put, List.setIfInBounds_toArray, List.set_cons_zero, List.set_cons_succ, i64_w, i32_w]
        rfl
      refine take_ (i := 3) (N := some 136) (v := ?_) (a' := ?_) #[true, true, true, true, true, true, false, false, false, false, false, false, false, false] rfl rfl (take_ofW HT_.out HW_.out (by kernel_rfl)) (fun _ _ _ h => h) (Or.inl ⟨by rfl, ?_⟩) hHeld ?_ ?_
      rotate_left
      · rintro w' ⟨s0, s1, s2, s3, s4, s5, s6, s7, s8⟩
        go_simp
        with_reducible rfl
      rotate_left
      · simp only [Act.put, List.setIfInBounds_toArray, List.set_cons_zero, List.set_cons_succ, i64_w, i32_w]
        rfl
      refine take_ (i := 6) (N := some 139) (v := ?_) (a' := ?_) #[true, true, true, true, true, true, true, false, false, false, false, false, false, false] rfl rfl (take_ofW HT_.out HW_.out (by kernel_rfl)) (fun _ _ _ h => h) (Or.inl ⟨by rfl, ?_⟩) hHeld ?_ ?_
      rotate_left
      · rintro w' ⟨s0, s1, s2, s3, s4, s5, s6, s7, s8⟩
        go_simp
        with_reducible rfl
      rotate_left
      · simp only [Act.put, List.setIfInBounds_toArray, List.set_cons_zero, List.set_cons_succ, i64_w, i32_w]
        rfl
      refine join_ (σ := Value × Nat) 2 #[true, true, true, true, true, true, true, true, true, true, true, true, false, false] (fun t_ => [(140, .tuple #[.agg #[.int .i64 p_, .int .i64 q_, .int .i64 s_, t_.1], .int .i64 e_]), (17, .pointer (some ⟨t_.2, 0, none⟩)), (132, .tuple #[.agg #[.int .i64 p_, .int .i64 q_, .int .i64 s_, t_.1], .int .i64 e_]), (141, .agg #[.int .i64 p_, .int .i64 q_, .int .i64 s_, t_.1]), (142, .int .i64 e_)]) (fun t_ w' => (w'.cell? ⟨w.heap.size, 0, none⟩ = some (.int .i64 r) ∧ w'.cell? ⟨w.heap.size, 1, none⟩ = some (.int .i64 c) ∧ w'.cell? ⟨w.heap.size, 2, none⟩ = some (.int .i64 wd) ∧ w'.cell? ⟨w.heap.size, 3, none⟩ = some (.slice A l.length cA) ∧ w'.cell? ⟨N5, i * 4, none⟩ = some (.int .i64 a_) ∧ w'.cell? ⟨N5, i * 4 + 1, none⟩ = some (.int .i64 b_) ∧ w'.cell? ⟨N5, i * 4 + 2, none⟩ = some (.int .i64 d_) ∧ w'.cell? ⟨N5, i * 4 + 3, none⟩ = some (.slice B_ x_ y_) ∧ w'.cell? ⟨N5 + 1, i, none⟩ = some (.int .i64 f_)) ∧ Com w4 wL N5 ga ge w' ∧ Below wr.heap.size wr w' ∧ IsB w' t_.2 (row4 0 0 0 (.slice none 0 0)) 25 ∧ Ints wr w' t_.1 L_ ∧ wr.heap.size ≤ t_.2) ?_ ?_
      rotate_left
      · intro hCont
        refine two_ (i := 7) (j := 11) (Ni := some 140) (Nj := some 17) #[true, true, true, true, true, true, true, true, false, false, false, false, false, false] #[true, true, true, true, true, true, true, false, false, false, false, true, false, false] rfl rfl rfl rfl (two_of HT_.out (by kernel_rfl)) (by decide) (by decide) (fun K hK => ?_) (fun K hK => ?_)
        · skip
          refine goes_ Try.func42 (by kernel_rfl) rfl #[.agg #[.int .i64 r, .int .i64 c, .int .i64 wd, .slice A l.length cA], .agg #[.int .i64 a_, .int .i64 b_, .int .i64 d_, .slice B_ x_ y_], .int .i64 f_] (by rfl) rfl rfl (by simp only [List.map_toArray, List.map_cons, List.map_nil]; rfl) ?_
          refine (HMV.out _ (Below.drew HC.out.2.2.1) (fun k h1 h2 => HC.out.2.2.2.2 k h1 h2)).mono ?_
          rintro e z1 ⟨v, rfl, hP, hb⟩
          refine ⟨_, rfl, ?_⟩
          have hbz : Below wr.heap.size wr z1 := below_step (Below.drew (Below.refl _ _)) hb
          have HC1 := Aside0.mk (com_below HC.out hbz)
          have HMI1 := Aside0.mk (blk_below H0_4.out HC1.out.2.2.1)
          have a0 := blk_cell HMI1.out 0
          have a1 := blk_cell HMI1.out 1
          have a2 := blk_cell HMI1.out 2
          have a3 := blk_cell HMI1.out 3
          simp only [List.getElem?_toArray, List.getElem?_cons_zero, List.getElem?_cons_succ] at a0 a1 a2 a3
          obtain ⟨v0_, v1_, v2_, v3_⟩ := HMVC.out _ HC1.out
          have f0_ := HMFC.out _ HC1.out
          refine hK.out _ _ ⟨a0, a1, a2, a3, v0_, v1_, v2_, v3_, f0_⟩ (fun hHeld => ?_)
          clear hK K
          refine norm_ (a' := ?_) ?_ ?_
          rotate_left
          · show Act.put _ (some 140) _ = _
            simp only [Act.put, List.setIfInBounds_toArray, List.set_cons_zero, List.set_cons_succ, i64_w, i32_w]
            rfl
          refine pure_ (i := 8) (N := some 132) (v := ?_) (a' := ?_) #[true, true, true, true, true, true, true, true, true, false, false, false, false, false] rfl rfl (any_of HT_.out (by kernel_rfl)) (fun _ _ _ h => h) (Or.inl ⟨by rfl, ?_⟩) ?_ ?_
          rotate_left
          · intro w'
            go_simp
            with_reducible rfl
          rotate_left
          · simp only [Act.put, List.setIfInBounds_toArray, List.set_cons_zero, List.set_cons_succ, i64_w, i32_w]
            rfl
          refine pure_ (i := 9) (N := some 141) (v := ?_) (a' := ?_) #[true, true, true, true, true, true, true, true, true, true, false, false, false, false] rfl rfl (any_of HT_.out (by kernel_rfl)) (fun _ _ _ h => h) (Or.inl ⟨by rfl, ?_⟩) ?_ ?_
          rotate_left
          · intro w'
            go_simp
            with_reducible rfl
          rotate_left
          · simp only [Act.put, List.setIfInBounds_toArray, List.set_cons_zero, List.set_cons_succ, i64_w, i32_w]
            rfl
          refine pure_ (i := 10) (N := some 142) (v := ?_) (a' := ?_) #[true, true, true, true, true, true, true, true, true, true, true, false, false, false] rfl rfl (any_of HT_.out (by kernel_rfl)) (fun _ _ _ h => h) (Or.inl ⟨by rfl, ?_⟩) ?_ ?_
          rotate_left
          · intro w'
            go_simp
            with_reducible rfl
          rotate_left
          · simp only [Act.put, List.setIfInBounds_toArray, List.set_cons_zero, List.set_cons_succ, i64_w, i32_w]
            rfl
          refine one_ (i := 11) (N := some 17) #[true, true, true, true, true, true, true, true, true, true, true, true, false, false] rfl rfl (one_of HT_.out (by kernel_rfl)) (by decide) (fun K hK => ?_)
          refine value_ (w1 := ?_) (v := ?_) (by rfl) rfl ?_ ?_
          rotate_left 2
          · go_simp
            constructor
            · rfl
            · rfl
          have HC1a := Aside0.mk (com_below HC1.out (below_alloc (Below.refl _ _) (Obj.cells (row4 0 0 0 (.slice none 0 0)) 25)))
          have HMI1 := Aside0.mk (blk_below H0_4.out HC1a.out.2.2.1)
          have a0 := blk_cell HMI1.out 0
          have a1 := blk_cell HMI1.out 1
          have a2 := blk_cell HMI1.out 2
          have a3 := blk_cell HMI1.out 3
          simp only [List.getElem?_toArray, List.getElem?_cons_zero, List.getElem?_cons_succ] at a0 a1 a2 a3
          obtain ⟨v0_, v1_, v2_, v3_⟩ := HMVC.out _ HC1a.out
          have f0_ := HMFC.out _ HC1a.out
          refine hK.out _ _ ⟨a0, a1, a2, a3, v0_, v1_, v2_, v3_, f0_⟩ (fun hHeld => ?_)
          clear hK K
          refine norm_ (a' := ?_) ?_ ?_
          rotate_left
          · show Act.put _ (some 17) _ = _
            simp only [Act.put, List.setIfInBounds_toArray, List.set_cons_zero, List.set_cons_succ, i64_w, i32_w]
            rfl
          exact norm_ (by simp only [putAll, Act.put, List.setIfInBounds_toArray, List.set_cons_zero, List.set_cons_succ]) (hCont (v, z1.heap.size) _ ⟨hHeld, HC1a.out, below_alloc hbz _, blk_new _ _, Kd.R_alloc hP _, hbz.size⟩)
        · skip
          refine value_ (w1 := ?_) (v := ?_) (by rfl) rfl ?_ ?_
          rotate_left 2
          · go_simp
            constructor
            · rfl
            · rfl
          have HC1 := Aside0.mk (com_below HC.out (show Below wr.heap.size wr (wr.drew.alloc (Obj.cells (row4 0 0 0 (.slice none 0 0)) 25)) from below_alloc (Below.drew (Below.refl _ _)) _))
          have HMI1 := Aside0.mk (blk_below H0_4.out HC1.out.2.2.1)
          have a0 := blk_cell HMI1.out 0
          have a1 := blk_cell HMI1.out 1
          have a2 := blk_cell HMI1.out 2
          have a3 := blk_cell HMI1.out 3
          simp only [List.getElem?_toArray, List.getElem?_cons_zero, List.getElem?_cons_succ] at a0 a1 a2 a3
          obtain ⟨v0_, v1_, v2_, v3_⟩ := HMVC.out _ HC1.out
          have f0_ := HMFC.out _ HC1.out
          refine hK.out _ _ ⟨a0, a1, a2, a3, v0_, v1_, v2_, v3_, f0_⟩ (fun hHeld => ?_)
          clear hK K
          refine norm_ (a' := ?_) ?_ ?_
          rotate_left
          · show Act.put _ (some 17) _ = _
            simp only [Act.put, List.setIfInBounds_toArray, List.set_cons_zero, List.set_cons_succ, i64_w, i32_w]
            rfl
          refine one_ (i := 7) (N := some 140) #[true, true, true, true, true, true, true, true, false, false, false, true, false, false] rfl rfl (one_of HT_.out (by kernel_rfl)) (by decide) (fun K hK => ?_)
          refine goes_ Try.func42 (by kernel_rfl) rfl #[.agg #[.int .i64 r, .int .i64 c, .int .i64 wd, .slice A l.length cA], .agg #[.int .i64 a_, .int .i64 b_, .int .i64 d_, .slice B_ x_ y_], .int .i64 f_] (by rfl) rfl rfl (by simp only [List.map_toArray, List.map_cons, List.map_nil]; rfl) ?_
          refine (HMV.out (wr.drew.alloc (Obj.cells (row4 0 0 0 (.slice none 0 0)) 25)) HC1.out.2.2.1 (fun k h1 h2 => HC1.out.2.2.2.2 k h1 h2)).mono ?_
          rintro e z1 ⟨v, rfl, hP, hb⟩
          refine ⟨_, rfl, ?_⟩
          have HC1a := Aside0.mk (com_below HC1.out hb)
          have HMI1 := Aside0.mk (blk_below H0_4.out HC1a.out.2.2.1)
          have a0 := blk_cell HMI1.out 0
          have a1 := blk_cell HMI1.out 1
          have a2 := blk_cell HMI1.out 2
          have a3 := blk_cell HMI1.out 3
          simp only [List.getElem?_toArray, List.getElem?_cons_zero, List.getElem?_cons_succ] at a0 a1 a2 a3
          obtain ⟨v0_, v1_, v2_, v3_⟩ := HMVC.out _ HC1a.out
          have f0_ := HMFC.out _ HC1a.out
          refine hK.out _ _ ⟨a0, a1, a2, a3, v0_, v1_, v2_, v3_, f0_⟩ (fun hHeld => ?_)
          clear hK K
          refine norm_ (a' := ?_) ?_ ?_
          rotate_left
          · show Act.put _ (some 140) _ = _
            simp only [Act.put, List.setIfInBounds_toArray, List.set_cons_zero, List.set_cons_succ, i64_w, i32_w]
            rfl
          refine pure_ (i := 8) (N := some 132) (v := ?_) (a' := ?_) #[true, true, true, true, true, true, true, true, true, false, false, true, false, false] rfl rfl (any_of HT_.out (by kernel_rfl)) (fun _ _ _ h => h) (Or.inl ⟨by rfl, ?_⟩) ?_ ?_
          rotate_left
          · intro w'
            go_simp
            with_reducible rfl
          rotate_left
          · simp only [Act.put, List.setIfInBounds_toArray, List.set_cons_zero, List.set_cons_succ, i64_w, i32_w]
            rfl
          refine pure_ (i := 9) (N := some 141) (v := ?_) (a' := ?_) #[true, true, true, true, true, true, true, true, true, true, false, true, false, false] rfl rfl (any_of HT_.out (by kernel_rfl)) (fun _ _ _ h => h) (Or.inl ⟨by rfl, ?_⟩) ?_ ?_
          rotate_left
          · intro w'
            go_simp
            with_reducible rfl
          rotate_left
          · simp only [Act.put, List.setIfInBounds_toArray, List.set_cons_zero, List.set_cons_succ, i64_w, i32_w]
            rfl
          refine pure_ (i := 10) (N := some 142) (v := ?_) (a' := ?_) #[true, true, true, true, true, true, true, true, true, true, true, true, false, false] rfl rfl (any_of HT_.out (by kernel_rfl)) (fun _ _ _ h => h) (Or.inl ⟨by rfl, ?_⟩) ?_ ?_
          rotate_left
          · intro w'
            go_simp
            with_reducible rfl
          rotate_left
          · simp only [Act.put, List.setIfInBounds_toArray, List.set_cons_zero, List.set_cons_succ, i64_w, i32_w]
            rfl
          exact norm_ (by simp only [putAll, Act.put, List.setIfInBounds_toArray, List.set_cons_zero, List.set_cons_succ]) (hCont (v, wr.heap.size) _ ⟨hHeld, HC1a.out, below_step (below_alloc (Below.drew (Below.refl _ _)) _) hb, blk_below (blk_new wr.drew _) hb, Kd.R_lower hP (by show wr.heap.size ≤ (wr.drew.alloc _).heap.size; rw [World.size_alloc]; exact Nat.le_succ _), Nat.le_refl _⟩)
      rintro ⟨v, gw⟩ z2 ⟨hS_, hC2, hZ2, hI2, hP2, hge⟩
      have HC2 := Aside0.mk hC2
      have HZ2 := Aside0.mk hZ2
      have HI2 := Aside0.mk hI2
      have HGE := Aside0.mk hge
      obtain ⟨AW, kW, hv, hleW, hCW⟩ := Kd.R_reads hP2
      rw [← HNLL.out] at hv
      subst hv
      have HP2 := Aside0.mk hP2
      have HW := Aside0.mk (And.intro hleW hCW)
      have o0 := blk_cell hI2 0
      have o1 := blk_cell hI2 1
      have o2 := blk_cell hI2 2
      have o3 := blk_cell hI2 3
      simp only [List.getElem?_toArray, List.getElem?_cons_zero, List.getElem?_cons_succ] at o0 o1 o2 o3
      have of0 := blk_frozen hI2 0
      have of1 := blk_frozen hI2 1
      have of2 := blk_frozen hI2 2
      have of3 := blk_frozen hI2 3
      have hHeld : z2.cell? ⟨w.heap.size, 0, none⟩ = some (.int .i64 r) ∧ z2.cell? ⟨w.heap.size, 1, none⟩ = some (.int .i64 c) ∧ z2.cell? ⟨w.heap.size, 2, none⟩ = some (.int .i64 wd) ∧ z2.cell? ⟨w.heap.size, 3, none⟩ = some (.slice A l.length cA) ∧ z2.cell? ⟨N5, i * 4, none⟩ = some (.int .i64 a_) ∧ z2.cell? ⟨N5, i * 4 + 1, none⟩ = some (.int .i64 b_) ∧ z2.cell? ⟨N5, i * 4 + 2, none⟩ = some (.int .i64 d_) ∧ z2.cell? ⟨N5, i * 4 + 3, none⟩ = some (.slice B_ x_ y_) ∧ z2.cell? ⟨N5 + 1, i, none⟩ = some (.int .i64 f_) := hS_
      clear hC2 hZ2 hI2 hP2 hge hleW hCW
      refine norm_ (a' := ?_) ?_ ?_
      rotate_left
      · simp only [putAll, Act.put, List.setIfInBounds_toArray, List.set_cons_zero, List.set_cons_succ]
        rfl
      refine last_ (i := 12) (N := none) #[true, true, true, true, true, true, true, true, true, true, true, true, true, false] rfl rfl (one_of HT_.out (by kernel_rfl)) (by decide) (fun K hK => ?_)
      refine skip_ (w1 := ?_) (by rfl) rfl ?_ ?_
      rotate_left
      · go_simp
        rfl
      refine hK.out _ _ ?_
      clear hK K
      refine pure_ (i := 13) (N := some 18) (v := ?_) (a' := ?_) #[true, true, true, true, true, true, true, true, true, true, true, true, true, true] rfl rfl (any_of HT_.out (by kernel_rfl)) (fun _ _ _ h => h) (Or.inl ⟨by rfl, ?_⟩) ?_ ?_
      rotate_left
      · intro w'
        go_simp
        with_reducible rfl
      rotate_left
      · simp only [Act.put, List.setIfInBounds_toArray, List.set_cons_zero, List.set_cons_succ, i64_w, i32_w]
        rfl
      refine done_ (done_of HT_.out (by kernel_rfl)) ?_
      have HGW : Aside0 (wL.heap.size ≤ gw ∧ w4.heap.size + 1 < gw ∧ N5 < gw) := ⟨by have h1 := HGE.out; have h2 := HC.out.2.2.2.1; have h3 := HMS.out.room; omega⟩
      have HC3 : Aside0 (Com w4 wL N5 ga ge ((((z2.setCell ⟨gw, 0, none⟩ (.int .i64 p_)).setCell ⟨gw, 1, none⟩ (.int .i64 q_)).setCell ⟨gw, 2, none⟩ (.int .i64 s_)).setCell ⟨gw, 3, none⟩ (.slice AW n_ kW))) := ⟨com_set4 HC2.out HGW.out.1 HGW.out.2.1⟩
      have HI3 : Aside0 (IsB ((((z2.setCell ⟨gw, 0, none⟩ (.int .i64 p_)).setCell ⟨gw, 1, none⟩ (.int .i64 q_)).setCell ⟨gw, 2, none⟩ (.int .i64 s_)).setCell ⟨gw, 3, none⟩ (.slice AW n_ kW)) gw (row4 p_ q_ s_ (.slice AW n_ kW)) 25) := ⟨isB_set4 HI2.out _ _ _ _⟩
      have HP3 : Aside0 (Ints wr ((((z2.setCell ⟨gw, 0, none⟩ (.int .i64 p_)).setCell ⟨gw, 1, none⟩ (.int .i64 q_)).setCell ⟨gw, 2, none⟩ (.int .i64 s_)).setCell ⟨gw, 3, none⟩ (.slice AW n_ kW)) (.slice AW n_ kW) L_) := ⟨R_set4 HP2.out HI2.out (by decide) _ _ _ _⟩
      have HRW3 : Aside0 (MRows D i ((((z2.setCell ⟨gw, 0, none⟩ (.int .i64 p_)).setCell ⟨gw, 1, none⟩ (.int .i64 q_)).setCell ⟨gw, 2, none⟩ (.int .i64 s_)).setCell ⟨gw, 3, none⟩ (.slice AW n_ kW))) := ⟨fun j h1 h2 => row_set4 (row_below (HRW.out j h1 h2) HZ2.out) (by have := (HMS.out.mark j h2).2.1; have := HGW.out; omega)⟩
      clear hHeld o0 o1 o2 o3 of0 of1 of2 of3 a0 a1 a2 a3 v0_ v1_ v2_ v3_ f0_
      generalize ((((z2.setCell ⟨gw, 0, none⟩ (.int .i64 p_)).setCell ⟨gw, 1, none⟩ (.int .i64 q_)).setCell ⟨gw, 2, none⟩ (.int .i64 s_)).setCell ⟨gw, 3, none⟩ (.slice AW n_ kW)) = z3 at HC3 HI3 HP3 HRW3 ⊢
      obtain ⟨g0, g1, g2, g3⟩ := HMGC.out _ HC3.out.1
      have w0_ := HMEC.out _ HC3.out.2.1
      have o0 := blk_cell HI3.out 0
      have o1 := blk_cell HI3.out 1
      have o2 := blk_cell HI3.out 2
      have o3 := blk_cell HI3.out 3
      simp only [List.getElem?_toArray, List.getElem?_cons_zero, List.getElem?_cons_succ] at o0 o1 o2 o3
      go_wp2
      refine start_ (n := 14) (S := fun w' => w'.cell? ⟨w4.heap.size + 1, i, none⟩ = some (.int .i64 e_) ∧ w'.cell? ⟨w4.heap.size, i * 4, none⟩ = some (.int .i64 p_) ∧ w'.cell? ⟨w4.heap.size, i * 4 + 1, none⟩ = some (.int .i64 q_) ∧ w'.cell? ⟨w4.heap.size, i * 4 + 2, none⟩ = some (.int .i64 s_) ∧ w'.cell? ⟨w4.heap.size, i * 4 + 3, none⟩ = some (.slice A_ n_ k_) ∧ w'.cell? ⟨gw, 0, none⟩ = some (.int .i64 p_) ∧ w'.cell? ⟨gw, 1, none⟩ = some (.int .i64 q_) ∧ w'.cell? ⟨gw, 2, none⟩ = some (.int .i64 s_) ∧ w'.cell? ⟨gw, 3, none⟩ = some (.slice AW n_ kW)) (ds := []) #[false, false, false, false, false, false, false, false, false, false, false, false, false, false] (by kernel_rfl) rfl rfl ⟨w0_, g0, g1, g2, g3, o0, o1, o2, o3⟩ (fun hHeld => ?_)
      refine with_tabW F7Rtab29 F7Rbits29 (fun HT_ HW_ => ?_)
      refine pure_ (i := 0) (N := some 143) (v := ?_) (a' := ?_) #[true, false, false, false, false, false, false, false, false, false, false, false, false, false] rfl rfl (any_of HT_.out (by kernel_rfl)) (fun _ _ _ h => h) (Or.inl ⟨by rfl, ?_⟩) ?_ ?_
      rotate_left
      · intro w'
        go_simp
        with_reducible rfl
      rotate_left
      · simp only [Act.put, List.setIfInBounds_toArray, List.set_cons_zero, List.set_cons_succ, i64_w, i32_w]
        rfl
      refine pure_ (i := 1) (N := some 144) (v := ?_) (a' := ?_) #[true, true, false, false, false, false, false, false, false, false, false, false, false, false] rfl rfl (any_of HT_.out (by kernel_rfl)) (fun _ _ _ h => h) (Or.inl ⟨by rfl, ?_⟩) ?_ ?_
      rotate_left
      · intro w'
        go_simp
        with_reducible rfl
      rotate_left
      · simp only [Act.put, List.setIfInBounds_toArray, List.set_cons_zero, List.set_cons_succ, i64_w, i32_w]
        rfl
      refine pure_ (i := 4) (N := some 147) (v := ?_) (a' := ?_) #[true, true, false, false, true, false, false, false, false, false, false, false, false, false] rfl rfl (any_of HT_.out (by kernel_rfl)) (fun _ _ _ h => h) (Or.inl ⟨by rfl, ?_⟩) ?_ ?_
      rotate_left
      · intro w'
        go_simp
        with_reducible rfl
      rotate_left
      · simp only [Act.put, List.setIfInBounds_toArray, List.set_cons_zero, List.set_cons_succ, i64_w, i32_w]
        rfl
      refine take_ (i := 2) (N := some 145) (v := ?_) (a' := ?_) #[true, true, true, false, true, false, false, false, false, false, false, false, false, false] rfl rfl (take_ofW HT_.out HW_.out (by kernel_rfl)) (fun _ _ _ h => h) (Or.inl ⟨by rfl, ?_⟩) hHeld ?_ ?_
      rotate_left
      · rintro w' ⟨s0, s1, s2, s3, s4, s5, s6, s7, s8⟩
        go_simp
        with_reducible rfl
      rotate_left
      · simp only [Act.put, List.setIfInBounds_toArray, List.set_cons_zero, List.set_cons_succ, i64_w, i32_w]
        rfl
      refine one_ (i := 3) (N := some 146) #[true, true, true, true, true, false, false, false, false, false, false, false, false, false] rfl rfl (one_of HT_.out (by kernel_rfl)) (by decide) (fun K hK => ?_)
      refine goes_ Try.func15 (by kernel_rfl) rfl #[.int .i64 e_] (by rfl) rfl rfl (by simp only [List.map_toArray, List.map_cons, List.map_nil]; rfl) ?_
      with_reducible refine (pupillaw7_num.calls e_ e_ _ rfl).mono ?_
      rintro e z4 ⟨rfl, hb⟩
      refine ⟨_, rfl, ?_⟩
      have hbz : Below z3.heap.size z3 z4 := below_step (Below.drew (Below.refl _ _)) hb.below
      have HC4 := Aside0.mk (com_below HC3.out hbz)
      have HI4 := Aside0.mk (blk_below HI3.out hbz)
      have HP4 := Aside0.mk (Kd.R_below HP3.out hbz)
      have HRW4 : Aside0 (MRows D i z4) := ⟨fun j h1 h2 => row_below (HRW3.out j h1 h2) hbz⟩
      obtain ⟨g0, g1, g2, g3⟩ := HMGC.out _ HC4.out.1
      have w0_ := HMEC.out _ HC4.out.2.1
      have o0 := blk_cell HI4.out 0
      have o1 := blk_cell HI4.out 1
      have o2 := blk_cell HI4.out 2
      have o3 := blk_cell HI4.out 3
      simp only [List.getElem?_toArray, List.getElem?_cons_zero, List.getElem?_cons_succ] at o0 o1 o2 o3
      refine hK.out _ _ ⟨w0_, g0, g1, g2, g3, o0, o1, o2, o3⟩ (fun hHeld => ?_)
      clear hK K
      refine norm_ (a' := ?_) ?_ ?_
      rotate_left
      · show Act.put _ (some 146) _ = _
        simp only [Act.put, List.setIfInBounds_toArray, List.set_cons_zero, List.set_cons_succ, i64_w, i32_w]
        rfl
      refine pure_ (i := 5) (N := some 148) (v := ?_) (a' := ?_) #[true, true, true, true, true, true, false, false, false, false, false, false, false, false] rfl rfl (any_of HT_.out (by kernel_rfl)) (fun _ _ _ h => h) (Or.inl ⟨by rfl, ?_⟩) ?_ ?_
      rotate_left
      · intro w'
        go_simp
        with_reducible rfl
      rotate_left
      · simp only [Act.put, List.setIfInBounds_toArray, List.set_cons_zero, List.set_cons_succ, i64_w, i32_w]
        rfl
      refine pure_ (i := 6) (N := some 149) (v := ?_) (a' := ?_) #[true, true, true, true, true, true, true, false, false, false, false, false, false, false] rfl rfl (any_of HT_.out (by kernel_rfl)) (fun _ _ _ h => h) (Or.inl ⟨by rfl, ?_⟩) ?_ ?_
      rotate_left
      · intro w'
        go_simp
        with_reducible rfl
      rotate_left
      · simp only [Act.put, List.setIfInBounds_toArray, List.set_cons_zero, List.set_cons_succ, i64_w, i32_w]
        rfl
      refine pure_ (i := 7) (N := some 150) (v := ?_) (a' := ?_) #[true, true, true, true, true, true, true, true, false, false, false, false, false, false] rfl rfl (any_of HT_.out (by kernel_rfl)) (fun _ _ _ h => h) (Or.inl ⟨by rfl, ?_⟩) ?_ ?_
      rotate_left
      · intro w'
        go_simp
        with_reducible rfl
      rotate_left
      · simp only [Act.put, List.setIfInBounds_toArray, List.set_cons_zero, List.set_cons_succ, i64_w, i32_w]
        rfl
      refine pure_ (i := 8) (N := some 151) (v := ?_) (a' := ?_) #[true, true, true, true, true, true, true, true, true, false, false, false, false, false] rfl rfl (any_of HT_.out (by kernel_rfl)) (fun _ _ _ h => h) (Or.inl ⟨by rfl, ?_⟩) ?_ ?_
      rotate_left
      · intro w'
        go_simp
        with_reducible rfl
      rotate_left
      · simp only [Act.put, List.setIfInBounds_toArray, List.set_cons_zero, List.set_cons_succ, i64_w, i32_w]
        rfl
      refine take_ (i := 9) (N := some 152) (v := ?_) (a' := ?_) #[true, true, true, true, true, true, true, true, true, true, false, false, false, false] rfl rfl (take_ofW HT_.out HW_.out (by kernel_rfl)) (fun _ _ _ h => h) (Or.inl ⟨by rfl, ?_⟩) hHeld ?_ ?_
      rotate_left
      · rintro w' ⟨s0, s1, s2, s3, s4, s5, s6, s7, s8⟩
        go_simp
        with_reducible rfl
      rotate_left
      · simp only [Act.put, List.setIfInBounds_toArray, List.set_cons_zero, List.set_cons_succ, i64_w, i32_w]
        rfl
      refine take_ (i := 10) (N := some 153) (v := ?_) (a' := ?_) #[true, true, true, true, true, true, true, true, true, true, true, false, false, false] rfl rfl (take_ofW HT_.out HW_.out (by kernel_rfl)) (fun _ _ _ h => h) (Or.inl ⟨by rfl, ?_⟩) hHeld ?_ ?_
      rotate_left
      · rintro w' ⟨s0, s1, s2, s3, s4, s5, s6, s7, s8⟩
        go_simp
        with_reducible rfl
      rotate_left
      · simp only [Act.put, List.setIfInBounds_toArray, List.set_cons_zero, List.set_cons_succ, i64_w, i32_w]
        rfl
      refine one_ (i := 11) (N := some 154) #[true, true, true, true, true, true, true, true, true, true, true, true, false, false] rfl rfl (one_of HT_.out (by kernel_rfl)) (by decide) (fun K hK => ?_)
      have hrr := row_reads (HROW.out _ HRW4.out)
      have HX := pupillaw7_Exact.calls (L_.length.succ + 1) p_ q_ s_ A_ k_ L_ p_ q_ s_ AW kW L_ true z4 hrr.2.2 hrr.2.1 (row_reads (row_of_ints HP4.out)).2.2 HW.out.1 (exact_self L_.length.succ _ _ _ L_ (by have := HMK.out.2.2; omega) (by omega))
      rw [← HNLL.out] at HX
      refine goes_ Try.func16 (by kernel_rfl) rfl #[.agg #[.int .i64 p_, .int .i64 q_, .int .i64 s_, .slice A_ n_ k_], .agg #[.int .i64 p_, .int .i64 q_, .int .i64 s_, .slice AW n_ kW]] (by rfl) rfl rfl (by simp only [List.map_toArray, List.map_cons, List.map_nil]; rfl) ?_
      refine HX.mono ?_
      clear HX hrr
      rintro e z5 ⟨rfl, hb⟩
      refine ⟨_, rfl, ?_⟩
      have HC5 := Aside0.mk (com_below HC4.out hb)
      have HI5 := Aside0.mk (blk_below HI4.out hb)
      have HRW5 : Aside0 (MRows D i z5) := ⟨fun j h1 h2 => row_below (HRW4.out j h1 h2) hb⟩
      obtain ⟨g0, g1, g2, g3⟩ := HMGC.out _ HC5.out.1
      have w0_ := HMEC.out _ HC5.out.2.1
      have o0 := blk_cell HI5.out 0
      have o1 := blk_cell HI5.out 1
      have o2 := blk_cell HI5.out 2
      have o3 := blk_cell HI5.out 3
      simp only [List.getElem?_toArray, List.getElem?_cons_zero, List.getElem?_cons_succ] at o0 o1 o2 o3
      refine hK.out _ _ ⟨w0_, g0, g1, g2, g3, o0, o1, o2, o3⟩ (fun hHeld => ?_)
      clear hK K
      refine norm_ (a' := ?_) ?_ ?_
      rotate_left
      · show Act.put _ (some 154) _ = _
        simp only [Act.put, List.setIfInBounds_toArray, List.set_cons_zero, List.set_cons_succ, i64_w, i32_w]
        rfl
      refine pure_ (i := 12) (N := some 155) (v := ?_) (a' := ?_) #[true, true, true, true, true, true, true, true, true, true, true, true, true, false] rfl rfl (any_of HT_.out (by kernel_rfl)) (fun _ _ _ h => h) (Or.inl ⟨by rfl, ?_⟩) ?_ ?_
      rotate_left
      · intro w'
        go_simp
        with_reducible rfl
      rotate_left
      · simp only [Act.put, List.setIfInBounds_toArray, List.set_cons_zero, List.set_cons_succ, i64_w, i32_w]
        rfl
      refine pure_ (i := 13) (N := some 156) (v := ?_) (a' := ?_) #[true, true, true, true, true, true, true, true, true, true, true, true, true, true] rfl rfl (any_of HT_.out (by kernel_rfl)) (fun _ _ _ h => h) (Or.inl ⟨by rfl, ?_⟩) ?_ ?_
      rotate_left
      · intro w'
        go_simp
        with_reducible rfl
      rotate_left
      · simp only [Act.put, List.setIfInBounds_toArray, List.set_cons_zero, List.set_cons_succ, i64_w, i32_w]
        rfl
      refine done_ (done_of HT_.out (by kernel_rfl)) ?_
      go_wp2_with fail
      have hsp := spoil_calls p_ q_ s_ A_ k_ L_ w4 z5 (by rw [← HNLL.out]; exact row_ints (HROW.out _ HRW5.out) (by have := HMK.out.1; omega)) HC5.out.2.2.1 (by have := HMK.out.2.2; omega)
      rw [← HNLL.out] at hsp
      refine hsp.mono ?_
      rintro e z6 ⟨uu, rfl, hS6, hk6⟩
      clear hsp hHeld
      have HC6 := Aside0.mk (com_spoil HC5.out (HROW.out _ HRW5.out) HMK.out.1 HMK.out.2.1 HMS.out.room.1 hS6 hk6)
      have HRW6 : Aside0 (MRows D (i + 1) z6) := ⟨fun j h1 h2 => row_spoil (HRW5.out j (by omega) h2) (HROW.out _ HRW5.out) (HMH.out j h1 h2) hk6⟩
      clear hS6 hk6 w0_ g0 g1 g2 g3 o0 o1 o2 o3
      go_wp2
      go_roundg (gk - 1)
      case measure => have := HKK.out; omega
      case rel => exact ⟨i + 1, rfl, ⟨by have := HKK.out; omega⟩, HRW6, HC6⟩
    · have d1 : decide ((i : Int) < 5) = false := decide_eq_false (by omega)
      clear HRW
      have HMI := Aside0.mk (blk_below H0_4.out HC.out.2.2.1)
      have HFI := Aside0.mk (blk_below H1_4.out HC.out.2.2.1)
      have a0 := blk_cell HMI.out 0
      have a1 := blk_cell HMI.out 1
      have a2 := blk_cell HMI.out 2
      have a3 := blk_cell HMI.out 3
      simp only [List.getElem?_toArray, List.getElem?_cons_zero, List.getElem?_cons_succ] at a0 a1 a2 a3
      have b0 := blk_cell HFI.out 0
      have b1 := blk_cell HFI.out 1
      have b2 := blk_cell HFI.out 2
      have b3 := blk_cell HFI.out 3
      simp only [List.getElem?_toArray, List.getElem?_cons_zero, List.getElem?_cons_succ] at b0 b1 b2 b3
      go_wp2_with fail
      refine (stays_calls r c wd A A9 cA c9 l wr (Kd.C_below HCM.out HC.out.2.2.1) HH.out.2.1 (by have := HL.out; omega) (Kd.C_below HCF.out.2 HC.out.2.2.1) HCF.out.1).mono ?_
      rintro e z9 ⟨rfl, hb⟩
      go_wp2
      go_ret
      exact ⟨rfl, below_step HB_4.out (below_step HC.out.2.2.1 hb)⟩


end Go.Proofs.Ytklomikdihlcgaa
