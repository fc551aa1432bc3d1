/- The walk of tensor.Gluing. -/
import Derived.Test.YtklomikdihlcgaaGlueP
import Derived.Outline
namespace Go.Proofs.Ytklomikdihlcgaa
open Go.RowKit PBase
open Go.Proofs.YtklomikdihlcgaaW.PrintWords Go.Proofs.YtklomikdihlcgaaW.PrintLast Go.Proofs.YtklomikdihlcgaaW.PrintMore
set_option linter.unusedVariables false
set_option linter.unusedSimpArgs false

theorem any_map {ss : List Shp} {p q : Shp → Bool} (h : ∀ x, p x = q x) : ss.any p = ss.any q := by rw [show p = q from funext h]

/-- the joint's rows and columns behind j + 1 -/
def gR (side : Bool) (ss : List Shp) (j : Nat) : Int := if side = true then (ss.getD 0 z3).1 else extS false ss j
def gC (side : Bool) (ss : List Shp) (j : Nat) : Int := if side = true then extS true ss j else (ss.getD 0 z3).2.1
theorem gR_zero (side : Bool) (ss : List Shp) : gR side ss 0 = (ss.getD 0 z3).1 := by cases side <;> rfl
theorem gC_zero (side : Bool) (ss : List Shp) : gC side ss 0 = (ss.getD 0 z3).2.1 := by cases side <;> rfl
theorem gRC_ok {side : Bool} {ss : List Shp} (h : ∀ x ∈ ss, ShOk x) {j : Nat} (hj : j < ss.length) : 1 ≤ gR side ss j ∧ gR side ss j ≤ 4096 * ((j : Int) + 1) ∧ 1 ≤ gC side ss j ∧ gC side ss j ≤ 4096 * ((j : Int) + 1) := by
  have h0 := getD_ok h (i := 0) (by omega)
  have h1 := h0.r1
  have h2 := h0.r2
  have h3 := h0.c1
  have h4 := h0.c2
  cases side
  · have := extS_ok (side := false) h j hj
    exact ⟨this.1, this.2, h3, by show (ss.getD 0 z3).2.1 ≤ _; omega⟩
  · have := extS_ok (side := true) h j hj
    exact ⟨h1, by show (ss.getD 0 z3).1 ≤ _; omega, this.1, this.2⟩
theorem drop_get {ss : List Shp} {j : Nat} (h : j < (ss.drop 1).length) : (ss.drop 1)[j] = ss.getD (j + 1) z3 := by
  have hl : j + 1 < ss.length := by rw [List.length_drop] at h; omega
  rw [List.getD_eq_getElem?_getD, List.getElem?_eq_getElem hl, Option.getD_some, List.getElem_drop]
  congr 1
  omega

theorem sized_ok {r c wd : Int} (h : sizedV r c wd = 0) : 1 ≤ r ∧ 1 ≤ c ∧ r ≤ 4096 ∧ c ≤ 4096 ∧ r * c ≤ 4096 := by
  unfold sizedV at h
  split at h
  · cases h
  · split at h
    · cases h
    · split at h
      · cases h
      · omega

/-- an element's place, behind what stands ahead of it -/
theorem place_g {r n k : Nat} (hr : r ≤ 4096) (hn : n ≤ 4096) (hk : k ≤ 4096) : wrap64 (wrap64 ((r : Int) * (n : Int)) + (k : Int)) = ((r * n + k : Nat) : Int) := by
  have h : r * n ≤ 4096 * 4096 := Nat.mul_le_mul hr hn
  have h2 : ((r : Int) * (n : Int)) = ((r * n : Nat) : Int) := by rw [Int.natCast_mul]
  rw [h2, IntWalk.wrap64_in ((r * n : Nat) : Int) (by omega), IntWalk.wrap64_in (((r * n : Nat) : Int) + (k : Int)) (by omega)]
  omega

theorem PlacesI.snoc {w W : World} {v : Value} {xs : List (Int × Int)} {i x y : Int} (h : Places w W v (xs ++ [(i, x)])) (e : x = y) : Places w W v (xs ++ [(i, y)]) := e ▸ h

theorem mem_any_false {ss : List Shp} {p : Shp → Bool} (h : ss.any p = false) {i : Nat} (hi : i < ss.length) : p (ss.getD i z3) = false := by
  have := List.any_eq_false.1 h (ss.getD i z3) (by rw [List.getD_eq_getElem?_getD, List.getElem?_eq_getElem hi]; exact List.getElem_mem hi)
  simpa using this

/-- what joining is to answer -/
def GlueQ (side : Bool) (ss : List Shp) (w : World) (e : Ending) (w' : World) : Prop :=
  (glueE side ss ≠ 0 ∧ MoveP w (glueE side ss) 0 0 0 [] e w') ∨ (glueE side ss = 0 ∧ MoveP w 0 (glueR side ss) (glueC side ss) (glueW ss) (glueP side ss) e w')

theorem GlueQ.err {side : Bool} {ss : List Shp} {w : World} {e : Ending} {w' : World} {x : Int} (h : glueE side ss = x) (hx : x ≠ 0) (hm : MoveP w x 0 0 0 [] e w') : GlueQ side ss w e w' := by
  subst h
  exact .inl ⟨hx, hm⟩

theorem retE {W : World} {er : Int} {w' : World} {v : Value} {A : Option Addr} {n c : Nat} (h : v = .tuple #[.agg #[.int .i64 0, .int .i64 0, .int .i64 0, .slice none 0 0], .int .i64 er]) (hb : Below W.heap.size W w') : MoveP W er 0 0 0 [] (.returned v) w' := moveP_none ⟨by rw [h], hb⟩

set_option maxHeartbeats 1000000 in
set_option maxRecDepth 100000 in
theorem Gluing_err0 (side : Bool) (A : Option Addr) (cA : Nat) (w : World) :
    Calls Try.prog 88 #[.slice A 0 cA, .bool side] w (MoveP w 1 0 0 0 []) := by
  go_enter Try.func88, Try.ntmps88
  go_wp2
  refine bodyPost_ret (v := .tuple #[.agg (row4 0 0 0 (.slice none 0 0)), .int .i64 1]) (by simp [results, Try.results88, go_sem, row4]) rfl (moveP_none ⟨rfl, ?_⟩)
  exact below_alloc (below_alloc (Below.refl _ _) _) _


set_option maxHeartbeats 2000000 in
set_option maxRecDepth 100000 in
theorem Gluing_calls (side : Bool) (A : Option Addr) (cA : Nat) (ss : List Shp) (w : World) (hC : shK.C w A ss.length ss) (hcA : ss.length ≤ cA) (hl : ss.length ≤ 5001) (h0 : 0 < ss.length) (hok : ∀ x ∈ ss, ShOk x) :
    Calls Try.prog 88 #[.slice A ss.length cA, .bool side] w (GlueQ side ss w) := by
  obtain ⟨ad, hA, g0, g1, g2⟩ := shape_cells hC 0 h0
  have hs0 : ss[0] = ss.getD 0 z3 := by rw [List.getD_eq_getElem?_getD, List.getElem?_eq_getElem h0]; rfl
  obtain ⟨⟨sr, sc, sw⟩, hs⟩ : ∃ s, s = ss.getD 0 z3 := ⟨_, rfl⟩
  have hbad : ∀ x, badW ss x = (x.2.2 != sw) := fun x => by unfold badW; rw [← hs]
  have hbadS : ∀ x, badS side ss x = (if side = true then x.1 != sr else x.2.1 != sc) := fun x => by unfold badS; rw [← hs]
  rw [hs0, ← hs] at g0 g1 g2
  rw [Nat.zero_mul] at g0 g1 g2
  have had : ad.add 0 = ad := rfl
  have had1 : ad.add (0 + 1) = ⟨ad.block, ad.off + 1, none⟩ := rfl
  have had2 : ad.add (0 + 2) = ⟨ad.block, ad.off + 2, none⟩ := rfl
  rw [had] at g0
  rw [had1] at g1
  rw [had2] at g2
  simp only at g0 g1 g2
  have hlt : ad.block < w.heap.size := World.block_lt_of_cell? w _ g0
  have HC := Aside0.mk hC
  have HS := Aside0.mk hs
  have HOK := Aside0.mk hok
  have HCA := Aside0.mk hcA
  have HW := Aside0.mk (any_map (ss := ss) hbad)
  have HSh := Aside0.mk (any_map (ss := ss) hbadS)
  have H0 := Aside0.mk h0
  have hn0 : ¬ ss = [] := fun e => by rw [e] at h0; exact absurd h0 (by decide)
  have hne : ((ss.length : Int) == 0) = false := by rw [beq_eq_false_iff_ne]; omega
  clear hbad hbadS hs0 hC had had1 had2 hs hok hcA
  subst hA
  go_enter Try.func88, Try.ntmps88
  go_wp2_with fail
  generalize hw1 : (((w.alloc (Obj.cells #[Value.bool side] 4)).alloc (Obj.cells #[Value.int IntKind.i64 0, Value.int IntKind.i64 0, Value.int IntKind.i64 0, Value.slice none 0 0] 93)).alloc (Obj.cells #[Value.int IntKind.i64 sr, Value.int IntKind.i64 sc, Value.int IntKind.i64 sw] 34)) = w1
  have H3 : Aside0 (IsB w1 w.heap.size #[.bool side] 4) := ⟨by rw [← hw1]; exact blk_alloc (blk_alloc (blk_new _ _) _) _⟩
  have H4 : Aside0 (IsB w1 (w.heap.size + 1) (row4 0 0 0 (.slice none 0 0)) 93) := ⟨by rw [← hw1]; exact blk_alloc (by have h := blk_new (w.alloc (Obj.cells #[Value.bool side] 4)) (Obj.cells #[Value.int IntKind.i64 0, Value.int IntKind.i64 0, Value.int IntKind.i64 0, Value.slice none 0 0] 93); simpa using h) _⟩
  have H6 : Aside0 (IsB w1 (w.heap.size + 1 + 1) (row3 sr sc sw) 34) := ⟨by rw [← hw1]; have h := blk_new ((w.alloc (Obj.cells #[Value.bool side] 4)).alloc (Obj.cells #[Value.int IntKind.i64 0, Value.int IntKind.i64 0, Value.int IntKind.i64 0, Value.slice none 0 0] 93)) (Obj.cells #[Value.int IntKind.i64 sr, Value.int IntKind.i64 sc, Value.int IntKind.i64 sw] 34); simp only [World.size_alloc] at h; exact h⟩
  have HB : Aside0 (Below w.heap.size w w1) := ⟨by rw [← hw1]; exact below_alloc (below_alloc (below_alloc (Below.refl _ _) _) _) _⟩
  clear hw1 g0 g1 g2
  refine (contains_calls 97 #[.pointer (some ⟨w.heap.size + 1 + 1, 0, none⟩)] (fun x => x.2.2 != sw) (some ad) cA ss w1 (Kd.C_below HC.out HB.out) (by omega) (fun W' hb => ⟨fun args => enters_ Try.func97 (by kernel_rfl) (by kernel_rfl) args W', fun x => pred97_calls x (sr, sc, sw) _ W' (blk_below H6.out hb)⟩)).mono ?_
  rintro e w2 ⟨rfl, hb⟩
  have H3 := Aside0.mk (blk_below H3.out hb)
  have H4 := Aside0.mk (blk_below H4.out hb)
  have H6 := Aside0.mk (blk_below H6.out hb)
  have HB := Aside0.mk (below_step HB.out hb)
  clear hb
  rw [← HW.out]
  have n0 := blk_cell H4.out 0
  have n1 := blk_cell H4.out 1
  have n2 := blk_cell H4.out 2
  have n3 := blk_cell H4.out 3
  have nf0 := blk_frozen H4.out 0
  have nf1 := blk_frozen H4.out 1
  have nf2 := blk_frozen H4.out 2
  have nf3 := blk_frozen H4.out 3
  simp only [List.getElem?_toArray, List.getElem?_cons_zero, List.getElem?_cons_succ] at n0 n1 n2 n3
  by_cases hw : ss.any (badW ss) = true
  · as_aux_lemma =>
      have HE : Aside0 (glueE side ss = 3) := ⟨by unfold glueE; rw [if_neg (by have := H0.out; omega), if_pos hw]⟩
      rw [hw]
      clear hw
      go_wp2
      refine bodyPost_ret (v := .tuple #[.agg (row4 0 0 0 (.slice none 0 0)), .int .i64 3]) (by simp [results, Try.results88, go_sem, n0, n1, n2, n3]) rfl (GlueQ.err HE.out (by decide) (moveP_none ⟨rfl, ?_⟩))
      exact below_set4 HB.out (by omega) _ _ _ _
  · have hwf : ss.any (badW ss) = false := by simpa using hw
    rw [hwf]
    have HWF := Aside0.mk hwf
    clear hw hwf
    go_wp2_with fail
    refine (contains_calls 98 #[.pointer (some ⟨w.heap.size, 0, none⟩), .pointer (some ⟨w.heap.size + 1 + 1, 0, none⟩)] (fun x => if side = true then x.1 != sr else x.2.1 != sc) (some ad) cA ss w2 (Kd.C_below HC.out HB.out) (by omega) (fun W' hb => ⟨fun args => enters_ Try.func98 (by kernel_rfl) (by kernel_rfl) args W', fun x => pred98_calls x (sr, sc, sw) side _ _ W' (blk_below H3.out hb) (blk_below H6.out hb)⟩)).mono ?_
    rintro e w3 ⟨rfl, hb⟩
    have H3 := Aside0.mk (blk_below H3.out hb)
    have H4 := Aside0.mk (blk_below H4.out hb)
    have H6 := Aside0.mk (blk_below H6.out hb)
    have HB := Aside0.mk (below_step HB.out hb)
    clear hb n0 n1 n2 n3 nf0 nf1 nf2 nf3
    rw [← HSh.out]
    have n0 := blk_cell H4.out 0
    have n1 := blk_cell H4.out 1
    have n2 := blk_cell H4.out 2
    have n3 := blk_cell H4.out 3
    have nf0 := blk_frozen H4.out 0
    have nf1 := blk_frozen H4.out 1
    have nf2 := blk_frozen H4.out 2
    have nf3 := blk_frozen H4.out 3
    simp only [List.getElem?_toArray, List.getElem?_cons_zero, List.getElem?_cons_succ] at n0 n1 n2 n3
    by_cases hw : ss.any (badS side ss) = true
    · as_aux_lemma =>
        have HE : Aside0 (glueE side ss = 4) := ⟨by unfold glueE; rw [if_neg (by have := H0.out; omega), if_neg (by rw [HWF.out]; decide), if_pos hw]⟩
        rw [hw]
        clear hw
        go_wp2
        refine bodyPost_ret (v := .tuple #[.agg (row4 0 0 0 (.slice none 0 0)), .int .i64 4]) (by simp [results, Try.results88, go_sem, n0, n1, n2, n3]) rfl (GlueQ.err HE.out (by decide) (moveP_none ⟨rfl, ?_⟩))
        exact below_set4 HB.out (by omega) _ _ _ _
    · have hwf : ss.any (badS side ss) = false := by simpa using hw
      rw [hwf]
      have HSF := Aside0.mk hwf
      clear hw hwf
      obtain ⟨i34, hi34, hz34⟩ := Option.map_eq_some_iff.1 (show (Try.prog.info? 34).map (fun i => i.size) = some 3 by kernel_rfl)
      have hsl : ∀ W : World, (Instr.slice 71 (.slice (some ad) ss.length cA) (some (.int .i64 1)) none none).run Try.prog W = .ok (.slice (if cA = 1 then some ad else (some ad).map (·.add (1 * 3))) (ss.length - 1) (cA - 1)) W := cut_from 71 34 .i64 Try.underlying71 hi34 3 hz34 (some ad) ss.length cA 1 (by omega) (by omega)
      have hCd : shK.C w (if cA = 1 then some ad else (some ad).map (·.add (1 * 3))) (ss.drop 1).length (ss.drop 1) := Kd.C_drop (k := shK) (m := 1) HC.out (by omega) HCA.out
      generalize (if cA = 1 then some ad else (some ad).map (·.add (1 * 3))) = A1 at hsl hCd
      have HCD := Aside0.mk hCd
      clear hCd
      go_wp2
      have H6 := Aside0.mk (show IsB w3 (w.heap.size + 1 + 1) (row3 (gR side ss 0) (gC side ss 0) sw) 34 by rw [gR_zero, gC_zero, ← HS.out]; exact H6.out)
      have HSL := Aside0.mk (show (ss.drop 1).length = ss.length - 1 from List.length_drop)
      go_loopg [35] (ss.length - 1) (fun kq v35 w' => ∃ j : Nat, v35 = .int .i64 j ∧ Aside0 (j + kq = ss.length - 1) ∧ Aside0 (IsB w' w.heap.size #[.bool side] 4) ∧ Aside0 (IsB w' (w.heap.size + 1) (row4 0 0 0 (.slice none 0 0)) 93) ∧ Aside0 (IsB w' (w.heap.size + 1 + 1) (row3 (gR side ss j) (gC side ss j) sw) 34) ∧ Aside0 (Below w.heap.size w w'))
      case atStart => exact ⟨0, rfl, ⟨by omega⟩, H3, H4, H6, HB⟩
      case round =>
        clear H3 H4 H6 HB n0 n1 n2 n3 nf0 nf1 nf2 nf3
        obtain ⟨j, rfl, HJ, H3, H4, H6, HB⟩ := hrel
        have a0 := blk_cell H3.out 0
        have s0 := blk_cell H6.out 0
        have s1 := blk_cell H6.out 1
        have s2 := blk_cell H6.out 2
        have sf0 := blk_frozen H6.out 0
        have sf1 := blk_frozen H6.out 1
        have hl0 := blk_lt H3.out
        have hl6 := blk_lt H6.out
        simp only [List.getElem?_toArray, List.getElem?_cons_zero, List.getElem?_cons_succ] at a0 s0 s1 s2
        have hrc := gRC_ok (side := side) HOK.out (j := j) (by have := HJ.out; have := H0.out; omega)
        have HRJ : Aside0 (gR side ss (j + 1) = if side = true then gR side ss j else gR side ss j + (ss.getD (j + 1) z3).1) := ⟨by cases side <;> rfl⟩
        have HCJ : Aside0 (gC side ss (j + 1) = if side = true then gC side ss j + (ss.getD (j + 1) z3).2.1 else gC side ss j) := ⟨by cases side <;> rfl⟩
        have HRE : Aside0 (glueR side ss = gR side ss (ss.length - 1)) := ⟨by cases side <;> rfl⟩
        have HCE : Aside0 (glueC side ss = gC side ss (ss.length - 1)) := ⟨by cases side <;> rfl⟩
        by_cases hlt2 : j < ss.length - 1
        · as_aux_lemma =>
            clear HRE HCE
            generalize gR side ss j = R at s0 hrc HRJ H6
            generalize gC side ss j = C at s1 hrc HCJ H6
            have hjd : j < (ss.drop 1).length := by rw [HSL.out]; exact hlt2
            obtain ⟨ad1, hA1, p0, p1, p2⟩ := shape_cells HCD.out j hjd
            rw [drop_get hjd] at p0 p1 p2
            have hxo := getD_ok HOK.out (i := j + 1) (by omega)
            generalize ss.getD (j + 1) z3 = x at p0 p1 p2 HRJ HCJ hxo
            obtain ⟨xr, xc, xw⟩ := x
            have hx1 : 1 ≤ xr := hxo.r1
            have hx2 : xr ≤ 4096 := hxo.r2
            have hx3 : 1 ≤ xc := hxo.c1
            have hx4 : xc ≤ 4096 := hxo.c2
            rw [add_succ] at p1
            rw [add_two] at p2
            simp only at p0 p1 p2
            have hpl := World.block_lt_of_cell? w _ p0
            rw [add_block] at hpl
            replace p0 := (HB.out.cell (World.block_lt_of_cell? w _ p0)).trans p0
            replace p1 := (HB.out.cell (World.block_lt_of_cell? w _ p1)).trans p1
            replace p2 := (HB.out.cell (World.block_lt_of_cell? w _ p2)).trans p2
            have d1 : decide (j < ss.length - 1) = true := decide_eq_true hlt2
            have hj5 : (j : Int) ≤ 5001 := by omega
            obtain ⟨hr1, hr2, hr3, hr4⟩ := hrc
            clear hxo hsl
            subst hA1
            have HX := Aside0.mk (And.intro HRJ.out HCJ.out)
            have HJ2 := Aside0.mk hlt2
            clear HRJ HCJ
            cases side
            · obtain ⟨e1, e2⟩ := HX.out
              simp only [Bool.false_eq_true, if_false] at e1 e2
              have E1 := Aside0.mk e1
              have E2 := Aside0.mk e2
              clear e1 e2 HX
              go_wp2
              go_roundg (gk - 1)
              case measure => have := HJ.out; have := HJ2.out; omega
              case rel => exact ⟨j + 1, by go_num, ⟨by have := HJ.out; have := HJ2.out; omega⟩, ⟨blk_alloc (blk_far H3.out (p := ⟨w.heap.size + 1 + 1, 0, none⟩) (by show w.heap.size ≠ w.heap.size + 1 + 1; omega) _) _⟩, ⟨blk_alloc (blk_far H4.out (p := ⟨w.heap.size + 1 + 1, 0, none⟩) (by show w.heap.size + 1 ≠ w.heap.size + 1 + 1; omega) _) _⟩, ⟨by rw [E1.out, E2.out]; exact blk_alloc (blk_set H6.out 0 _) _⟩, ⟨below_alloc (below_set HB.out (by omega)) _⟩⟩
            · obtain ⟨e1, e2⟩ := HX.out
              simp only [if_true] at e1 e2
              have E1 := Aside0.mk e1
              have E2 := Aside0.mk e2
              clear e1 e2 HX
              go_wp2
              go_roundg (gk - 1)
              case measure => have := HJ.out; have := HJ2.out; omega
              case rel => exact ⟨j + 1, by go_num, ⟨by have := HJ.out; have := HJ2.out; omega⟩, ⟨blk_alloc (blk_far H3.out (p := ⟨w.heap.size + 1 + 1, 1, none⟩) (by show w.heap.size ≠ w.heap.size + 1 + 1; omega) _) _⟩, ⟨blk_alloc (blk_far H4.out (p := ⟨w.heap.size + 1 + 1, 1, none⟩) (by show w.heap.size + 1 ≠ w.heap.size + 1 + 1; omega) _) _⟩, ⟨by rw [E1.out, E2.out]; exact blk_alloc (blk_set H6.out 1 _) _⟩, ⟨below_alloc (below_set HB.out (by omega)) _⟩⟩
        · have d1 : decide (j < ss.length - 1) = false := decide_eq_false hlt2
          have hjl : j = ss.length - 1 := by have := HJ.out; omega
          rw [← hjl] at HRE HCE
          generalize gR side ss j = R at s0 hrc H6 HRE
          generalize gC side ss j = C at s1 hrc H6 HCE
          have HSZ := Aside0.mk hjl
          clear hjl HRJ HCJ hlt2 HJ hrc hsl
          go_wp2_with fail
          refine (tensor_Sized.calls 2 R C sw (sizedV R C sw) _ (Sized_eq 0 R C sw)).mono ?_
          rintro e w5 ⟨rfl, hb⟩
          have H3 := Aside0.mk (blk_below H3.out hb)
          have H4 := Aside0.mk (blk_below H4.out hb)
          have H6 := Aside0.mk (blk_below H6.out hb)
          have HB := Aside0.mk (below_step HB.out hb)
          clear hb a0 s0 s1 s2 sf0 sf1 hl0 hl6 d1
          have HE0 : Aside0 (glueE side ss = sizedV R C sw) := ⟨by unfold glueE; rw [if_neg (by have := H0.out; omega), if_neg (by rw [HWF.out]; decide), if_neg (by rw [HSF.out]; decide), HRE.out, HCE.out]; unfold glueW; rw [← HS.out]⟩
          have n0 := blk_cell H4.out 0
          have n1 := blk_cell H4.out 1
          have n2 := blk_cell H4.out 2
          have n3 := blk_cell H4.out 3
          have nf0 := blk_frozen H4.out 0
          have nf1 := blk_frozen H4.out 1
          have nf2 := blk_frozen H4.out 2
          have nf3 := blk_frozen H4.out 3
          simp only [List.getElem?_toArray, List.getElem?_cons_zero, List.getElem?_cons_succ] at n0 n1 n2 n3
          have hl4 := blk_lt H4.out
          by_cases hz : sizedV R C sw = 0
          · have hRC := sized_ok hz
            rw [hz] at HE0 ⊢
            obtain ⟨RN, rfl⟩ := Int.eq_ofNat_of_zero_le (show 0 ≤ R by omega)
            obtain ⟨CN, rfl⟩ := Int.eq_ofNat_of_zero_le (show 0 ≤ C by omega)
            have a0 := blk_cell H3.out 0
            have s0 := blk_cell H6.out 0
            have s1 := blk_cell H6.out 1
            have s2 := blk_cell H6.out 2
            have hl3 := blk_lt H3.out
            have hl6 := blk_lt H6.out
            simp only [List.getElem?_toArray, List.getElem?_cons_zero, List.getElem?_cons_succ] at a0 s0 s1 s2
            obtain ⟨N, hN⟩ : ∃ N : Nat → Nat, N = fun i => glueN side (ss.getD i z3) := ⟨_, rfl⟩
            have HND := Aside0.mk hN
            have HNL := Aside0.mk (show ∀ i, i < ss.length → 1 ≤ N i ∧ N i ≤ 4096 from fun i hi => by rw [hN]; exact glueN_le (getD_ok HOK.out hi))
            have hR0 : side = true → (ss.getD 0 z3).1 = (RN : Int) := fun h => by rw [← HRE.out]; unfold glueR; rw [if_pos h]
            have hRN : 1 ≤ RN ∧ RN ≤ 4096 ∧ CN ≤ 4096 := by omega
            clear hN hz
            cases side
            · as_aux_lemma =>
                skip
                have hTN : Aside0 (glueT false ss = 1) := ⟨rfl⟩
                have HT : Aside0 (1 ≤ 4096) := ⟨by omega⟩
                clear hRC
                go_wp2
                have H3 := Aside0.mk (blk_alloc H3.out (.cells #[.int .i64 RN, .int .i64 CN, .int .i64 sw, .slice none 0 0] 93))
                have H4 := Aside0.mk (blk_alloc H4.out (.cells #[.int .i64 RN, .int .i64 CN, .int .i64 sw, .slice none 0 0] 93))
                have H10 := Aside0.mk (show IsB _ w5.heap.size (row4 RN CN sw (.slice none 0 0)) 93 from blk_new w5 (.cells #[.int .i64 RN, .int .i64 CN, .int .i64 sw, .slice none 0 0] 93))
                have HB := Aside0.mk (below_alloc HB.out (.cells #[.int .i64 RN, .int .i64 CN, .int .i64 sw, .slice none 0 0] 93))
                have hg5 : w.heap.size + 1 + 1 < w5.heap.size := blk_lt H6.out
                obtain ⟨g10, hg10⟩ : ∃ g, g = w5.heap.size := ⟨_, rfl⟩
                rw [← hg10] at hg5 H10 ⊢
                have HG := Aside0.mk hg5
                generalize w5.alloc (.cells #[.int .i64 RN, .int .i64 CN, .int .i64 sw, .slice none 0 0] 93) = w6 at H3 H4 H10 HB ⊢
                clear hg5 hg10 H6 n0 n1 n2 n3 nf0 nf1 nf2 nf3 a0 s0 s1 s2
                go_loopg [70] 1 (fun kq v70 w' => ∃ r : Nat, v70 = .int .i64 r ∧ Aside0 (r + kq = 1) ∧ Aside0 (IsB w' (w.heap.size + 1) (row4 0 0 0 (.slice none 0 0)) 93) ∧ (∃ v, Aside0 (IsB w' g10 (row4 RN CN sw v) 93) ∧ Aside0 (Places w w' v (allG N r ss.length))) ∧ Aside0 (Below w.heap.size w w'))
                case atStart => exact ⟨0, rfl, ⟨by omega⟩, H4, ⟨_, H10, ⟨Kd.R_nil _ _ _ _ _⟩⟩, HB⟩
                case round =>
                  clear H3 H4 H10 HB
                  obtain ⟨r, rfl, HR, H4, ⟨v, H10, HP⟩, HB⟩ := hrel
                  by_cases hrT : r < 1
                  · as_aux_lemma =>
                      have d1 : decide ((r : Int) < 1) = true := decide_eq_true (by omega)
                      have hr4 : r ≤ 4096 := by have := HT.out; omega
                      obtain ⟨gr, hgr⟩ : ∃ x : Nat, x = gk := ⟨_, rfl⟩
                      have HGR := Aside0.mk hgr
                      have HRT := Aside0.mk hrT
                      clear hgr
                      have HP := Aside0.mk (show Places w wr v (allG N r ss.length ++ rowG N r 0) by simpa [rowG] using HP.out)
                      go_wp2
                      clear d1
                      go_loopg [75] ss.length (fun kq v75 w' => ∃ i : Nat, v75 = .int .i64 i ∧ Aside0 (i + kq = ss.length) ∧ Aside0 (IsB w' (w.heap.size + 1) (row4 0 0 0 (.slice none 0 0)) 93) ∧ (∃ v, Aside0 (IsB w' g10 (row4 RN CN sw v) 93) ∧ Aside0 (Places w w' v (allG N r ss.length ++ rowG N r i))) ∧ Aside0 (Below w.heap.size w w'))
                      case atStart => exact ⟨0, rfl, ⟨by omega⟩, H4, ⟨v, H10, HP⟩, HB⟩
                      case round =>
                        clear H4 H10 HP HB
                        obtain ⟨i, rfl, HI, H4, ⟨v, H10, HP⟩, HB⟩ := hrel
                        by_cases hil : i < ss.length
                        · as_aux_lemma =>
                            have d1 : decide (i < ss.length) = true := decide_eq_true hil
                            obtain ⟨adi, hAi, p0, p1, p2⟩ := shape_cells HC.out i hil
                            have hgi : ss[i] = ss.getD i z3 := by rw [List.getD_eq_getElem?_getD, List.getElem?_eq_getElem hil]; rfl
                            rw [hgi] at p0 p1 p2
                            have hxo := getD_ok HOK.out (i := i) hil
                            have hNi := (HNL.out i hil).2
                            have hNe : N i = glueN false (ss.getD i z3) := by rw [HND.out]
                            have hSi := mem_any_false HSF.out hil
                            generalize ss.getD i z3 = x at p0 p1 p2 hxo hNe hSi
                            obtain ⟨xr, xc, xw⟩ := x
                            have hx1 : 1 ≤ xr := hxo.r1
                            have hx2 : xr ≤ 4096 := hxo.r2
                            have hx3 : 1 ≤ xc := hxo.c1
                            have hx4 : xc ≤ 4096 := hxo.c2
                            have hx5 : xr * xc ≤ 4096 := hxo.a
                            rw [add_succ] at p1
                            rw [add_two] at p2
                            simp only at p0 p1 p2
                            replace p0 := (HB.out.cell (World.block_lt_of_cell? w _ p0)).trans p0
                            replace p1 := (HB.out.cell (World.block_lt_of_cell? w _ p1)).trans p1
                            replace p2 := (HB.out.cell (World.block_lt_of_cell? w _ p2)).trans p2
                            injection hAi with hAi
                            subst hAi
                            obtain ⟨xrn, rfl⟩ := Int.eq_ofNat_of_zero_le (show 0 ≤ xr by omega)
                            obtain ⟨xcn, rfl⟩ := Int.eq_ofNat_of_zero_le (show 0 ≤ xc by omega)
                            obtain ⟨P, hP⟩ : ∃ P : Nat, P = xrn * xcn := ⟨_, rfl⟩
                            have hm : ((xrn : Int) * (xcn : Int)) = (P : Int) := by rw [hP, Int.natCast_mul]
                            obtain ⟨n, hn⟩ : ∃ n : Nat, n = N i := ⟨_, rfl⟩
                            have hP4 : (P : Int) ≤ 4096 := by rw [← hm]; exact hx5
                            have hPn : n = P := by rw [hn, hNe, hP]; show (((xrn : Int) * (xcn : Int)).toNat) = xrn * xcn; rw [← Int.natCast_mul, Int.toNat_natCast]
                            subst hPn
                            have hn4 : n ≤ 4096 := by rw [hn]; exact hNi
                            have HNI := Aside0.mk hn
                            have HIL := Aside0.mk hil
                            obtain ⟨gi, hgi2⟩ : ∃ x : Nat, x = gk := ⟨_, rfl⟩
                            have HGI := Aside0.mk hgi2
                            clear hgi hgi2 hxo hNe hSi hP hn hNi hx5
                            have hl4 := blk_lt H4.out
                            have hl10 := blk_lt H10.out
                            go_wp2
                            clear d1 p0 p1 p2 hm hl4 hl10
                            have H4 := Aside0.mk (blk_alloc H4.out (.cells #[.int .i64 xrn, .int .i64 xcn, .int .i64 xw] 34))
                            have H10 := Aside0.mk (blk_alloc H10.out (.cells #[.int .i64 xrn, .int .i64 xcn, .int .i64 xw] 34))
                            have HP := Aside0.mk (show Places w (wr.alloc (.cells #[.int .i64 xrn, .int .i64 xcn, .int .i64 xw] 34)) v (allG N r ss.length ++ rowG N r i ++ partG r i n 0) from (by simpa [partG] using Kd.R_alloc HP.out (.cells #[.int .i64 xrn, .int .i64 xcn, .int .i64 xw] 34)))
                            have HB := Aside0.mk (below_alloc HB.out (.cells #[.int .i64 xrn, .int .i64 xcn, .int .i64 xw] 34))
                            generalize wr.alloc (.cells #[.int .i64 xrn, .int .i64 xcn, .int .i64 xw] 34) = w7 at H4 H10 HP HB ⊢
                            go_loopg [88] n (fun kq v88 w' => ∃ k : Nat, v88 = .int .i64 k ∧ Aside0 (k + kq = n) ∧ Aside0 (IsB w' (w.heap.size + 1) (row4 0 0 0 (.slice none 0 0)) 93) ∧ (∃ v, Aside0 (IsB w' g10 (row4 RN CN sw v) 93) ∧ Aside0 (Places w w' v (allG N r ss.length ++ rowG N r i ++ partG r i n k))) ∧ Aside0 (Below w.heap.size w w'))
                            case atStart => exact ⟨0, rfl, ⟨by omega⟩, H4, ⟨v, H10, HP⟩, HB⟩
                            case round =>
                              clear H4 H10 HP HB
                              obtain ⟨k, rfl, HK, H4, ⟨v, H10, HP⟩, HB⟩ := hrel
                              have m3 := blk_cell H10.out 3
                              simp only [List.getElem?_toArray, List.getElem?_cons_zero, List.getElem?_cons_succ] at m3
                              have rf3 := blk_frozen H10.out 3
                              by_cases hkn : k < n
                              · as_aux_lemma =>
                                  have d1 : decide (k < n) = true := decide_eq_true hkn
                                  have HL : Aside0 (((allG N r ss.length ++ rowG N r i ++ partG r i n k).length + 1) * 16 ≤ 140737488355328) := ⟨by
                                    have hx := HNI.out
                                    rw [hx]
                                    exact glue_room (R := r + 1) hl (by have := HRT.out; have := HT.out; omega) (fun i' hi' => (HNL.out i' hi').2) (Nat.lt_succ_self r) HIL.out (by rw [← hx]; exact hkn)⟩
                                  have HX := Aside0.mk (place_g (r := r) (n := n) (k := k) hr4 hn4 (by omega))
                                  have HKN := Aside0.mk hkn
                                  have hg1 : ¬ g10 = w.heap.size + 1 := by have := HG.out; omega
                                  have HG1 := Aside0.mk hg1
                                  have HGW : Aside0 (w.heap.size ≤ g10) := ⟨by have := HG.out; omega⟩
                                  clear hg1
                                  go_wp2_with ((with_reducible refine gate_builtin (b := .append) (xs := #[.tmp 92, .tmp 100]) rfl ?_); at_builtin; refine Kd.R_append two (w0 := w) w.heap.size rfl (.tmp 92) (.tmp 100) 58 99 (.agg #[.int .i64 0, .int .i64 0]) 16 rfl Try.underlying58 info99 rfl (by decide) (by omega) v (allG N r ss.length ++ rowG N r i ++ partG r i n k) ((i : Int), wrap64 (wrap64 ((r : Int) * (n : Int)) + (k : Int))) [.int .i64 (i : Int), .int .i64 (wrap64 (wrap64 ((r : Int) * (n : Int)) + (k : Int)))] (fun _ => True) (fun _ => False) rfl rfl ?aP (fun _ hk => hk.elim) ?aF ?aO ?aB ?aS ?aL ?_; (case aP => exact ⟨[_], [_], rfl, rfl, rfl⟩); (case aB => exact HB.out); (case aF => exact (fun _ _ => trivial)); (case aO => exact HP.out); (case aS => exact below_size HB.out); (case aL => exact HL.out); intro v9 w7 ho hb hg hat; have HP2 : Aside0 (Places w w7 v9 (allG N r ss.length ++ rowG N r i ++ partG r i n (k + 1))) := ⟨by rw [partG_succ, ← List.append_assoc]; exact PlacesI.snoc ho HX.out⟩; have HH4 := Aside0.mk (blk_grown H4.out hg (Kd.R_ne HP.out H4.out (by decide))); have HH10 := Aside0.mk (blk_grown H10.out hg (Kd.R_ne HP.out H10.out (by decide))); have HB2 := Aside0.mk hb; clear ho hb hg hat HP H4 H10 HB m3 rf3 HL HX; have m3 := blk_cell HH10.out 3; simp only [List.getElem?_toArray, List.getElem?_cons_zero, List.getElem?_cons_succ] at m3; have rf3 := blk_frozen HH10.out 3; obtain ⟨A9, c9, hv9⟩ := Kd.R_slice HP2.out; generalize (allG N r ss.length ++ rowG N r i ++ partG r i n (k + 1)).length = ln at hv9; subst hv9)
                                  go_roundg (gk - 1)
                                  case measure => have := HK.out; have := HKN.out; omega
                                  case rel => exact ⟨k + 1, by first | go_num | exact next_i (by omega), ⟨by have := HK.out; have := HKN.out; omega⟩, ⟨blk_far HH4.out (p := ⟨g10, 3, none⟩) (Ne.symm HG1.out) _⟩, ⟨_, ⟨blk_set HH10.out 3 _⟩, ⟨Kd.R_set HP2.out HH10.out (two_E 93 (by decide)) 3 _⟩⟩, ⟨below_set HB2.out HGW.out⟩⟩
                              · as_aux_lemma =>
                                  have d1 : decide (k < n) = false := decide_eq_false hkn
                                  have hkn2 : k = n := by have := HK.out; omega
                                  have HP := Aside0.mk (show Places w wr v (allG N r ss.length ++ rowG N r (i + 1)) by have hp := HP.out; rw [hkn2, partG_full, HNI.out, List.append_assoc, ← rowG_succ] at hp; exact hp)
                                  clear HK hkn2
                                  go_wp2
                                  go_roundg (gi - 1)
                                  case measure => have := HI.out; have := HIL.out; have := HGI.out; omega
                                  case rel => exact ⟨i + 1, by first | go_num | exact next_i6 (by omega), ⟨by have := HI.out; have := HIL.out; have := HGI.out; omega⟩, H4, ⟨v, H10, HP⟩, HB⟩
                        · as_aux_lemma =>
                            have d1 : decide (i < ss.length) = false := decide_eq_false hil
                            have hin : i = ss.length := by have := HI.out; omega
                            have HP := Aside0.mk (show Places w wr v (allG N (r + 1) ss.length) by have hp := HP.out; rw [hin, ← allG_succ] at hp; exact hp)
                            clear HI hin
                            go_wp2
                            go_roundg (gr - 1)
                            case measure => have := HR.out; have := HRT.out; have := HGR.out; omega
                            case rel => exact ⟨r + 1, by first | go_num | exact next_i (by omega), ⟨by have := HR.out; have := HRT.out; have := HGR.out; omega⟩, H4, ⟨v, H10, HP⟩, HB⟩
                  · as_aux_lemma =>
                      have d1 : decide ((r : Int) < 1) = false := decide_eq_false (by omega)
                      have hrn : r = 1 := by have := HR.out; omega
                      have HP := Aside0.mk (show Places w wr v (glueP false ss) by have hp := HP.out; rw [hrn] at hp; unfold glueP; rw [hTN.out, ← HND.out]; exact hp)
                      have HGE : Aside0 (w.heap.size + 1 < g10) := ⟨by have := HG.out; omega⟩
                      have n0 := blk_cell H4.out 0
                      have n1 := blk_cell H4.out 1
                      have n2 := blk_cell H4.out 2
                      have n3 := blk_cell H4.out 3
                      have nf0 := blk_frozen H4.out 0
                      have nf1 := blk_frozen H4.out 1
                      have nf2 := blk_frozen H4.out 2
                      have nf3 := blk_frozen H4.out 3
                      have m0 := blk_cell H10.out 0
                      have m1 := blk_cell H10.out 1
                      have m2 := blk_cell H10.out 2
                      have m3 := blk_cell H10.out 3
                      simp only [List.getElem?_toArray, List.getElem?_cons_zero, List.getElem?_cons_succ] at n0 n1 n2 n3 m0 m1 m2 m3
                      clear HR hrn
                      obtain ⟨A9, c9, hv9⟩ := Kd.R_slice HP.out
                      generalize hln : (glueP false ss).length = ln at hv9
                      clear hln
                      subst hv9
                      go_wp2
                      have HEc := isB_set4 H4.out (.int .i64 RN) (.int .i64 CN) (.int .i64 sw) (.slice A9 ln c9)
                      have e0 := blk_cell (Aside0.mk HEc).out 0
                      have e1 := blk_cell (Aside0.mk HEc).out 1
                      have e2 := blk_cell (Aside0.mk HEc).out 2
                      have e3 := blk_cell (Aside0.mk HEc).out 3
                      simp only [List.getElem?_toArray, List.getElem?_cons_zero, List.getElem?_cons_succ] at e0 e1 e2 e3
                      refine bodyPost_ret (v := .tuple #[.agg #[.int .i64 RN, .int .i64 CN, .int .i64 sw, .slice A9 ln c9], .int .i64 0]) (by simp [results, Try.results88, go_sem, e0, e1, e2, e3]) rfl (.inr ⟨HE0.out, ?_⟩)
                      rw [HRE.out, HCE.out, show glueW ss = sw by unfold glueW; rw [← HS.out]]
                      exact ⟨_, rfl, R_set4 HP.out H4.out (two_E 93 (by decide)) _ _ _ _, below_set4 HB.out (by omega) _ _ _ _⟩
            · have HR0 := Aside0.mk (hR0 rfl)
              clear hR0
              as_aux_lemma =>
                skip
                have hTN : Aside0 (glueT true ss = RN) := ⟨by unfold glueT; rw [if_pos rfl, HRE.out, Int.toNat_natCast]⟩
                have HT : Aside0 (RN ≤ 4096) := ⟨by omega⟩
                clear hRC
                go_wp2
                have H3 := Aside0.mk (blk_alloc H3.out (.cells #[.int .i64 RN, .int .i64 CN, .int .i64 sw, .slice none 0 0] 93))
                have H4 := Aside0.mk (blk_alloc H4.out (.cells #[.int .i64 RN, .int .i64 CN, .int .i64 sw, .slice none 0 0] 93))
                have H10 := Aside0.mk (show IsB _ w5.heap.size (row4 RN CN sw (.slice none 0 0)) 93 from blk_new w5 (.cells #[.int .i64 RN, .int .i64 CN, .int .i64 sw, .slice none 0 0] 93))
                have HB := Aside0.mk (below_alloc HB.out (.cells #[.int .i64 RN, .int .i64 CN, .int .i64 sw, .slice none 0 0] 93))
                have hg5 : w.heap.size + 1 + 1 < w5.heap.size := blk_lt H6.out
                obtain ⟨g10, hg10⟩ : ∃ g, g = w5.heap.size := ⟨_, rfl⟩
                rw [← hg10] at hg5 H10 ⊢
                have HG := Aside0.mk hg5
                generalize w5.alloc (.cells #[.int .i64 RN, .int .i64 CN, .int .i64 sw, .slice none 0 0] 93) = w6 at H3 H4 H10 HB ⊢
                clear hg5 hg10 H6 n0 n1 n2 n3 nf0 nf1 nf2 nf3 a0 s0 s1 s2
                go_loopg [70] RN (fun kq v70 w' => ∃ r : Nat, v70 = .int .i64 r ∧ Aside0 (r + kq = RN) ∧ Aside0 (IsB w' (w.heap.size + 1) (row4 0 0 0 (.slice none 0 0)) 93) ∧ (∃ v, Aside0 (IsB w' g10 (row4 RN CN sw v) 93) ∧ Aside0 (Places w w' v (allG N r ss.length))) ∧ Aside0 (Below w.heap.size w w'))
                case atStart => exact ⟨0, rfl, ⟨by omega⟩, H4, ⟨_, H10, ⟨Kd.R_nil _ _ _ _ _⟩⟩, HB⟩
                case round =>
                  clear H3 H4 H10 HB
                  obtain ⟨r, rfl, HR, H4, ⟨v, H10, HP⟩, HB⟩ := hrel
                  by_cases hrT : r < RN
                  · as_aux_lemma =>
                      have d1 : decide (r < RN) = true := decide_eq_true hrT
                      have hr4 : r ≤ 4096 := by have := HT.out; omega
                      obtain ⟨gr, hgr⟩ : ∃ x : Nat, x = gk := ⟨_, rfl⟩
                      have HGR := Aside0.mk hgr
                      have HRT := Aside0.mk hrT
                      clear hgr
                      have HP := Aside0.mk (show Places w wr v (allG N r ss.length ++ rowG N r 0) by simpa [rowG] using HP.out)
                      go_wp2
                      clear d1
                      go_loopg [75] ss.length (fun kq v75 w' => ∃ i : Nat, v75 = .int .i64 i ∧ Aside0 (i + kq = ss.length) ∧ Aside0 (IsB w' (w.heap.size + 1) (row4 0 0 0 (.slice none 0 0)) 93) ∧ (∃ v, Aside0 (IsB w' g10 (row4 RN CN sw v) 93) ∧ Aside0 (Places w w' v (allG N r ss.length ++ rowG N r i))) ∧ Aside0 (Below w.heap.size w w'))
                      case atStart => exact ⟨0, rfl, ⟨by omega⟩, H4, ⟨v, H10, HP⟩, HB⟩
                      case round =>
                        clear H4 H10 HP HB
                        obtain ⟨i, rfl, HI, H4, ⟨v, H10, HP⟩, HB⟩ := hrel
                        by_cases hil : i < ss.length
                        · as_aux_lemma =>
                            have d1 : decide (i < ss.length) = true := decide_eq_true hil
                            obtain ⟨adi, hAi, p0, p1, p2⟩ := shape_cells HC.out i hil
                            have hgi : ss[i] = ss.getD i z3 := by rw [List.getD_eq_getElem?_getD, List.getElem?_eq_getElem hil]; rfl
                            rw [hgi] at p0 p1 p2
                            have hxo := getD_ok HOK.out (i := i) hil
                            have hNi := (HNL.out i hil).2
                            have hNe : N i = glueN true (ss.getD i z3) := by rw [HND.out]
                            have hSi := mem_any_false HSF.out hil
                            generalize ss.getD i z3 = x at p0 p1 p2 hxo hNe hSi
                            obtain ⟨xr, xc, xw⟩ := x
                            have hx1 : 1 ≤ xr := hxo.r1
                            have hx2 : xr ≤ 4096 := hxo.r2
                            have hx3 : 1 ≤ xc := hxo.c1
                            have hx4 : xc ≤ 4096 := hxo.c2
                            have hx5 : xr * xc ≤ 4096 := hxo.a
                            rw [add_succ] at p1
                            rw [add_two] at p2
                            simp only at p0 p1 p2
                            replace p0 := (HB.out.cell (World.block_lt_of_cell? w _ p0)).trans p0
                            replace p1 := (HB.out.cell (World.block_lt_of_cell? w _ p1)).trans p1
                            replace p2 := (HB.out.cell (World.block_lt_of_cell? w _ p2)).trans p2
                            injection hAi with hAi
                            subst hAi
                            obtain ⟨xrn, rfl⟩ := Int.eq_ofNat_of_zero_le (show 0 ≤ xr by omega)
                            obtain ⟨xcn, rfl⟩ := Int.eq_ofNat_of_zero_le (show 0 ≤ xc by omega)
                            obtain ⟨P, hP⟩ : ∃ P : Nat, P = xrn * xcn := ⟨_, rfl⟩
                            have hm : ((xrn : Int) * (xcn : Int)) = (P : Int) := by rw [hP, Int.natCast_mul]
                            obtain ⟨n, hn⟩ : ∃ n : Nat, n = N i := ⟨_, rfl⟩
                            have hP4 : (P : Int) ≤ 4096 := by rw [← hm]; exact hx5
                            have hxr : xrn = RN := by have h1 : ((xrn : Int) != (ss.getD 0 z3).1) = false := hSi; rw [HR0.out] at h1; have h2 : (xrn : Int) = (RN : Int) := (by simpa using h1); omega
                            have hq : ((P : Int) / (RN : Int)) = (n : Int) := by rw [hn, hNe, hP, hxr]; unfold glueN; rw [if_pos rfl, Int.natCast_mul, Int.mul_ediv_cancel_left _ (by omega)]; simp
                            have HQ2 : Aside0 (wrap64 ((wrap64 ((RN : Int) * (xcn : Int))).tdiv (RN : Int)) = (n : Int)) := ⟨by rw [hxr] at hm; rw [hm, IntWalk.wrap64_in (P : Int) (by omega), Int.tdiv_eq_ediv_of_nonneg (by omega), hq, IntWalk.wrap64_in (n : Int) (by rw [hn]; omega)]⟩
                            have hn4 : n ≤ 4096 := by rw [hn]; exact hNi
                            have HNI := Aside0.mk hn
                            have HIL := Aside0.mk hil
                            obtain ⟨gi, hgi2⟩ : ∃ x : Nat, x = gk := ⟨_, rfl⟩
                            have HGI := Aside0.mk hgi2
                            clear hgi hgi2 hxo hNe hSi hP hn hNi hx5
                            have hl4 := blk_lt H4.out
                            have hl10 := blk_lt H10.out
                            go_wp2
                            rw [HQ2.out]
                            clear d1 p0 p1 p2 hm hl4 hl10
                            have H4 := Aside0.mk (blk_alloc H4.out (.cells #[.int .i64 RN, .int .i64 xcn, .int .i64 xw] 34))
                            have H10 := Aside0.mk (blk_alloc H10.out (.cells #[.int .i64 RN, .int .i64 xcn, .int .i64 xw] 34))
                            have HP := Aside0.mk (show Places w (wr.alloc (.cells #[.int .i64 RN, .int .i64 xcn, .int .i64 xw] 34)) v (allG N r ss.length ++ rowG N r i ++ partG r i n 0) from (by simpa [partG] using Kd.R_alloc HP.out (.cells #[.int .i64 RN, .int .i64 xcn, .int .i64 xw] 34)))
                            have HB := Aside0.mk (below_alloc HB.out (.cells #[.int .i64 RN, .int .i64 xcn, .int .i64 xw] 34))
                            generalize wr.alloc (.cells #[.int .i64 RN, .int .i64 xcn, .int .i64 xw] 34) = w7 at H4 H10 HP HB ⊢
                            go_loopg [88] n (fun kq v88 w' => ∃ k : Nat, v88 = .int .i64 k ∧ Aside0 (k + kq = n) ∧ Aside0 (IsB w' (w.heap.size + 1) (row4 0 0 0 (.slice none 0 0)) 93) ∧ (∃ v, Aside0 (IsB w' g10 (row4 RN CN sw v) 93) ∧ Aside0 (Places w w' v (allG N r ss.length ++ rowG N r i ++ partG r i n k))) ∧ Aside0 (Below w.heap.size w w'))
                            case atStart => exact ⟨0, rfl, ⟨by omega⟩, H4, ⟨v, H10, HP⟩, HB⟩
                            case round =>
                              clear H4 H10 HP HB
                              obtain ⟨k, rfl, HK, H4, ⟨v, H10, HP⟩, HB⟩ := hrel
                              have m3 := blk_cell H10.out 3
                              simp only [List.getElem?_toArray, List.getElem?_cons_zero, List.getElem?_cons_succ] at m3
                              have rf3 := blk_frozen H10.out 3
                              by_cases hkn : k < n
                              · as_aux_lemma =>
                                  have d1 : decide (k < n) = true := decide_eq_true hkn
                                  have HL : Aside0 (((allG N r ss.length ++ rowG N r i ++ partG r i n k).length + 1) * 16 ≤ 140737488355328) := ⟨by
                                    have hx := HNI.out
                                    rw [hx]
                                    exact glue_room (R := r + 1) hl (by have := HRT.out; have := HT.out; omega) (fun i' hi' => (HNL.out i' hi').2) (Nat.lt_succ_self r) HIL.out (by rw [← hx]; exact hkn)⟩
                                  have HX := Aside0.mk (place_g (r := r) (n := n) (k := k) hr4 hn4 (by omega))
                                  have HKN := Aside0.mk hkn
                                  have hg1 : ¬ g10 = w.heap.size + 1 := by have := HG.out; omega
                                  have HG1 := Aside0.mk hg1
                                  have HGW : Aside0 (w.heap.size ≤ g10) := ⟨by have := HG.out; omega⟩
                                  clear hg1
                                  go_wp2_with ((with_reducible refine gate_builtin (b := .append) (xs := #[.tmp 92, .tmp 100]) rfl ?_); at_builtin; refine Kd.R_append two (w0 := w) w.heap.size rfl (.tmp 92) (.tmp 100) 58 99 (.agg #[.int .i64 0, .int .i64 0]) 16 rfl Try.underlying58 info99 rfl (by decide) (by omega) v (allG N r ss.length ++ rowG N r i ++ partG r i n k) ((i : Int), wrap64 (wrap64 ((r : Int) * (n : Int)) + (k : Int))) [.int .i64 (i : Int), .int .i64 (wrap64 (wrap64 ((r : Int) * (n : Int)) + (k : Int)))] (fun _ => True) (fun _ => False) rfl rfl ?aP (fun _ hk => hk.elim) ?aF ?aO ?aB ?aS ?aL ?_; (case aP => exact ⟨[_], [_], rfl, rfl, rfl⟩); (case aB => exact HB.out); (case aF => exact (fun _ _ => trivial)); (case aO => exact HP.out); (case aS => exact below_size HB.out); (case aL => exact HL.out); intro v9 w7 ho hb hg hat; have HP2 : Aside0 (Places w w7 v9 (allG N r ss.length ++ rowG N r i ++ partG r i n (k + 1))) := ⟨by rw [partG_succ, ← List.append_assoc]; exact PlacesI.snoc ho HX.out⟩; have HH4 := Aside0.mk (blk_grown H4.out hg (Kd.R_ne HP.out H4.out (by decide))); have HH10 := Aside0.mk (blk_grown H10.out hg (Kd.R_ne HP.out H10.out (by decide))); have HB2 := Aside0.mk hb; clear ho hb hg hat HP H4 H10 HB m3 rf3 HL HX; have m3 := blk_cell HH10.out 3; simp only [List.getElem?_toArray, List.getElem?_cons_zero, List.getElem?_cons_succ] at m3; have rf3 := blk_frozen HH10.out 3; obtain ⟨A9, c9, hv9⟩ := Kd.R_slice HP2.out; generalize (allG N r ss.length ++ rowG N r i ++ partG r i n (k + 1)).length = ln at hv9; subst hv9)
                                  go_roundg (gk - 1)
                                  case measure => have := HK.out; have := HKN.out; omega
                                  case rel => exact ⟨k + 1, by first | go_num | exact next_i (by omega), ⟨by have := HK.out; have := HKN.out; omega⟩, ⟨blk_far HH4.out (p := ⟨g10, 3, none⟩) (Ne.symm HG1.out) _⟩, ⟨_, ⟨blk_set HH10.out 3 _⟩, ⟨Kd.R_set HP2.out HH10.out (two_E 93 (by decide)) 3 _⟩⟩, ⟨below_set HB2.out HGW.out⟩⟩
                              · as_aux_lemma =>
                                  have d1 : decide (k < n) = false := decide_eq_false hkn
                                  have hkn2 : k = n := by have := HK.out; omega
                                  have HP := Aside0.mk (show Places w wr v (allG N r ss.length ++ rowG N r (i + 1)) by have hp := HP.out; rw [hkn2, partG_full, HNI.out, List.append_assoc, ← rowG_succ] at hp; exact hp)
                                  clear HK hkn2
                                  go_wp2
                                  go_roundg (gi - 1)
                                  case measure => have := HI.out; have := HIL.out; have := HGI.out; omega
                                  case rel => exact ⟨i + 1, by first | go_num | exact next_i6 (by omega), ⟨by have := HI.out; have := HIL.out; have := HGI.out; omega⟩, H4, ⟨v, H10, HP⟩, HB⟩
                        · as_aux_lemma =>
                            have d1 : decide (i < ss.length) = false := decide_eq_false hil
                            have hin : i = ss.length := by have := HI.out; omega
                            have HP := Aside0.mk (show Places w wr v (allG N (r + 1) ss.length) by have hp := HP.out; rw [hin, ← allG_succ] at hp; exact hp)
                            clear HI hin
                            go_wp2
                            go_roundg (gr - 1)
                            case measure => have := HR.out; have := HRT.out; have := HGR.out; omega
                            case rel => exact ⟨r + 1, by first | go_num | exact next_i (by omega), ⟨by have := HR.out; have := HRT.out; have := HGR.out; omega⟩, H4, ⟨v, H10, HP⟩, HB⟩
                  · as_aux_lemma =>
                      have d1 : decide (r < RN) = false := decide_eq_false hrT
                      have hrn : r = RN := by have := HR.out; omega
                      have HP := Aside0.mk (show Places w wr v (glueP true ss) by have hp := HP.out; rw [hrn] at hp; unfold glueP; rw [hTN.out, ← HND.out]; exact hp)
                      have HGE : Aside0 (w.heap.size + 1 < g10) := ⟨by have := HG.out; omega⟩
                      have n0 := blk_cell H4.out 0
                      have n1 := blk_cell H4.out 1
                      have n2 := blk_cell H4.out 2
                      have n3 := blk_cell H4.out 3
                      have nf0 := blk_frozen H4.out 0
                      have nf1 := blk_frozen H4.out 1
                      have nf2 := blk_frozen H4.out 2
                      have nf3 := blk_frozen H4.out 3
                      have m0 := blk_cell H10.out 0
                      have m1 := blk_cell H10.out 1
                      have m2 := blk_cell H10.out 2
                      have m3 := blk_cell H10.out 3
                      simp only [List.getElem?_toArray, List.getElem?_cons_zero, List.getElem?_cons_succ] at n0 n1 n2 n3 m0 m1 m2 m3
                      clear HR hrn
                      obtain ⟨A9, c9, hv9⟩ := Kd.R_slice HP.out
                      generalize hln : (glueP true ss).length = ln at hv9
                      clear hln
                      subst hv9
                      go_wp2
                      have HEc := isB_set4 H4.out (.int .i64 RN) (.int .i64 CN) (.int .i64 sw) (.slice A9 ln c9)
                      have e0 := blk_cell (Aside0.mk HEc).out 0
                      have e1 := blk_cell (Aside0.mk HEc).out 1
                      have e2 := blk_cell (Aside0.mk HEc).out 2
                      have e3 := blk_cell (Aside0.mk HEc).out 3
                      simp only [List.getElem?_toArray, List.getElem?_cons_zero, List.getElem?_cons_succ] at e0 e1 e2 e3
                      refine bodyPost_ret (v := .tuple #[.agg #[.int .i64 RN, .int .i64 CN, .int .i64 sw, .slice A9 ln c9], .int .i64 0]) (by simp [results, Try.results88, go_sem, e0, e1, e2, e3]) rfl (.inr ⟨HE0.out, ?_⟩)
                      rw [HRE.out, HCE.out, show glueW ss = sw by unfold glueW; rw [← HS.out]]
                      exact ⟨_, rfl, R_set4 HP.out H4.out (two_E 93 (by decide)) _ _ _ _, below_set4 HB.out (by omega) _ _ _ _⟩
          · as_aux_lemma =>
              have HNZ := Aside0.mk hz
              have d2 : (sizedV R C sw != 0) = true := by simpa using hz
              generalize sizedV R C sw = sz at HE0 HNZ d2 ⊢
              clear hz
              go_wp2
              refine bodyPost_ret (v := .tuple #[.agg (row4 0 0 0 (.slice none 0 0)), .int .i64 sz]) (by simp [results, Try.results88, go_sem, n0, n1, n2, n3]) rfl (GlueQ.err HE0.out HNZ.out (moveP_none ⟨rfl, ?_⟩))
              exact below_set4 HB.out (by omega) _ _ _ _

end Go.Proofs.Ytklomikdihlcgaa
