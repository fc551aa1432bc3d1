/- tensor.Finite: the walk. -/
import Derived.Test.YtklomikdihlcgaaRowsK
import Derived.Test.YtklomikdihlcgaaCheckP
namespace Go.Proofs.Ytklomikdihlcgaa
open Go.RowKit Go.Shelf PBase
open Go.Proofs.YtklomikdihlcgaaW.PrintWords Go.Proofs.YtklomikdihlcgaaW.PrintLast Go.Proofs.YtklomikdihlcgaaW.PrintMore
set_option linter.unusedVariables false
set_option linter.unusedSimpArgs false
attribute [local go_sem] Oper.semAt_some

set_option maxRecDepth 100000 in
theorem rows_calls (r c wd : Int) (A : Option Addr) (ln cA : Nat) (w : World) : Calls Try.prog 64 #[.agg #[.int .i64 r, .int .i64 c, .int .i64 wd, .slice A ln cA]] w fun e w' => e = .returned (.func (.func 84) #[] #[.pointer (some ⟨w.heap.size, 0, none⟩)]) ∧ w' = w.alloc (.cells (row4 r c wd (.slice A ln cA)) 25) := by
  go_enter Try.func64, Try.ntmps64
  go_wp2
  go_ret
  exact ⟨rfl, rfl⟩

theorem rows_stops (F : Fence) (n : Nat) (h84 : F.fn 84) (hro : F.round = none) (hn : 1 ≤ n) (Bs n₀ : Nat) (R C : Nat) (wd : Int) (ad : Addr) (ln cA : Nat) (hC : 1 ≤ C) (hRR : R ≤ 4096) (hC2 : C ≤ 4096) (hle : R * C ≤ cA) (hcA : cA ≤ 9223372036854775807) (hb : Bs < n₀) (w : World) (hn₀ : n₀ ≤ w.heap.size)
    (hI : IsB w Bs (row4 R C wd (.slice (some ad) ln cA)) 25) :
    SeqStopsK F n Try.prog 84 #[.pointer (some ⟨Bs, 0, none⟩)] (fun x : Fin R => #[Value.int .i64 (x.1 : Int), Value.slice (some (ad.add (x.1 * C))) C C]) (Below n₀) (fun ys => ys = firstR R R) (fun pre => ∃ k, k ≤ R ∧ pre = firstR R k) R w := fun l J Jx W hW _ _ hY h0 =>
  rows1_in F n h84 hro hn l Bs n₀ R C wd ad ln cA hC hRR hC2 hle hcA hb J Jx hY W ((hW.block Bs (by omega)).trans hI) h0

/-- the first element that is not finite, and its error -/
def stopV (wd : Int) : Nat → List Int → Int × Int
  | _, [] => (0, 0)
  | i, x :: xs => if classV x wd = 4 then ((i : Int), 30) else if classV x wd = 3 then ((i : Int), 31) else stopV wd (i + 1) xs
def badC (wd x : Int) : Prop := classV x wd = 4 ∨ classV x wd = 3
theorem stopV_none (wd : Int) : ∀ (l : List Int) (i : Nat), (∀ x ∈ l, ¬ badC wd x) → stopV wd i l = (0, 0)
  | [], _, _ => rfl
  | x :: xs, i, h => by
    have hx := h x (by simp)
    unfold badC at hx
    rw [stopV, if_neg (by omega), if_neg (by omega)]
    exact stopV_none wd xs (i + 1) (fun y hy => h y (List.mem_cons_of_mem _ hy))
theorem stopV_some (wd : Int) : ∀ (l : List Int) (i j : Nat) (hj : j < l.length), (∀ k (hk : k < j), ¬ badC wd (l[k]'(by omega))) → badC wd l[j] → stopV wd i l = (((i + j : Nat) : Int), if classV l[j] wd = 4 then 30 else 31)
  | [], _, j, hj, _, _ => absurd hj (by simp)
  | x :: xs, i, 0, hj, h1, h2 => by
    simp only [List.getElem_cons_zero] at h2 ⊢
    unfold badC at h2
    rw [stopV]
    by_cases h4 : classV x wd = 4
    · rw [if_pos h4, if_pos h4]; rfl
    · rw [if_neg h4, if_pos (by omega), if_neg h4]; rfl
  | x :: xs, i, j + 1, hj, h1, h2 => by
    have hx := h1 0 (by omega)
    simp only [List.getElem_cons_zero, List.getElem_cons_succ] at hx h2 ⊢
    unfold badC at hx
    rw [stopV, if_neg (by omega), if_neg (by omega)]
    have := stopV_some wd xs (i + 1) j (by simpa using hj) (fun k hk => by have := h1 (k + 1) (by omega); simpa using this) h2
    rw [this]
    congr 2
    omega

theorem keepsOthers_below {W W' : World} (h : Below W.heap.size W W') : KeepsOthers W W' :=
  ⟨h.size, fun i o ho _ => (h.block i (Array.getElem?_eq_some_iff.1 ho).1).trans ho⟩

theorem el_nums {x i R C : Nat} (hx : x < R) (hRR : R ≤ 4096) (hC2 : C ≤ 4096) (hi : i < C) : ∃ o q : Nat, x * C = o ∧ o + i = q ∧ wrap64 ((x : Int) * (C : Int)) = (o : Int) ∧ wrap64 ((o : Int) + (i : Int)) = (q : Int) ∧ q < R * C := by
  have hm : (x + 1) * C ≤ R * C := Nat.mul_le_mul_right _ hx
  have hm2 : R * C ≤ 4096 * 4096 := Nat.mul_le_mul hRR hC2
  have hm3 : (x + 1) * C = x * C + C := by rw [Nat.add_mul, Nat.one_mul]
  refine ⟨x * C, x * C + i, rfl, rfl, ?_, ?_, by omega⟩
  · rw [← Int.natCast_mul]
    generalize x * C = o at hm3
    exact IntWalk.wrap64_in (o : Int) (by omega)
  · generalize x * C = o at hm3
    rw [IntWalk.wrap64_in ((o : Int) + (i : Int)) (by omega)]; rfl

def rowOk (C : Nat) (wd : Int) (l : List Int) (y : Nat) : Prop := ∀ j, j < C → ¬ badC wd (rd l ((y * C + j : Nat) : Int))
theorem isB_own {A B : World} {g t : Nat} {cs : Array Value} {row : Option Nat} (h : IsB A g cs t) (hg : A.grownBy B row) (hr : ∀ r, row = some r → ∃ o : Obj, A.heap[r]? = some o ∧ o.isCells = false) : IsB B g cs t := by
  refine (hg.block g (blk_lt h) (fun e => ?_)).trans h
  obtain ⟨o, ho, hc⟩ := hr g e.symm
  have h2 : A.heap[g]? = some (.cells cs t (0, 0)) := h
  rw [h2] at ho
  cases ho
  cases hc

theorem rows_all {R C : Nat} {wd : Int} {l : List Int} (hC : 1 ≤ C) (hlen : l.length = R * C) (h : ∀ y : Fin R, rowOk C wd l y.1) : ∀ x ∈ l, ¬ badC wd x := by
  intro x hx
  obtain ⟨i, hi, rfl⟩ := List.mem_iff_getElem.1 hx
  have hy : i / C < R := by rw [Nat.div_lt_iff_lt_mul (by omega)]; omega
  have := h ⟨i / C, hy⟩ (i % C) (Nat.mod_lt _ (by omega))
  dsimp only at this
  rw [Nat.mul_comm, Nat.div_add_mod, rd_nat l i hi] at this
  exact this
theorem rows_some {R C k j : Nat} {wd : Int} {l : List Int} {ini : List (Fin R)} {last : Fin R} (hC : 1 ≤ C) (hlen : l.length = R * C) (hk : k ≤ R) (e1 : firstR R k = ini ++ [last]) (e2 : ∀ y ∈ ini, rowOk C wd l y.1) (e3 : j < C) (e4 : ∀ i, i < j → ¬ badC wd (rd l ((last.1 * C + i : Nat) : Int))) (e5 : badC wd (rd l ((last.1 * C + j : Nat) : Int))) :
    stopV wd 0 l = (((last.1 * C + j : Nat) : Int), if classV (rd l ((last.1 * C + j : Nat) : Int)) wd = 4 then 30 else 31) := by
  obtain ⟨k', rfl⟩ : ∃ k', k = k' + 1 := by
    cases k with
    | zero => simp [firstR] at e1
    | succ k' => exact ⟨k', rfl⟩
  rw [firstR_succ R k' hk] at e1
  obtain ⟨rfl, e6⟩ := List.append_inj' e1 rfl
  obtain rfl : (⟨k', hk⟩ : Fin R) = last := by simpa using e6
  dsimp only at e4 e5 ⊢
  have hm : (k' + 1) * C ≤ R * C := Nat.mul_le_mul_right _ hk
  have hm3 : (k' + 1) * C = k' * C + C := by rw [Nat.add_mul, Nat.one_mul]
  have hin : k' * C + j < l.length := by omega
  have hel := rd_nat l (k' * C + j) hin
  have hs := stopV_some wd l 0 (k' * C + j) hin (fun i hi => ?_) (by rw [← hel]; exact e5)
  · rw [hs, hel, Nat.zero_add]
  · have hil : i < l.length := by omega
    rw [← rd_nat l i hil]
    by_cases hy : i / C < k'
    · have := e2 ⟨i / C, by omega⟩ ((mem_firstR (by omega) _).2 hy) (i % C) (Nat.mod_lt _ (by omega))
      dsimp only at this
      rw [Nat.mul_comm, Nat.div_add_mod] at this
      exact this
    · have h1 := Nat.div_add_mod i C
      have h2 : i / C < k' + 1 := by rw [Nat.div_lt_iff_lt_mul (by omega)]; omega
      have h3 : i / C = k' := by omega
      rw [h3, Nat.mul_comm] at h1
      have := e4 (i % C) (by omega)
      rw [h1] at this
      exact this

theorem leave_ok {R C : Nat} {wd : Int} {l : List Int} {w w3 W w5 : World} {pre : List (Fin R)} {xv i : Nat} {E z1 z2 : Int} {hxv : xv < R}
    (HP : Aside0 ((∀ y ∈ pre, rowOk C wd l y.1) ∧ Below w3.heap.size w3 W ∧ xv < R)) (HB5 : Aside0 (Below W.heap.size W w5)) (HB3 : Aside0 (Below w.heap.size w w3))
    (H15 : Aside0 (IsB w5 (w.heap.size + 1) #[.int .i64 0] 3)) (H25 : Aside0 (IsB w5 (w.heap.size + 1 + 1) #[.int .i64 0] 26))
    (hI : ∀ j, j < i → ¬ badC wd (rd l ((xv * C + j : Nat) : Int))) (hlt : i < C) (hE : E = rd l ((xv * C + i : Nat) : Int)) (hbad : badC wd E)
    (hz1 : z1 = ((xv * C + i : Nat) : Int)) (hz2 : z2 = if classV E wd = 4 then 30 else 31) :
    KeepsOthers W ((w5.setCell ⟨w.heap.size + 1, 0, none⟩ (.int .i64 z1)).setCell ⟨w.heap.size + 1 + 1, 0, none⟩ (.int .i64 z2)) ∧
    (Code.ret = Code.ret ∧ ∃ (ini : List (Fin R)) (last : Fin R) (j : Nat), pre ++ [⟨xv, hxv⟩] = ini ++ [last] ∧ (∀ y ∈ ini, rowOk C wd l y.1) ∧ j < C ∧ (∀ i, i < j → ¬ badC wd (rd l ((last.1 * C + i : Nat) : Int))) ∧ badC wd (rd l ((last.1 * C + j : Nat) : Int)) ∧ IsB ((w5.setCell ⟨w.heap.size + 1, 0, none⟩ (.int .i64 z1)).setCell ⟨w.heap.size + 1 + 1, 0, none⟩ (.int .i64 z2)) (w.heap.size + 1) #[.int .i64 ((last.1 * C + j : Nat) : Int)] 3 ∧ IsB ((w5.setCell ⟨w.heap.size + 1, 0, none⟩ (.int .i64 z1)).setCell ⟨w.heap.size + 1 + 1, 0, none⟩ (.int .i64 z2)) (w.heap.size + 1 + 1) #[.int .i64 (if classV (rd l ((last.1 * C + j : Nat) : Int)) wd = 4 then 30 else 31)] 26) ∧ Below w.heap.size w ((w5.setCell ⟨w.heap.size + 1, 0, none⟩ (.int .i64 z1)).setCell ⟨w.heap.size + 1 + 1, 0, none⟩ (.int .i64 z2)) := by
  subst hE hz1 hz2
  refine ⟨(keepsOthers_below HB5.out).trans ((KeepsOthers.setCell _ _ _).trans (KeepsOthers.setCell _ _ _)), ⟨rfl, pre, ⟨xv, hxv⟩, i, rfl, HP.out.1, hlt, hI, hbad, ?_, ?_⟩, ?_⟩
  · exact blk_far (blk_set H15.out 0 _) (p := ⟨w.heap.size + 1 + 1, 0, none⟩) (by simp) _
  · exact blk_set (blk_far H25.out (p := ⟨w.heap.size + 1, 0, none⟩) (by simp) _) 0 _
  · exact Below.setCell (Below.setCell (below_step (below_step HB3.out HP.out.2.1) HB5.out) (p := ⟨w.heap.size + 1, 0, none⟩) (by simp) _) (p := ⟨w.heap.size + 1 + 1, 0, none⟩) (by simp; omega) _

set_option maxHeartbeats 2000000 in
set_option maxRecDepth 100000 in
theorem finite_good (R C : Nat) (wd : Int) (ad : Addr) (cA : Nat) (l : List Int) (w : World) (hC : (Kd.int .i64).C w (some ad) l.length l) (hcA : l.length ≤ cA) (hcm : cA ≤ 9223372036854775807) (hl : l.length ≤ 1000000) (hck : checkV R C wd l = 0) :
    Calls Try.prog 28 #[.agg #[.int .i64 R, .int .i64 C, .int .i64 wd, .slice (some ad) l.length cA]] w fun e w' => e = .returned (.tuple #[.int .i64 (stopV wd 0 l).1, .int .i64 (stopV wd 0 l).2]) ∧ Below w.heap.size w w' := by
  refine (callsIn_wide (n := 4)).1 ?_
  refine callsIn_of_wp_marks Try.func28 rfl trivial ?_ rfl
  simp only [Try.ntmps28, List.size_toArray, List.length_cons, List.length_nil, Nat.reduceAdd, Nat.reduceSub, Array.replicate_succ, Array.replicate_zero, List.push_toArray, List.append_toArray, List.nil_append, List.cons_append]
  have HH := Aside0.mk (And.intro hC (And.intro hcA (And.intro hcm (And.intro hl hck))))
  clear hC hcA hcm hl hck
  gi_wp2_with fail
  refine ⟨trivial, callsIn_wide.2 ?_⟩
  generalize hw1 : (((w.alloc (Obj.cells #[Value.int IntKind.i64 R, Value.int IntKind.i64 C, Value.int IntKind.i64 wd, Value.slice (some ad) l.length cA] 25)).alloc (Obj.cells #[Value.int IntKind.i64 0] 3)).alloc (Obj.cells #[Value.int IntKind.i64 0] 26)) = w1
  have HB : Aside0 (Below w.heap.size w w1) := ⟨by rw [← hw1]; exact below_alloc (below_alloc (below_alloc (Below.refl _ _) _) _) _⟩
  have H0 : Aside0 (IsB w1 w.heap.size (row4 R C wd (.slice (some ad) l.length cA)) 25) := ⟨by rw [← hw1]; exact blk_alloc (blk_alloc (blk_new _ _) _) _⟩
  have H1 : Aside0 (IsB w1 (w.heap.size + 1) #[.int .i64 0] 3) := ⟨by rw [← hw1]; exact blk_alloc (new1 w _ _ 25 3) _⟩
  have H2 : Aside0 (IsB w1 (w.heap.size + 1 + 1) #[.int .i64 0] 26) := ⟨by rw [← hw1]; have h := blk_new ((w.alloc (Obj.cells #[Value.int IntKind.i64 R, Value.int IntKind.i64 C, Value.int IntKind.i64 wd, Value.slice (some ad) l.length cA] 25)).alloc (Obj.cells #[Value.int IntKind.i64 0] 3)) (Obj.cells #[Value.int IntKind.i64 0] 26); simp only [World.size_alloc] at h; exact h⟩
  clear hw1
  refine (tensor_Check.calls (l.length + 3) R C wd (some ad) cA l 0 w1 (Kd.C_below HH.out.1 HB.out) HH.out.2.1 (by rw [check_eq _ _ _ wd l (by have := HH.out.2.2.2.1; omega) (by omega), HH.out.2.2.2.2])).mono ?_
  rintro e w2 ⟨rfl, hb⟩
  have HB2 := Aside0.mk (below_step HB.out hb)
  have H02 := Aside0.mk (blk_below H0.out hb)
  have H12 := Aside0.mk (blk_below H1.out hb)
  have H22 := Aside0.mk (blk_below H2.out hb)
  clear hb HB H0 H1 H2
  have a0 := blk_cell H02.out 0
  have a1 := blk_cell H02.out 1
  have a2 := blk_cell H02.out 2
  have a3 := blk_cell H02.out 3
  simp only [List.getElem?_toArray, List.getElem?_cons_zero, List.getElem?_cons_succ] at a0 a1 a2 a3
  gi_wp2_with fail
  refine ⟨trivial, callsIn_wide.2 ?_⟩
  refine (rows_calls R C wd (some ad) l.length cA w2).mono ?_
  rintro e w3 ⟨rfl, rfl⟩
  have HB3 := Aside0.mk (below_alloc HB2.out (Obj.cells (row4 R C wd (.slice (some ad) l.length cA)) 25))
  have H03 := Aside0.mk (blk_alloc H02.out (Obj.cells (row4 R C wd (.slice (some ad) l.length cA)) 25))
  have H13 := Aside0.mk (blk_alloc H12.out (Obj.cells (row4 R C wd (.slice (some ad) l.length cA)) 25))
  have H23 := Aside0.mk (blk_alloc H22.out (Obj.cells (row4 R C wd (.slice (some ad) l.length cA)) 25))
  have HR3 := Aside0.mk (blk_new w2 (Obj.cells (row4 R C wd (.slice (some ad) l.length cA)) 25))
  have HS3 := Aside0.mk (World.size_alloc w2 (Obj.cells (row4 R C wd (.slice (some ad) l.length cA)) 25))
  clear HB2 H02 H12 H22 a0 a1 a2 a3
  gi_wp2
  generalize w2.alloc (Obj.cells (row4 R C wd (.slice (some ad) l.length cA)) 25) = w3 at HB3 H03 H13 H23 HR3 HS3 ⊢
  generalize w2.heap.size = Bs at HR3 HS3 ⊢
  obtain ⟨hwd, hR1, hC1, hR2, hC2, hRC, hlen, hsz⟩ := check_form HH.out.2.2.2.2
  have hwd' := Aside0.mk hwd
  have HN : Aside0 (1 ≤ C ∧ R ≤ 4096 ∧ C ≤ 4096 ∧ l.length = R * C) := ⟨⟨by omega, by omega, by omega, by rw [← Int.natCast_mul] at hlen; omega⟩⟩
  clear hwd hR1 hC1 hR2 hC2 hRC hlen hsz
  refine wpIn_rangeFunc_ownF (F := Fence.wide) rfl (by omega) (gf := 84) (lb := #[.pointer (some ⟨Bs, 0, none⟩)]) rfl trivial (enters_of Try.func84 (by kernel_rfl) rfl)
    (rows_stops Fence.wide _ trivial rfl (by omega) Bs w3.heap.size R C wd ad l.length cA HN.out.1 HN.out.2.1 HN.out.2.2.1 (by rw [← HN.out.2.2.2]; exact HH.out.2.1) HH.out.2.2.1 (blk_lt HR3.out) w3 (Nat.le_refl _) HR3.out) belowK_t (belowK_b (Nat.le_refl _)) (Below.refl _ _) (fun _ => rfl)
    (fun pre W => (∀ y ∈ pre, rowOk C wd l y.1) ∧ Below w3.heap.size w3 W)
    (fun c pre W => (c = .ret ∧ ∃ ini last j, pre = ini ++ [last] ∧ (∀ y ∈ ini, rowOk C wd l y.1) ∧ j < C ∧ (∀ i, i < j → ¬ badC wd (rd l ((last.1 * C + i : Nat) : Int))) ∧ badC wd (rd l ((last.1 * C + j : Nat) : Int)) ∧ IsB W (w.heap.size + 1) #[.int .i64 ((last.1 * C + j : Nat) : Int)] 3 ∧ IsB W (w.heap.size + 1 + 1) #[.int .i64 (if classV (rd l ((last.1 * C + j : Nat) : Int)) wd = 4 then 30 else 31)] 26) ∧ Below w.heap.size w W)
    (OwnFrom.and (ownFrom_pure _ _) (ownFrom_below (Nat.le_refl _) (Nat.le_refl _)))
    (fun c => OwnFrom.and (Own.from (fun s A B row hs hg hr => by
      obtain ⟨hc, ini, last, j, e1, e2, e3, e4, e5, e6, e7⟩ := hs
      exact ⟨hc, ini, last, j, e1, e2, e3, e4, e5, isB_own e6 hg hr, isB_own e7 hg hr⟩) _) (ownFrom_below (Nat.le_refl _) (below_size HB3.out)))
    ⟨by simp, Below.refl _ _⟩
    (fun x => { tmps := #[.agg #[.int .i64 R, .int .i64 C, .int .i64 wd, .slice (some ad) l.length cA], .pointer (some ⟨w.heap.size, 0, none⟩), .pointer (some ⟨w.heap.size + 1, 0, none⟩), .pointer (some ⟨w.heap.size + 1 + 1, 0, none⟩), .int .i64 0, .int .i64 (x.1 : Int), .slice (some (ad.add (x.1 * C))) C C, undef, undef, .agg #[.int .i64 R, .int .i64 C, .int .i64 wd, .slice (some ad) l.length cA], .int .i64 0, .int .i64 0, .bool false, undef, .agg #[.int .i64 R, .int .i64 C, .int .i64 wd, .slice (some ad) l.length cA], .func (.func 84) #[] #[.pointer (some ⟨Bs, 0, none⟩)], .int .i64 (x.1 : Int), .slice (some (ad.add (x.1 * C))) C C, undef, undef, undef, undef, undef, undef, undef, undef, undef, undef, undef, undef, undef, undef, undef, undef, undef, undef, undef, undef, undef, undef, undef, undef, undef, undef, undef, undef], defers := [] }) ?assign ?body ?done ?stop
  case assign =>
    intro l x W K hK
    gi_wp2
    exact hK
  case body =>
    rintro lp pre ⟨xv, hxv⟩ W ⟨hp, hB⟩ hln
    dsimp only
    have HP := Aside0.mk (And.intro hp (And.intro hB hxv))
    clear hp hB hln
    have H0 := Aside0.mk (blk_below H03.out HP.out.2.1)
    have HCW := Aside0.mk (Kd.C_below (Kd.C_below HH.out.1 HB3.out) HP.out.2.1)
    gi_wp2
    gi_loopw [20] (fun v wr => ∃ i : Nat, v = .int .i64 i ∧ Aside0 (i ≤ C ∧ (∀ j, j < i → ¬ badC wd (rd l ((xv * C + j : Nat) : Int)))) ∧ Aside0 (Below W.heap.size W wr))
      (fun v _ => C - (intOf v).toNat)
    case atStart => exact ⟨0, rfl, ⟨Nat.zero_le _, fun j hj => absurd hj (by omega)⟩, ⟨Below.refl _ _⟩⟩
    case round =>
      obtain ⟨i, rfl, HI, HBr⟩ := hrel
      by_cases hlt : i < C
      · have d1 : decide (i < C) = true := decide_eq_true hlt
        obtain ⟨o, q, ho, hq, hw1, hw2, hin⟩ := el_nums (x := xv) (i := i) (R := R) (C := C) HP.out.2.2 HN.out.2.1 HN.out.2.2.1 hlt
        have hel := Kd.at_int HCW.out ((q : Nat) : Int) (by omega) (by have := HN.out.2.2.2; omega)
        obtain ⟨ad2, hA2, hel⟩ := hel
        injection hA2 with hA2
        subst hA2
        rw [Int.toNat_natCast, ← hq, ← ho, ← Go.Proofs.YtklomikdihlcgaaW.PrintWords.add_add] at hel
        have helr := (HBr.out.cell (World.block_lt_of_cell? _ _ hel)).trans hel
        have HQ := Aside0.mk (And.intro ho hq)
        obtain ⟨E, hE⟩ : ∃ E, E = rd l ((xv * C + i : Nat) : Int) := ⟨_, rfl⟩
        rw [← hE] at helr
        have HE := Aside0.mk hE
        have HLT := Aside0.mk hlt
        have H0r := Aside0.mk (blk_below H0.out HBr.out)
        have a1 := blk_cell H0r.out 1
        have a2 := blk_cell H0r.out 2
        simp only [List.getElem?_toArray, List.getElem?_cons_zero, List.getElem?_cons_succ] at a1 a2
        have hix := eq_true hlt
        clear hE hel ho hq hin hlt
        gi_wp2_with fail
        refine ⟨trivial, ?_⟩
        refine (CallsIn.inRound lp (callsIn_wide.2 (bits_Class.calls 1 E wd (classV E wd) wr (bclass_eq 0 E wd hwd'.out)))).mono ?_
        rintro e w5 ⟨rfl, hb⟩
        have HB5 := Aside0.mk (HBr.out.trans (hb.mono HBr.out.size))
        have H05 := Aside0.mk (blk_below H0r.out hb)
        have H15 := Aside0.mk (blk_below (blk_below H13.out HP.out.2.1) HB5.out)
        have H25 := Aside0.mk (blk_below (blk_below H23.out HP.out.2.1) HB5.out)
        clear hb a1 a2 helr
        have a1 := blk_cell H05.out 1
        have r0 := blk_cell H15.out 0
        have s0 := blk_cell H25.out 0
        simp only [List.getElem?_toArray, List.getElem?_cons_zero, List.getElem?_cons_succ] at a1 r0 s0
        have rf0 := blk_frozen H15.out 0
        have sf0 := blk_frozen H25.out 0
        by_cases h4 : classV E wd = 4
        · have h4b : (classV E wd == 4) = true := by simpa using h4
          gi_wp2
          exact leave_ok HP HB5 HB3 H15 H25 HI.out.2 HLT.out HE.out (by unfold badC; exact Or.inl h4) (by rw [← HQ.out.2, ← HQ.out.1]) (by rw [if_pos h4])
        · have h4b : (classV E wd == 4) = false := by simpa using h4
          by_cases h3 : classV E wd = 3
          · have h3b : (classV E wd == 3) = true := by simpa using h3
            gi_wp2
            exact leave_ok HP HB5 HB3 H15 H25 HI.out.2 HLT.out HE.out (by unfold badC; exact Or.inr h3) (by rw [← HQ.out.2, ← HQ.out.1]) (by rw [if_neg h4])
          · have h3b : (classV E wd == 3) = false := by simpa using h3
            gi_wp2
            refine ⟨⟨i + 1, next_i6 (by have := HN.out; have := HLT.out; omega), ⟨HLT.out, fun j hj => ?_⟩, HB5⟩, ?_⟩
            · by_cases hji : j = i
              · subst hji
                rw [← HE.out]
                unfold badC
                omega
              · exact HI.out.2 j (by omega)
            · rw [IntWalk.wrap64_in ((i : Int) + 1) (by have := HN.out; have := HLT.out; omega)]
              have := HLT.out
              simp [intOf]; omega
      · have d1 : decide (i < C) = false := decide_eq_false hlt
        gi_wp2
        have hic : i = C := by have := HI.out.1; omega
        refine ⟨keepsOthers_below HBr.out, HBr.out.mono HP.out.2.1.size, fun y hy => ?_, HP.out.2.1.trans (HBr.out.mono HP.out.2.1.size)⟩
        rcases List.mem_append.1 hy with hy | hy
        · exact HP.out.1 y hy
        · simp at hy
          subst hy
          rw [hic] at HI
          exact HI.out.2
  case done =>
    rintro D ys W hD rfl ⟨hne, hB⟩ hK
    have H1 := Aside0.mk (blk_below H13.out hB)
    have H2 := Aside0.mk (blk_below H23.out hB)
    have r0 := blk_cell H1.out 0
    have s0 := blk_cell H2.out 0
    simp only [List.getElem?_toArray, List.getElem?_cons_zero, List.getElem?_cons_succ] at r0 s0
    have rf0 := blk_frozen H1.out 0
    have sf0 := blk_frozen H2.out 0
    gi_wp2
    have E1 := blk_far (blk_set H1.out 0 (.int .i64 0)) (p := ⟨w.heap.size + 1 + 1, 0, none⟩) (by simp) (.int .i64 0)
    have E2 := blk_set (blk_far H2.out (p := ⟨w.heap.size + 1, 0, none⟩) (by simp) (.int .i64 0)) 0 (.int .i64 0)
    have hK' := ((KeepsOthers.setCell W ⟨w.heap.size + 1, 0, none⟩ (.int .i64 0)).trans (KeepsOthers.setCell _ ⟨w.heap.size + 1 + 1, 0, none⟩ (.int .i64 0))).same D _ hK rfl
    have HBe : Below w.heap.size w ((W.setCell ⟨w.heap.size + 1, 0, none⟩ (.int .i64 0)).setCell ⟨w.heap.size + 1 + 1, 0, none⟩ (.int .i64 0)) := Below.setCell (Below.setCell (below_step HB3.out hB) (p := ⟨w.heap.size + 1, 0, none⟩) (by simp) _) (p := ⟨w.heap.size + 1 + 1, 0, none⟩) (by simp; omega) _
    refine ⟨by simp, .inl ⟨_, _, rfl, run_takeDeferred hK', ?_⟩⟩
    have c5 := blk_cell (isB_own E1 (grownBy_putObj' _ D (.deferred none)) (fun r e => by cases e; exact ⟨_, hK', rfl⟩)) 0
    have c6 := blk_cell (isB_own E2 (grownBy_putObj' _ D (.deferred none)) (fun r e => by cases e; exact ⟨_, hK', rfl⟩)) 0
    simp only [List.setIfInBounds_toArray, List.set_cons_zero, List.getElem?_toArray, List.getElem?_cons_zero] at c5 c6
    refine ⟨.tuple #[.int .i64 0, .int .i64 0], ?_, by rw [stopV_none wd l 0 (rows_all HN.out.1 HN.out.2.2.2 (fun y => hne y (by rw [mem_firstR (Nat.le_refl _)]; exact y.2)))], HBe.trans (belowK_b (w := w) (Nat.le_refl _) _ D _ _ (Nat.le_trans (below_size HB3.out) hD) hK' rfl rfl)⟩
    simp [results, Try.results28, go_sem, c5, c6]
  case stop =>
    rintro D c pre W hD ⟨k, hk, rfl⟩ ⟨⟨rfl, ini, last, j, e1, e2, e3, e4, e5, e6, e7⟩, hB⟩ hK
    gi_wp2
    refine ⟨by simp, .inl ⟨_, _, rfl, run_takeDeferred hK, ?_⟩⟩
    have c5 := blk_cell (isB_own e6 (grownBy_putObj' _ D (.deferred none)) (fun r e => by cases e; exact ⟨_, hK, rfl⟩)) 0
    have c6 := blk_cell (isB_own e7 (grownBy_putObj' _ D (.deferred none)) (fun r e => by cases e; exact ⟨_, hK, rfl⟩)) 0
    simp only [List.getElem?_toArray, List.getElem?_cons_zero] at c5 c6
    have hst := rows_some (R := R) HN.out.1 HN.out.2.2.2 hk e1 e2 e3 e4 e5
    refine ⟨.tuple #[.int .i64 ((last.1 * C + j : Nat) : Int), .int .i64 (if classV (rd l ((last.1 * C + j : Nat) : Int)) wd = 4 then 30 else 31)], ?_, by rw [hst], hB.trans (belowK_b (w := w) (Nat.le_refl _) W D _ _ (Nat.le_trans (below_size HB3.out) hD) hK rfl rfl)⟩
    simp [results, Try.results28, go_sem, c5, c6]

end Go.Proofs.Ytklomikdihlcgaa
