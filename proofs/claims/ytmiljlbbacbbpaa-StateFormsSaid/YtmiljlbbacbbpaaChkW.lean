/- state.Check: what it answers, plainly. -/
import Derived.Test.YtmiljlbbacbbpaaFitP
import Derived.Test.YtmiljlbbacbbpaaMat
namespace Go.Proofs.Ytmiljlbbacbbpaa
open Go.RowKit PBase
open Go.Proofs.YtmiljlbbacbbpaaW.PrintWords Go.Proofs.YtmiljlbbacbbpaaW.PrintLast Go.Proofs.YtmiljlbbacbbpaaW.PrintMore
set_option linter.unusedVariables false
set_option linter.unusedSimpArgs false

def sizeM (m : S56) : Int := 5 + (m.f3.length : Int) * (m.f2 / 8)
def matsC : List S56 → Int → Option Int
  | [], t => some t
  | m :: ms, t => if fitsV m = true then matsC ms (t + sizeM m) else none
def listsC : Nat → List (List S56) → Int → Option Int
  | _, [], t => some t
  | i, s :: ss, t => if 0 < i ∧ 4 < s.length then none else (matsC s (if 0 < i then t + 1 else t)).bind fun t => listsC (i + 1) ss t
def place (x : Int) : Prop := 0 ≤ x ∧ x ≤ 1099511627776
instance (x : Int) : Decidable (place x) := inferInstanceAs (Decidable (_ ∧ _))
def checkL (ls : List Int) : Bool := ls.all fun x => decide (place x)
def endC (o : Option Int) : Int := match o with
  | none => 43
  | some t => if 16777216 < t then 2 else 0
def checkV (s0 s1 s2 : Int) (ps : List S56) (ss : List (List S56)) : Int :=
  if checkL [s0, s1, s2] = false then 43 else
  if 64 < ps.length ∨ 64 < ss.length then 43 else
  endC (listsC 0 (ps :: ss) 52)

theorem info22t : (Try.prog.info? 22).map (fun i => (i.zero, i.size, i.bytes)) = some (some (.slice none 0 0), 1, 24) := by kernel_rfl
theorem blk_newF {W : World} {o : Obj} {k : Nat} (h : k = W.heap.size) : (W.alloc o).heap[k]? = some o := h ▸ blk_new W o
theorem at_F {w0 w : World} {A : Option Addr} {n : Nat} {xs : List (List S56)} (h : Kd.C (Kd.fixed (Kd.slice 56 k56) w0) w A n xs) (i : Nat) (hi : i < n) : ∃ ad A0 c0, A = some ad ∧ w.cell? (ad.add i) = some (.slice A0 (xs.getD i []).length c0) ∧ (xs.getD i []).length ≤ c0 ∧ k56.C w0 A0 (xs.getD i []).length (xs.getD i []) := by
  obtain ⟨ad, c, e, _, hK, hc0⟩ := Kd.C_get h ([] : List S56) (i : Int) (by omega) (by omega)
  have hc : ∀ j u, c[j]? = some u → w.cell? (ad.add (i * 1 + j)) = some u := hc0
  obtain ⟨A0, c0, rfl, l0, g0⟩ := hK
  exact ⟨ad, A0, c0, e, by have hq := hc 0 _ rfl; rwa [Nat.mul_one, Nat.add_zero] at hq, l0, g0⟩

theorem R_fix1 (w W : World) (base : Nat) (hb : base ≤ W.heap.size) (xs : List S56) (u : Value) (h : (Kd.slice 56 k56).K w xs [u]) :
    (Kd.fixed (Kd.slice 56 k56) w).R 22 (W.alloc (.cells #[u] 22)) base (fun _ => True) (.slice (some ⟨W.heap.size, 0, none⟩) 1 1) [xs] := by
  refine ⟨fun _ _ => trivial, [u], ?_, ?_⟩
  · have h2 := World.ownsRow_lit (base := base) (e := 22) (size := 1) W #[u] 1 hb (by simp [maxLen]) (by simp)
    have h3 : (W.alloc (.cells #[u] 22)).ownsRow base 22 1 (.slice (some ⟨W.heap.size, 0, none⟩) 1 1) 1 [u] := by simpa using h2
    exact h3
  · refine ⟨rfl, fun j p hj => ?_⟩
    obtain ⟨hl, hp⟩ := List.getElem?_eq_some_iff.1 hj
    have : j = 0 := by simpa using hl
    subst this
    simp at hp
    subst hp
    exact h
theorem matsC_drop (s : List S56) (j : Nat) (h : j < s.length) (t : Int) : matsC (s.drop j) t = if fitsV (rd_T56 s j) = true then matsC (s.drop (j + 1)) (t + sizeM (rd_T56 s j)) else none := by
  rw [List.drop_eq_getElem_cons h, show rd_T56 s j = s[j] by simp [rd_T56, List.getD_eq_getElem?_getD, h]]
  rfl
theorem listsC_drop (L : List (List S56)) (i : Nat) (h : i < L.length) (t : Int) : listsC i (L.drop i) t = if 0 < i ∧ 4 < (L.getD i []).length then none else (matsC (L.getD i []) (if 0 < i then t + 1 else t)).bind fun t => listsC (i + 1) (L.drop (i + 1)) t := by
  rw [List.drop_eq_getElem_cons h, show L.getD i [] = L[i] by simp [List.getD_eq_getElem?_getD, h]]
  rfl
theorem fits_size {m : S56} (h : fitsV m = true) : (m.f2 = 32 ∨ m.f2 = 64) ∧ m.f3.length ≤ 4096 := by
  unfold fitsV at h
  simp only [Bool.and_eq_true, decide_eq_true_eq] at h
  obtain ⟨⟨⟨⟨⟨⟨h1, h2⟩, h3⟩, h4⟩, h5⟩, h6⟩, _⟩ := h
  refine ⟨h1, ?_⟩
  have h7 : m.f0 * m.f1 ≤ m.f0 * (4096 / m.f0) := Int.mul_le_mul_of_nonneg_left (by omega) (by omega)
  have h8 : m.f0 * (4096 / m.f0) ≤ 4096 := Int.mul_ediv_self_le (by omega)
  omega

theorem size_arith {m : S56} {u : Int} (h : fitsV m = true) (hu0 : 0 ≤ u) (hu : u ≤ 1000000000) : ∃ nb : Nat, m.f2 / 8 = (nb : Int) ∧ wrap64 (m.f2.tdiv 8) = (nb : Int) ∧ sizeM m = 5 + (m.f3.length : Int) * (nb : Int) ∧ (0 ≤ (m.f3.length : Int) * (nb : Int) ∧ (m.f3.length : Int) * (nb : Int) ≤ 32768) ∧
    wrap64 ((m.f3.length : Int) * (nb : Int)) = (m.f3.length : Int) * (nb : Int) ∧ wrap64 (5 + (m.f3.length : Int) * (nb : Int)) = 5 + (m.f3.length : Int) * (nb : Int) ∧ wrap64 (u + (5 + (m.f3.length : Int) * (nb : Int))) = u + (5 + (m.f3.length : Int) * (nb : Int)) := by
  obtain ⟨hw, hl⟩ := fits_size h
  have key : ∀ nb : Nat, m.f2 / 8 = (nb : Int) → nb ≤ 8 → sizeM m = 5 + (m.f3.length : Int) * (nb : Int) ∧ (0 ≤ (m.f3.length : Int) * (nb : Int) ∧ (m.f3.length : Int) * (nb : Int) ≤ 32768) ∧ wrap64 ((m.f3.length : Int) * (nb : Int)) = (m.f3.length : Int) * (nb : Int) ∧ wrap64 (5 + (m.f3.length : Int) * (nb : Int)) = 5 + (m.f3.length : Int) * (nb : Int) ∧ wrap64 (u + (5 + (m.f3.length : Int) * (nb : Int))) = u + (5 + (m.f3.length : Int) * (nb : Int)) := by
    intro nb h1 h2
    have hP0 : 0 ≤ (m.f3.length : Int) * (nb : Int) := Int.mul_nonneg (by omega) (by omega)
    have hP1 : (m.f3.length : Int) * (nb : Int) ≤ 4096 * 8 := Int.mul_le_mul (by omega) (by omega) (by omega) (by decide)
    have hsz : sizeM m = 5 + (m.f3.length : Int) * (nb : Int) := by unfold sizeM; rw [h1]
    generalize (m.f3.length : Int) * (nb : Int) = P at hP0 hP1 hsz ⊢
    exact ⟨hsz, ⟨hP0, by omega⟩, IntWalk.wrap64_in _ (by omega), IntWalk.wrap64_in _ (by omega), IntWalk.wrap64_in _ (by omega)⟩
  rcases hw with hw | hw
  · exact ⟨4, by rw [hw]; rfl, by rw [hw]; exact IntWalk.wrap64_in _ (by decide), key 4 (by rw [hw]; rfl) (by decide)⟩
  · exact ⟨8, by rw [hw]; rfl, by rw [hw]; exact IntWalk.wrap64_in _ (by decide), key 8 (by rw [hw]; rfl) (by decide)⟩

set_option maxHeartbeats 4000000 in
set_option maxRecDepth 100000 in
theorem check_any (s0 s1 s2 : Int) (A3 A4 : Option Addr) (c3 c4 : Nat) (ps : List S56) (ss : List (List S56)) (lo ra : Int) (w : World) (hp : Kd.C k56 w A3 ps.length ps) (hpc : ps.length ≤ c3) (hs : Kd.C (Kd.slice 56 k56) w A4 ss.length ss) (hsc : ss.length ≤ c4) :
    Calls Try.prog 17 #[.agg #[.int .i64 s0, .int .i64 s1, .int .i64 s2, .slice A3 ps.length c3, .slice A4 ss.length c4, .int .i64 lo, .int .i64 ra]] w fun e w' => e = .returned (.int .i64 (checkV s0 s1 s2 ps ss)) ∧ Below w.heap.size w w' := by
  obtain ⟨res, hres⟩ : ∃ r, r = checkV s0 s1 s2 ps ss := ⟨_, rfl⟩
  rw [← hres]
  unfold checkV at hres
  have HRES := Aside0.mk hres
  have HP := Aside0.mk (And.intro hp hpc)
  have HS := Aside0.mk (And.intro hs hsc)
  clear hres hp hpc hs hsc
  obtain ⟨cres, hcres⟩ : ∃ r, r = checkL [s0, s1, s2] := ⟨_, rfl⟩
  rw [← hcres] at HRES
  have HC := Aside0.mk hcres.symm
  clear hcres
  go_enter Try.func17, Try.ntmps17
  have HB0 : Aside0 (IsB ((w.alloc (.cells #[.int .i64 s0, .int .i64 s1, .int .i64 s2, .slice A3 ps.length c3, .slice A4 ss.length c4, .int .i64 lo, .int .i64 ra] 25)).alloc (.cells #[.int .i64 s0, .int .i64 s1, .int .i64 s2] 3)) w.heap.size #[.int .i64 s0, .int .i64 s1, .int .i64 s2, .slice A3 ps.length c3, .slice A4 ss.length c4, .int .i64 lo, .int .i64 ra] 25) := ⟨blk_alloc (blk_new w _) _⟩
  have HB1 : Aside0 (IsB ((w.alloc (.cells #[.int .i64 s0, .int .i64 s1, .int .i64 s2, .slice A3 ps.length c3, .slice A4 ss.length c4, .int .i64 lo, .int .i64 ra] 25)).alloc (.cells #[.int .i64 s0, .int .i64 s1, .int .i64 s2] 3)) (w.heap.size + 1) #[.int .i64 s0, .int .i64 s1, .int .i64 s2] 3) := ⟨blk_newF (by simp)⟩
  have HBL : Aside0 (Below w.heap.size w ((w.alloc (.cells #[.int .i64 s0, .int .i64 s1, .int .i64 s2, .slice A3 ps.length c3, .slice A4 ss.length c4, .int .i64 lo, .int .i64 ra] 25)).alloc (.cells #[.int .i64 s0, .int .i64 s1, .int .i64 s2] 3))) := ⟨((Below.refl w.heap.size w).alloc (by omega) _).alloc (by simp) _⟩
  go_wp2_with fail
  generalize (w.alloc (.cells #[.int .i64 s0, .int .i64 s1, .int .i64 s2, .slice A3 ps.length c3, .slice A4 ss.length c4, .int .i64 lo, .int .i64 ra] 25)).alloc (.cells #[.int .i64 s0, .int .i64 s1, .int .i64 s2] 3) = w1 at HB0 HB1 HBL ⊢
  go_loopg [4, 19] 3 (fun kq v4 v19 w' => ∃ i : Nat, v19 = .int .i64 i ∧ Aside0 (i + kq = 3 ∧ checkL (([s0, s1, s2] : List Int).drop i) = cres) ∧ w' = w1)
  case atStart => exact ⟨0, rfl, ⟨⟨rfl, HC.out⟩⟩, rfl⟩
  case round =>
    obtain ⟨i, rfl, HI, rfl⟩ := hrel
    by_cases hlt : i < 3
    · have d4 : decide ((i : Int) < (3 : Int)) = true := decide_eq_true (by omega)
      have d5 : decide ((i : Int) < ((3 : Nat) : Int)) = true := decide_eq_true (by omega)
      obtain ⟨x, hx⟩ : ∃ x, x = ([s0, s1, s2] : List Int).getD i 0 := ⟨_, rfl⟩
      have hcx : (#[.int .i64 s0, .int .i64 s1, .int .i64 s2] : Array Value)[i]? = some (.int .i64 x) := by
        rcases (show i = 0 ∨ i = 1 ∨ i = 2 by omega) with rfl | rfl | rfl <;> (subst hx; rfl)
      have hcell := (blk_cell HB1.out i).trans hcx
      clear hcx
      have hdrop : ([s0, s1, s2] : List Int).drop i = x :: ([s0, s1, s2] : List Int).drop (i + 1) := by rcases (show i = 0 ∨ i = 1 ∨ i = 2 by omega) with rfl | rfl | rfl <;> (subst hx; rfl)
      have HH := Aside0.mk (show cres = (decide (place x) && checkL (([s0, s1, s2] : List Int).drop (i + 1))) by rw [← HI.out.2, hdrop]; rfl)
      have HLT := Aside0.mk hlt
      clear hx hdrop hlt
      have i0 : (0 : Int) ≤ (i : Int) := by omega
      have i1 : (i : Int) < 3 := by have := HLT.out; omega
      by_cases h1 : x < 0
      · have t1 : decide (x < 0) = true := decide_eq_true h1
        have HR : Aside0 (res = 43) := ⟨by rw [HRES.out, HH.out, decide_eq_false (show ¬ place x by unfold place; omega)]; rfl⟩
        clear h1
        go_wp2
        refine bodyPost_ret (v := .int .i64 43) (by simp [results, Try.results17, go_sem]) rfl ?_
        rw [HR.out]
        exact ⟨rfl, HBL.out⟩
      · have t1 : decide (x < 0) = false := decide_eq_false h1
        by_cases h2 : 1099511627776 < x
        · have t2 : decide (1099511627776 < x) = true := decide_eq_true h2
          have HR : Aside0 (res = 43) := ⟨by rw [HRES.out, HH.out, decide_eq_false (show ¬ place x by unfold place; omega)]; rfl⟩
          clear h1 h2
          go_wp2
          refine bodyPost_ret (v := .int .i64 43) (by simp [results, Try.results17, go_sem]) rfl ?_
          rw [HR.out]
          exact ⟨rfl, HBL.out⟩
        · have t2 : decide (1099511627776 < x) = false := decide_eq_false h2
          have HH2 := Aside0.mk (show checkL (([s0, s1, s2] : List Int).drop (i + 1)) = cres by rw [HH.out, decide_eq_true (show place x by unfold place; omega)]; rfl)
          clear h1 h2
          go_wp2_with fail
          go_roundg (gk - 1)
          case measure => have := HI.out; have := HLT.out; omega
          case rel => exact ⟨i + 1, (by first | rfl | exact next_i6 (by have := HLT.out; omega)), ⟨⟨by have := HI.out; have := HLT.out; omega, HH2.out⟩⟩, rfl⟩
    · have d4 : decide ((i : Int) < (3 : Int)) = false := decide_eq_false (by omega)
      have d5 : decide ((i : Int) < ((3 : Nat) : Int)) = false := decide_eq_false (by omega)
      have hcr : cres = true := by rw [← HI.out.2, show i = 3 by have := HI.out; omega]; rfl
      replace HRES := Aside0.mk (show res = if 64 < ps.length ∨ 64 < ss.length then 43 else endC (listsC 0 (ps :: ss) 52) by rw [HRES.out, hcr]; rfl)
      clear hcr hlt HC HI HB1
      have m3 := (blk_cell HB0.out 3).trans rfl
      have m4 := (blk_cell HB0.out 4).trans rfl
      by_cases h1 : 64 < ps.length
      · have t1 : decide (64 < ps.length) = true := decide_eq_true h1
        have t1' : decide ((64 : Int) < (ps.length : Int)) = true := decide_eq_true (by omega)
        have HR : Aside0 (res = 43) := ⟨by rw [HRES.out, if_pos (Or.inl h1)]⟩
        clear h1
        go_wp2
        refine bodyPost_ret (v := .int .i64 43) (by simp [results, Try.results17, go_sem]) rfl ?_
        rw [HR.out]
        exact ⟨rfl, HBL.out⟩
      · have t1 : decide (64 < ps.length) = false := decide_eq_false h1
        have t1' : decide ((64 : Int) < (ps.length : Int)) = false := decide_eq_false (by omega)
        by_cases h2 : 64 < ss.length
        · have t2 : decide (64 < ss.length) = true := decide_eq_true h2
          have t2' : decide ((64 : Int) < (ss.length : Int)) = true := decide_eq_true (by omega)
          have HR : Aside0 (res = 43) := ⟨by rw [HRES.out, if_pos (Or.inr h2)]⟩
          clear h1 h2
          go_wp2
          refine bodyPost_ret (v := .int .i64 43) (by simp [results, Try.results17, go_sem]) rfl ?_
          rw [HR.out]
          exact ⟨rfl, HBL.out⟩
        · have t2 : decide (64 < ss.length) = false := decide_eq_false h2
          have t2' : decide ((64 : Int) < (ss.length : Int)) = false := decide_eq_false (by omega)
          have HLN := Aside0.mk (show ps.length ≤ 64 ∧ ss.length ≤ 64 from ⟨by omega, by omega⟩)
          obtain ⟨lres, hlres⟩ : ∃ r, r = listsC 0 (ps :: ss) 52 := ⟨_, rfl⟩
          replace HRES := Aside0.mk (show res = endC lres by rw [HRES.out, if_neg (by omega), hlres])
          have HLR := Aside0.mk hlres.symm
          clear h1 h2 hlres
          go_wp2_with fail
          refine (state_head.calls [112, 115, 116, 1] _ rfl).mono ?_
          rintro e w2 ⟨v0, rfl, hV, hb⟩
          obtain ⟨A0, c0, hv0⟩ := Kd.R_slice hV
          subst hv0
          have HB2 := Aside0.mk (blk_below HB0.out hb)
          have HBL2 := Aside0.mk (HBL.out.trans (hb.mono HBL.out.size))
          clear hb hV HB0 HBL m3 m4
          have m3 := (blk_cell HB2.out 3).trans rfl
          have m4 := (blk_cell (blk_alloc HB2.out (Obj.cells #[.slice A3 ps.length c3] 22)) 4).trans rfl
          have HO := Aside0.mk (R_fix1 w w2 w.heap.size HBL2.out.size ps (.slice A3 ps.length c3) ⟨A3, c3, rfl, HP.out.2, HP.out.1⟩)
          have HBA := Aside0.mk (HBL2.out.alloc HBL2.out.size (Obj.cells #[.slice A3 ps.length c3] 22))
          go_wp2_with ((with_reducible refine gate_builtin (b := .append) (xs := #[.tmp 48, .tmp 50]) rfl ?_); at_builtin; refine Kd.R_append_rows (Kd.fixed (Kd.slice 56 k56) w) (Rr := (Kd.slice 56 k56).K w) (w0 := w) w.heap.size rfl (.tmp 48) (.tmp 50) 23 22 (.slice none 0 0) 24 rfl Try.underlying23 info22t rfl (show 0 < 1 by decide) (by omega) (.slice (some ⟨w2.heap.size, 0, none⟩) 1 1) [ps] ss A4 ss.length c4 (fun _ => True) (fun _ => False) rfl rfl ?aO ?aR ?aK (fun _ hk => hk.elim) (fun _ _ => trivial) ?aB ?aS ?aL ?_; (case aO => exact HO.out); (case aR => exact ReadsRow.imp_ HS.out.1 HBA.out (fun _ _ h => h)); (case aK => exact fun x cs h => h); (case aB => exact HBA.out); (case aS => exact HBA.out.size); (case aL => (have := HLN.out; show (1 + ss.length) * 24 ≤ 140737488355328; omega)); intro v6 w4 ho hb hg hat; obtain ⟨L, hL⟩ : ∃ L, L = [ps] ++ ss := ⟨_, rfl⟩; rw [← hL] at ho; have HLE := Aside0.mk hL; clear hL; have HO4 := Aside0.mk ho; have HBL4 := Aside0.mk hb; clear ho hb hg hat m3 m4 HO HBA HB2 HBL2; obtain ⟨A6, c6, hv6⟩ := Kd.R_slice HO4.out; subst hv6)
          have HLL := Aside0.mk (show L.length ≤ 65 ∧ (L.getD 0 []).length ≤ 64 from by have := HLN.out; rw [HLE.out]; exact ⟨by simp; omega, by simpa using this.1⟩)
          replace HLR := Aside0.mk (show listsC 0 L 52 = lres by rw [HLE.out]; exact HLR.out)
          clear HLE
          go_loopg [5, 7, 8, 54] L.length (fun kq v5 v7 v8 v54 w' => ∃ (i : Nat) (t : Int), v54 = .int .i64 i ∧ v5 = .int .i64 t ∧ Aside0 (i + kq = L.length ∧ listsC i (L.drop i) t = lres ∧ 0 ≤ t ∧ t ≤ 52 + 2200000 * i) ∧ Aside0 (Below w.heap.size w w') ∧ Aside0 ((Kd.fixed (Kd.slice 56 k56) w).R 22 w' w.heap.size (fun _ => True) (.slice A6 L.length c6) L))
          case atStart => exact ⟨0, 52, rfl, rfl, ⟨⟨by omega, HLR.out, by decide, by decide⟩⟩, HBL4, HO4⟩
          case round =>
            clear HBL4 HO4 HLR
            obtain ⟨i, t, rfl, rfl, HI, HBL, HO⟩ := hrel
            by_cases hlt : i < L.length
            · have d4 : decide ((i : Int) < (L.length : Int)) = true := decide_eq_true (by omega)
              have d5 : decide (i < L.length) = true := decide_eq_true hlt
              obtain ⟨ad, A0', c0', hA6, hcell, hlen, hCs⟩ := at_F (Kd.R_reads' HO.out).2.2 i hlt
              have HSR := Aside0.mk ((listsC_drop L i hlt t).symm.trans HI.out.2.1)
              obtain ⟨s, hs⟩ : ∃ s, s = L.getD i [] := ⟨_, rfl⟩
              rw [← hs] at hcell hlen hCs HSR
              have HCS := Aside0.mk (And.intro hlen hCs)
              have HS0 := Aside0.mk (show i = 0 → s.length ≤ 64 from fun h => by subst h; rw [hs]; exact HLL.out.2)
              have HIB := Aside0.mk (show i < L.length ∧ i ≤ 65 by have := HLL.out; exact ⟨hlt, by omega⟩)
              have i0 : (0 : Int) ≤ (i : Int) := by omega
              have i1 : (i : Int) < (L.length : Int) := by omega
              clear hs hlen hCs hlt
              subst hA6
              obtain ⟨t1, ht1⟩ : ∃ t1, t1 = if 0 < i then t + 1 else t := ⟨_, rfl⟩
              rw [← ht1] at HSR
              have HT1 := Aside0.mk (show 0 ≤ t1 ∧ t1 ≤ 53 + 2200000 * i by have := HI.out; subst ht1; split <;> omega)
              have hcase : (0 < i ∧ 4 < s.length) ∨ (0 < i ∧ s.length ≤ 4 ∧ t1 = t + 1) ∨ (¬ 0 < i ∧ s.length ≤ 64 ∧ t1 = t) := by
                by_cases hi : 0 < i
                · by_cases h4 : 4 < s.length
                  · exact Or.inl ⟨hi, h4⟩
                  · exact Or.inr (Or.inl ⟨hi, by omega, by rw [ht1, if_pos hi]⟩)
                · exact Or.inr (Or.inr ⟨hi, HS0.out (by omega), by rw [ht1, if_neg hi]⟩)
              have hwt : wrap64 (t + 1) = t + 1 := by have := HI.out; have := HIB.out; unfold wrap64; omega
              clear ht1
              rcases hcase with ⟨hi, h4⟩ | hcase
              · have e1 : decide (0 < i) = true := decide_eq_true hi
                have e1' : decide ((0 : Int) < (i : Int)) = true := decide_eq_true (by omega)
                have e2 : decide (4 < s.length) = true := decide_eq_true h4
                have e2' : decide ((4 : Int) < (s.length : Int)) = true := decide_eq_true (by omega)
                have HR : Aside0 (res = 43) := ⟨by rw [HRES.out, ← HSR.out, if_pos ⟨hi, h4⟩]; rfl⟩
                clear hi h4
                go_wp2
                refine bodyPost_ret (v := .int .i64 43) (by simp [results, Try.results17, go_sem]) rfl ?_
                rw [HR.out]
                exact ⟨rfl, HBL.out⟩
              · have HSR2 := Aside0.mk (show (matsC s t1).bind (fun t => listsC (i + 1) (L.drop (i + 1)) t) = lres by rw [← HSR.out, if_neg (by omega)])
                have HS64 := Aside0.mk (show s.length ≤ 64 by omega)
                have HIK := Aside0.mk (show i + gk = L.length from HI.out.1)
                clear HSR HI
                rcases hcase with ⟨hi, h4, rfl⟩ | ⟨hi, h4, rfl⟩
                · have e1 : decide (0 < i) = true := decide_eq_true hi
                  have e1' : decide ((0 : Int) < (i : Int)) = true := decide_eq_true (by omega)
                  have e2 : decide (4 < s.length) = false := decide_eq_false (by omega)
                  have e2' : decide ((4 : Int) < (s.length : Int)) = false := decide_eq_false (by omega)
                  clear hi h4
                  go_wp2_with fail
                  clear hwt
                  generalize hT : t + 1 = T at HSR2 HT1 ⊢
                  obtain ⟨mres, hmres⟩ : ∃ r, r = matsC s T := ⟨_, rfl⟩
                  rw [← hmres] at HSR2
                  have HMR := Aside0.mk hmres.symm
                  clear hmres hT
                  have HWT := Aside0.mk (show wrap64 T = T by have := HT1.out; have := HIB.out; unfold wrap64; omega)
                  go_loopg [5, 10, 68] s.length (fun kq v5 v10 v68 w' => ∃ (j : Nat) (u : Int), v68 = .int .i64 j ∧ v5 = .int .i64 u ∧ Aside0 (j + kq = s.length ∧ matsC (s.drop j) u = mres ∧ 0 ≤ u ∧ u ≤ 53 + 2200000 * i + 33000 * j) ∧ Aside0 (Below w.heap.size w w') ∧ Aside0 ((Kd.fixed (Kd.slice 56 k56) w).R 22 w' w.heap.size (fun _ => True) (.slice (some ad) L.length c6) L))
                  case atStart => exact ⟨0, T, rfl, (by first | rfl | exact congrArg (Value.int .i64) HWT.out), ⟨⟨by omega, HMR.out, HT1.out.1, by have := HT1.out; omega⟩⟩, HBL, HO⟩
                  case round =>
                    clear HBL HO HMR
                    obtain ⟨j, u, rfl, rfl, HJ, HBL, HO⟩ := hrel
                    by_cases hlt : j < s.length
                    · have d6 : decide ((j : Int) < (s.length : Int)) = true := decide_eq_true (by omega)
                      have d7 : decide (j < s.length) = true := decide_eq_true hlt
                      have j0 : (0 : Int) ≤ (j : Int) := by omega
                      have j1 : (j : Int) < (s.length : Int) := by omega
                      obtain ⟨ad2, A5, c5, hA0, k0, k1, k2, k3, hl5, hC5⟩ := at_T56 (Kd.C_below HCS.out.2 HBL.out) (j : Int) (by omega) (by omega)
                      subst hA0
                      have HMS := Aside0.mk ((matsC_drop s j hlt u).symm.trans HJ.out.2.1)
                      obtain ⟨m, hm⟩ : ∃ m, m = rd_T56 s (j : Int) := ⟨_, rfl⟩
                      rw [← hm] at k0 k1 k2 k3 hl5 hC5 HMS
                      simp only [Int.toNat_natCast] at k0 k1 k2 k3
                      have HJB := Aside0.mk (show j + 1 + (gk - 1) = s.length ∧ 0 < gk ∧ j < 64 ∧ 0 ≤ u ∧ u ≤ 53 + 2200000 * i + 33000 * j from by have h1 := HJ.out; have h2 := HS64.out; exact ⟨by omega, by omega, by omega, h1.2.2⟩)
                      have HC5 := Aside0.mk (And.intro hl5 hC5)
                      have HNB := Aside0.mk (blk_new wr (Obj.cells #[.int .i64 m.f0, .int .i64 m.f1, .int .i64 m.f2, .slice A5 m.f3.length c5] 56))
                      clear hl5 hC5 hm hlt HJ
                      go_wp2_with fail
                      refine (fits_calls m A5 c5 _ (Kd.C_alloc HC5.out.2 _) HC5.out.1).mono ?_
                      rintro e w3 ⟨rfl, hb⟩
                      have HN3 := Aside0.mk (blk_below HNB.out hb)
                      have HBL3 := Aside0.mk ((HBL.out.alloc HBL.out.size _).trans (hb.mono (by have := HBL.out.size; simp; omega)))
                      have HO3 := Aside0.mk (Kd.R_below (Kd.R_alloc HO.out _) hb)
                      clear hb HNB HBL HO k0 k1 k2 k3
                      cases hf : fitsV m with
                      | false =>
                        have HR : Aside0 (res = 43) := ⟨by rw [HRES.out, ← HSR2.out, ← HMS.out, hf]; rfl⟩
                        clear hf
                        go_wp2
                        refine bodyPost_ret (v := .int .i64 43) (by simp [results, Try.results17, go_sem]) rfl ?_
                        rw [HR.out]
                        exact ⟨rfl, HBL3.out⟩
                      | true =>
                        have HMS2 := Aside0.mk (show matsC (s.drop (j + 1)) (u + sizeM m) = mres by rw [← HMS.out, if_pos hf])
                        obtain ⟨nb, hx8, htd, hsz, hP, q1, q2, q3⟩ := size_arith (u := u) hf HJB.out.2.2.2.1 (by have h1 := HJB.out.2.2.2.2; have h2 := HIB.out.2; have h3 := HJB.out.2.2.1; omega)
                        have HSZ := Aside0.mk hsz
                        have HPB := Aside0.mk hP
                        have HQ := Aside0.mk (And.intro q1 (And.intro q2 (And.intro q3 htd)))
                        have n2 := (blk_cell HN3.out 2).trans rfl
                        have n3 := (blk_cell HN3.out 3).trans rfl
                        clear hf hsz hP HMS q1 q2 q3 htd hx8
                        go_wp2_with fail
                        go_roundg (gk - 1)
                        case measure => have := HJB.out; omega
                        case rel => exact ⟨j + 1, u + (5 + (m.f3.length : Int) * (nb : Int)), (by first | rfl | exact next_i6 (by have := HJB.out; omega)), (by rw [HQ.out.2.2.2, HQ.out.1, HQ.out.2.1, HQ.out.2.2.1]), ⟨⟨by have := HJB.out; omega, by rw [← HSZ.out]; exact HMS2.out, by have := HJB.out; have := HPB.out; omega, by have := HJB.out; have := HPB.out; omega⟩⟩, HBL3, HO3⟩
                    · have d6 : decide ((j : Int) < (s.length : Int)) = false := decide_eq_false (by omega)
                      have d7 : decide (j < s.length) = false := decide_eq_false hlt
                      have hmr : mres = some u := by rw [← HJ.out.2.1, show j = s.length by have := HJ.out; omega, List.drop_length]; rfl
                      have HLE := Aside0.mk (show listsC (i + 1) (L.drop (i + 1)) u = lres by rw [← HSR2.out, hmr]; rfl)
                      have HUB := Aside0.mk (show 0 ≤ u ∧ u ≤ 52 + 2200000 * (i + 1) by have h1 := HJ.out; have h2 := HS64.out; omega)
                      clear hmr hlt HJ HSR2
                      go_wp2_with fail
                      go_roundg (L.length - (i + 1))
                      case measure => have := HIK.out; have := HIB.out; omega
                      case rel => exact ⟨i + 1, u, (by first | rfl | exact next_i6 (by have := HIB.out; omega)), rfl, ⟨⟨by have := HIB.out; omega, HLE.out, HUB.out.1, by have := HUB.out.2; omega⟩⟩, HBL, HO⟩
                · have e1 : decide (0 < i) = false := decide_eq_false hi
                  have e1' : decide ((0 : Int) < (i : Int)) = false := decide_eq_false (by omega)
                  clear hi h4
                  go_wp2_with fail
                  clear hwt
                  generalize hT : t1 = T at HSR2 HT1 ⊢
                  obtain ⟨mres, hmres⟩ : ∃ r, r = matsC s T := ⟨_, rfl⟩
                  rw [← hmres] at HSR2
                  have HMR := Aside0.mk hmres.symm
                  clear hmres hT
                  have HWT := Aside0.mk (show wrap64 T = T by have := HT1.out; have := HIB.out; unfold wrap64; omega)
                  go_loopg [5, 10, 68] s.length (fun kq v5 v10 v68 w' => ∃ (j : Nat) (u : Int), v68 = .int .i64 j ∧ v5 = .int .i64 u ∧ Aside0 (j + kq = s.length ∧ matsC (s.drop j) u = mres ∧ 0 ≤ u ∧ u ≤ 53 + 2200000 * i + 33000 * j) ∧ Aside0 (Below w.heap.size w w') ∧ Aside0 ((Kd.fixed (Kd.slice 56 k56) w).R 22 w' w.heap.size (fun _ => True) (.slice (some ad) L.length c6) L))
                  case atStart => exact ⟨0, T, rfl, (by first | rfl | exact congrArg (Value.int .i64) HWT.out), ⟨⟨by omega, HMR.out, HT1.out.1, by have := HT1.out; omega⟩⟩, HBL, HO⟩
                  case round =>
                    clear HBL HO HMR
                    obtain ⟨j, u, rfl, rfl, HJ, HBL, HO⟩ := hrel
                    by_cases hlt : j < s.length
                    · have d6 : decide ((j : Int) < (s.length : Int)) = true := decide_eq_true (by omega)
                      have d7 : decide (j < s.length) = true := decide_eq_true hlt
                      have j0 : (0 : Int) ≤ (j : Int) := by omega
                      have j1 : (j : Int) < (s.length : Int) := by omega
                      obtain ⟨ad2, A5, c5, hA0, k0, k1, k2, k3, hl5, hC5⟩ := at_T56 (Kd.C_below HCS.out.2 HBL.out) (j : Int) (by omega) (by omega)
                      subst hA0
                      have HMS := Aside0.mk ((matsC_drop s j hlt u).symm.trans HJ.out.2.1)
                      obtain ⟨m, hm⟩ : ∃ m, m = rd_T56 s (j : Int) := ⟨_, rfl⟩
                      rw [← hm] at k0 k1 k2 k3 hl5 hC5 HMS
                      simp only [Int.toNat_natCast] at k0 k1 k2 k3
                      have HJB := Aside0.mk (show j + 1 + (gk - 1) = s.length ∧ 0 < gk ∧ j < 64 ∧ 0 ≤ u ∧ u ≤ 53 + 2200000 * i + 33000 * j from by have h1 := HJ.out; have h2 := HS64.out; exact ⟨by omega, by omega, by omega, h1.2.2⟩)
                      have HC5 := Aside0.mk (And.intro hl5 hC5)
                      have HNB := Aside0.mk (blk_new wr (Obj.cells #[.int .i64 m.f0, .int .i64 m.f1, .int .i64 m.f2, .slice A5 m.f3.length c5] 56))
                      clear hl5 hC5 hm hlt HJ
                      go_wp2_with fail
                      refine (fits_calls m A5 c5 _ (Kd.C_alloc HC5.out.2 _) HC5.out.1).mono ?_
                      rintro e w3 ⟨rfl, hb⟩
                      have HN3 := Aside0.mk (blk_below HNB.out hb)
                      have HBL3 := Aside0.mk ((HBL.out.alloc HBL.out.size _).trans (hb.mono (by have := HBL.out.size; simp; omega)))
                      have HO3 := Aside0.mk (Kd.R_below (Kd.R_alloc HO.out _) hb)
                      clear hb HNB HBL HO k0 k1 k2 k3
                      cases hf : fitsV m with
                      | false =>
                        have HR : Aside0 (res = 43) := ⟨by rw [HRES.out, ← HSR2.out, ← HMS.out, hf]; rfl⟩
                        clear hf
                        go_wp2
                        refine bodyPost_ret (v := .int .i64 43) (by simp [results, Try.results17, go_sem]) rfl ?_
                        rw [HR.out]
                        exact ⟨rfl, HBL3.out⟩
                      | true =>
                        have HMS2 := Aside0.mk (show matsC (s.drop (j + 1)) (u + sizeM m) = mres by rw [← HMS.out, if_pos hf])
                        obtain ⟨nb, hx8, htd, hsz, hP, q1, q2, q3⟩ := size_arith (u := u) hf HJB.out.2.2.2.1 (by have h1 := HJB.out.2.2.2.2; have h2 := HIB.out.2; have h3 := HJB.out.2.2.1; omega)
                        have HSZ := Aside0.mk hsz
                        have HPB := Aside0.mk hP
                        have HQ := Aside0.mk (And.intro q1 (And.intro q2 (And.intro q3 htd)))
                        have n2 := (blk_cell HN3.out 2).trans rfl
                        have n3 := (blk_cell HN3.out 3).trans rfl
                        clear hf hsz hP HMS q1 q2 q3 htd hx8
                        go_wp2_with fail
                        go_roundg (gk - 1)
                        case measure => have := HJB.out; omega
                        case rel => exact ⟨j + 1, u + (5 + (m.f3.length : Int) * (nb : Int)), (by first | rfl | exact next_i6 (by have := HJB.out; omega)), (by rw [HQ.out.2.2.2, HQ.out.1, HQ.out.2.1, HQ.out.2.2.1]), ⟨⟨by have := HJB.out; omega, by rw [← HSZ.out]; exact HMS2.out, by have := HJB.out; have := HPB.out; omega, by have := HJB.out; have := HPB.out; omega⟩⟩, HBL3, HO3⟩
                    · have d6 : decide ((j : Int) < (s.length : Int)) = false := decide_eq_false (by omega)
                      have d7 : decide (j < s.length) = false := decide_eq_false hlt
                      have hmr : mres = some u := by rw [← HJ.out.2.1, show j = s.length by have := HJ.out; omega, List.drop_length]; rfl
                      have HLE := Aside0.mk (show listsC (i + 1) (L.drop (i + 1)) u = lres by rw [← HSR2.out, hmr]; rfl)
                      have HUB := Aside0.mk (show 0 ≤ u ∧ u ≤ 52 + 2200000 * (i + 1) by have h1 := HJ.out; have h2 := HS64.out; omega)
                      clear hmr hlt HJ HSR2
                      go_wp2_with fail
                      go_roundg (L.length - (i + 1))
                      case measure => have := HIK.out; have := HIB.out; omega
                      case rel => exact ⟨i + 1, u, (by first | rfl | exact next_i6 (by have := HIB.out; omega)), rfl, ⟨⟨by have := HIB.out; omega, HLE.out, HUB.out.1, by have := HUB.out.2; omega⟩⟩, HBL, HO⟩
            · have d4 : decide ((i : Int) < (L.length : Int)) = false := decide_eq_false (by omega)
              have d5 : decide (i < L.length) = false := decide_eq_false hlt
              have hlr : lres = some t := by rw [← HI.out.2.1, show i = L.length by have := HI.out; omega, List.drop_length]; rfl
              replace HRES := Aside0.mk (show res = if 16777216 < t then 2 else 0 by rw [HRES.out, hlr]; rfl)
              clear hlr hlt HI
              by_cases ht : 16777216 < t
              · have e1 : decide (16777216 < t) = true := decide_eq_true ht
                have HR : Aside0 (res = 2) := ⟨by rw [HRES.out, if_pos ht]⟩
                clear ht
                go_wp2
                refine bodyPost_ret (v := .int .i64 2) (by simp [results, Try.results17, go_sem]) rfl ?_
                rw [HR.out]
                exact ⟨rfl, HBL.out⟩
              · have e1 : decide (16777216 < t) = false := decide_eq_false ht
                have HR : Aside0 (res = 0) := ⟨by rw [HRES.out, if_neg ht]⟩
                clear ht
                go_wp2
                refine bodyPost_ret (v := .int .i64 0) (by simp [results, Try.results17, go_sem]) rfl ?_
                rw [HR.out]
                exact ⟨rfl, HBL.out⟩
end Go.Proofs.Ytmiljlbbacbbpaa
