/- (state.reader).matrix: the matrix that is read, or the stop. -/
import Derived.Test.YtmiljlbbacbbpaaNum
import Derived.Outline
namespace Go.Proofs.Ytmiljlbbacbbpaa
open Go.RowKit PBase
open Go.Proofs.YtmiljlbbacbbpaaW.PrintWords Go.Proofs.YtmiljlbbacbbpaaW.PrintLast Go.Proofs.YtmiljlbbacbbpaaW.PrintMore
set_option linter.unusedVariables false
set_option linter.unusedSimpArgs false

def bitsP (b : List Int) (w : Int) : Nat → Nat → List Int → PR (List Int)
  | 0, a, acc => .ok acc a
  | k + 1, a, acc =>
    match numberP b (w / 8).toNat a with
    | .stop e p => .stop e p
    | .ok x a' => if finV x w = true then bitsP b w k a' (acc ++ [x]) else .stop 51 a
def matrix3 (b : List Int) (w r c : Int) (a3 : Nat) : PR S56 :=
  match bitsP b w (r * c).toNat a3 [] with
  | .stop e p => .stop e p
  | .ok l a4 => .ok ⟨r, c, w, l⟩ a4
def matrix2 (b : List Int) (w r : Int) (a2 : Nat) : PR S56 :=
  match withinP b 2 1 (4096 / r) a2 with
  | .stop e p => .stop e p
  | .ok c a3 => matrix3 b w r c a3
def matrix1 (b : List Int) (at_ : Nat) (w : Int) (a1 : Nat) : PR S56 :=
  if w ≠ 32 ∧ w ≠ 64 then .stop 51 at_ else
    match withinP b 2 1 65535 a1 with
    | .stop e p => .stop e p
    | .ok r a2 => matrix2 b w r a2
def matrixP (b : List Int) (at_ : Nat) : PR S56 :=
  match numberP b 1 at_ with
  | .stop e p => .stop e p
  | .ok w a1 => matrix1 b at_ w a1

theorem Moves.alloc {g : Nat} {w W : World} (h : Moves g w W) (hg : g ≤ W.heap.size) (o : Obj) : Moves g w (W.alloc o) := ⟨h.1.alloc hg o, keep_alloc h.2 o⟩
theorem Moves.far {g : Nat} {w W : World} (h : Moves g w W) {p : Addr} (hg : g ≤ p.block) (hp : w.heap.size ≤ p.block) (u : Value) : Moves g w (W.setCell p u) := ⟨h.1.setCell hg u, keep_far h.2 hp u⟩
theorem Moves.size {g : Nat} {w W : World} (h : Moves g w W) : w.heap.size ≤ W.heap.size := h.1.size
theorem Moves.blk {g h : Nat} {w W : World} {o : Obj} (hm : Moves g w W) (hb : w.heap[h]? = some o) (hne : h ≠ g) : W.heap[h]? = some o := (hm.2.2 h (blk_lt hb) hne (by simp)).trans hb
theorem C_moves {w w' : World} {g : Nat} {A : Option Addr} {n c : Nat} {a : Int} {l : List Int} (hI : IsB w g #[.slice A n c, .int .i64 a] 74) (hC : (Kd.int .u8).C w A l.length l) (hm : Moves g w w') : (Kd.int .u8).C w' A l.length l := by
  refine Kd.C_foot_ne (fun h => h) hC (fun ad hA hn => ?_) w' hm.2
  obtain ⟨ad', hA', hc⟩ := u8_at hC 0 hn
  rw [hA] at hA'
  injection hA' with hA'
  subst hA'
  have h0 : ad.add 0 = ad := by unfold Addr.add; rw [if_pos rfl]
  rw [h0] at hc
  intro hb
  unfold World.cell? at hc
  rw [hb, hI] at hc
  simp only at hc
  split at hc
  · cases hc
  · generalize ad.off = q at hc
    rcases q with _ | _ | q <;> simp at hc
theorem Moves.then {g : Nat} {w W w1 : World} (h : Moves g w W) (hb : Below w.heap.size W w1) (hg : g ≤ w.heap.size) : Moves g w w1 :=
  ⟨h.1.trans (hb.mono hg), Nat.le_trans h.2.1 hb.size, fun i hi hne hr => (hb.block i hi).trans (h.2.2 i hi hne hr)⟩
theorem Moves.drawn {g : Nat} {w W w1 : World} (h : Moves g w W) (hd : Drawn0 W w1) (hg : g ≤ W.heap.size) : Moves g w w1 := h.trans (Moves.of_drawn hd hg)
theorem within_range {b : List Int} {n : Nat} {lo hi : Int} {a : Nat} {x : Int} {a' : Nat} (h : withinP b n lo hi a = .ok x a') : lo ≤ x ∧ x ≤ hi := by
  unfold withinP at h
  split at h
  · cases h
  · split at h
    · cases h
    · injection h with h1 h2
      subst h1
      omega
theorem bitsP_le {b : List Int} {w : Int} : ∀ (k a : Nat) (acc l : List Int) (a' : Nat), bitsP b w k a acc = .ok l a' → acc.length + k = l.length
  | 0, a, acc, l, a', h => by
    simp only [bitsP, PR.ok.injEq] at h
    rw [h.1]; omega
  | k + 1, a, acc, l, a', h => by
    unfold bitsP at h
    split at h
    · cases h
    · split at h
      · have := bitsP_le k _ _ _ _ h
        rw [List.length_append] at this
        simp at this
        omega
      · cases h

theorem next_i6 {i : Nat} (h : i ≤ 1000000) : Value.int .i64 (wrap64 ((i : Int) + 1)) = .int .i64 ((i + 1 : Nat) : Int) := by
  rw [IntWalk.wrap64_in ((i : Int) + 1) (by omega)]; rfl
theorem isB_set4 {W : World} {g t : Nat} {x0 x1 x2 x3 : Value} (h : IsB W g #[x0, x1, x2, x3] t) (a b c d : Value) :
    IsB ((((W.setCell ⟨g, 0, none⟩ a).setCell ⟨g, 1, none⟩ b).setCell ⟨g, 2, none⟩ c).setCell ⟨g, 3, none⟩ d) g #[a, b, c, d] t := blk_put (blk_put (blk_put (blk_put h 0 a rfl) 1 b rfl) 2 c rfl) 3 d rfl
theorem isB_far4 {W : World} {g k t : Nat} {cs : Array Value} (h : IsB W k cs t) (hne : k ≠ g) (a b c d : Value) :
    IsB ((((W.setCell ⟨g, 0, none⟩ a).setCell ⟨g, 1, none⟩ b).setCell ⟨g, 2, none⟩ c).setCell ⟨g, 3, none⟩ d) k cs t :=
  blk_far (p := ⟨g, 3, none⟩) (blk_far (p := ⟨g, 2, none⟩) (blk_far (p := ⟨g, 1, none⟩) (blk_far (p := ⟨g, 0, none⟩) h hne a) hne b) hne c) hne d
theorem Kd.R_set4 {α : Type} {d' : Kd α} {e base : Nat} {ok : Nat → Prop} {W : World} {v : Value} {xs : List α} (h : d'.R e W base ok v xs) {g t : Nat} {x0 x1 x2 x3 : Value} (hb : IsB W g #[x0, x1, x2, x3] t) (ht : ∀ q, q ∈ e :: d'.E → q ≠ t) (a b c d : Value) :
    d'.R e ((((W.setCell ⟨g, 0, none⟩ a).setCell ⟨g, 1, none⟩ b).setCell ⟨g, 2, none⟩ c).setCell ⟨g, 3, none⟩ d) base ok v xs :=
  Kd.R_set (Kd.R_set (Kd.R_set (Kd.R_set h hb ht 0 a) (blk_put hb 0 a rfl) ht 1 b) (blk_put (blk_put hb 0 a rfl) 1 b rfl) ht 2 c) (blk_put (blk_put (blk_put hb 0 a rfl) 1 b rfl) 2 c rfl) ht 3 d
theorem Moves.set4 {g k : Nat} {w W : World} (h : Moves g w W) (hg : g ≤ k) (hk : w.heap.size ≤ k) (a b c d : Value) :
    Moves g w ((((W.setCell ⟨k, 0, none⟩ a).setCell ⟨k, 1, none⟩ b).setCell ⟨k, 2, none⟩ c).setCell ⟨k, 3, none⟩ d) :=
  (((h.far (p := ⟨k, 0, none⟩) hg hk a).far (p := ⟨k, 1, none⟩) hg hk b).far (p := ⟨k, 2, none⟩) hg hk c).far (p := ⟨k, 3, none⟩) hg hk d

abbrev row4 (a b c : Int) (v : Value) : Array Value := #[.int .i64 a, .int .i64 b, .int .i64 c, v]
abbrev Ints (w W : World) (v : Value) (xs : List Int) : Prop := Kd.R (Kd.int .i64) 3 W w.heap.size (fun _ => True) v xs
def PostM (g : Nat) (A : Option Addr) (c : Nat) (l : List Int) (w : World) (r : PR S56) (e : Ending) (w' : World) : Prop :=
  match r with
  | .ok x a => (∃ v, e = .returned (.agg (row4 x.f0 x.f1 x.f2 v)) ∧ Ints w w' v x.f3) ∧ IsB w' g #[.slice A l.length c, .int .i64 (a : Nat)] 74 ∧ Moves g w w' ∧ a ≤ l.length
  | .stop q p => e = stopV q p ∧ Moves g w w'

set_option maxHeartbeats 4000000 in
set_option maxRecDepth 100000 in
theorem matrix_any (g : Nat) (A : Option Addr) (c : Nat) (l : List Int) (at_ : Nat) (w : World) (hI : IsB w g #[.slice A l.length c, .int .i64 at_] 74) (hC : (Kd.int .u8).C w A l.length l) (hl : l.length ≤ 100000000) (hB : Bytes l) (ha : at_ ≤ l.length) :
    Calls Try.prog 37 #[.pointer (some ⟨g, 0, none⟩)] w (PostM g A c l w (matrixP l at_)) := by
  obtain ⟨res, hres⟩ : ∃ r, r = matrixP l at_ := ⟨_, rfl⟩
  rw [← hres]
  unfold matrixP at hres
  have HRES := Aside0.mk hres
  clear hres
  have HL := Aside0.mk (And.intro hl hB)
  have hg := blk_lt hI
  have HGW := Aside0.mk hg
  -- the first number
  have HA := Aside0.mk ha
  have H0 := Aside0.mk (And.intro hI hC)
  have HI1 := Aside0.mk (blk_alloc hI (Obj.cells (row4 0 0 0 (.slice none 0 0)) 56))
  have HM1 := Aside0.mk (Moves.alloc (Moves.refl g (Nat.le_of_lt hg)) (Nat.le_of_lt hg) (Obj.cells (row4 0 0 0 (.slice none 0 0)) 56))
  have HC1 := Aside0.mk (C_moves hI hC HM1.out)
  have HZ1 := Aside0.mk (blk_new w (Obj.cells (row4 0 0 0 (.slice none 0 0)) 56))
  have c1 := (blk_cell HI1.out 1).trans rfl
  clear hI hC hl hB ha hg
  go_enter Try.func37, Try.ntmps37
  go_wp2_with fail
  generalize w.alloc (Obj.cells (row4 0 0 0 (.slice none 0 0)) 56) = w1 at HI1 HM1 HC1 HZ1 ⊢
  clear c1
  have HN := Aside0.mk (number_any g A c l at_ 1 w1 HI1.out HC1.out HL.out.1 HL.out.2 HA.out (by decide))
  cases hN : numberP l 1 at_ with
  | stop q p =>
    have HNN := Aside0.mk hN
    rw [hN] at HN
    clear hN
    refine (HN.out).mono ?_
    rintro e w2 ⟨rfl, hm⟩
    have HMx := Aside0.mk (HM1.out.trans hm)
    clear hm HN
    go_wp2
    refine ⟨rfl, ?_⟩
    rw [HRES.out, HNN.out]
    exact ⟨rfl, HMx.out⟩
  | ok x a1 =>
    rw [hN] at HN
    replace HRES := Aside0.mk (show res = matrix1 l at_ x a1 by rw [HRES.out, hN])
    clear hN
    refine (HN.out).mono ?_
    rintro e w2 ⟨rfl, hi, hm, ha1⟩
    have HZ2 := Aside0.mk (hm.blk HZ1.out (by have := HGW.out; omega))
    have HC2 := Aside0.mk (C_moves HI1.out HC1.out hm)
    have HM2 := Aside0.mk (HM1.out.trans hm)
    have HI2 := Aside0.mk hi
    have HA2 := Aside0.mk ha1
    clear hi hm ha1 HN HI1 HM1 HC1 HZ1
    have hgs := Nat.le_of_lt (blk_lt HI2.out)
    have HI3 := Aside0.mk (blk_alloc HI2.out (Obj.cells (row4 0 0 x (.slice none 0 0)) 56))
    have HZ3 := Aside0.mk (blk_alloc HZ2.out (Obj.cells (row4 0 0 x (.slice none 0 0)) 56))
    have HM3 := Aside0.mk (HM2.out.alloc hgs (Obj.cells (row4 0 0 x (.slice none 0 0)) 56))
    have HC3 := Aside0.mk (Kd.C_alloc HC2.out (Obj.cells (row4 0 0 x (.slice none 0 0)) 56))
    have HB3 := Aside0.mk (blk_new w2 (Obj.cells (row4 0 0 x (.slice none 0 0)) 56))
    have HGM := Aside0.mk (show w.heap.size < w2.heap.size from blk_lt HZ2.out)
    clear hgs HI2 HZ2 HM2 HC2
    by_cases hx : x ≠ 32 ∧ x ≠ 64
    · have d1 : (x != 32) = true := by simpa using hx.1
      have d2 : (x != 64) = true := by simpa using hx.2
      have HX := Aside0.mk hx
      clear hx
      go_wp2
      refine ⟨rfl, ?_⟩
      rw [HRES.out]
      unfold matrix1
      rw [if_pos HX.out]
      exact ⟨rfl, HM3.out⟩
    · have HX := Aside0.mk hx
      have hxx : x = 32 ∨ x = 64 := by omega
      have HXX := Aside0.mk hxx
      replace HRES := Aside0.mk (show res = match withinP l 2 1 65535 a1 with | .stop e p => .stop e p | .ok r a2 => matrix2 l x r a2 by rw [HRES.out]; unfold matrix1; rw [if_neg hx])
      have hbd : ((x != 32) = true ∧ (x != 64) = false) ∨ (x != 32) = false := by rcases hxx with rfl | rfl <;> simp
      have HBD := Aside0.mk hbd
      obtain ⟨nb, hnb⟩ : ∃ nb : Nat, nb = (x / 8).toNat := ⟨_, rfl⟩
      have hx8 : x / 8 = (nb : Int) := by omega
      have hx0 : 0 ≤ x := by omega
      have hx64 : x ≤ 64 := by omega
      have HX8 := Aside0.mk (show nb ≤ 8 ∧ nb = (x / 8).toNat from ⟨by omega, hnb⟩)
      clear hnb
      clear hx hxx hbd
      have step : Code.wp Try.prog (Code.skip) (fun _ _ _ => True) { tmps := #[], defers := [] } w2 → True := fun _ => trivial
      clear step
      rcases HBD.out with ⟨d1, d2⟩ | d1
      all_goals
        have c2 := (blk_cell HB3.out 2).trans rfl
        go_wp2_with fail
        generalize w2.alloc (Obj.cells (row4 0 0 x (.slice none 0 0)) 56) = w3 at HI3 HZ3 HM3 HC3 HB3 ⊢
        generalize w2.heap.size = gm at HB3 HGM ⊢
        clear c2
        have HN := Aside0.mk (within_any g A c l a1 2 1 65535 w3 HI3.out HC3.out HL.out.1 HL.out.2 HA2.out (by decide))
        cases hN : withinP l 2 1 65535 a1 with
        | stop q p =>
          have HNN := Aside0.mk hN
          rw [hN] at HN
          clear hN
          refine (HN.out).mono ?_
          rintro e wz ⟨rfl, hm⟩
          have HMx := Aside0.mk (HM3.out.trans hm)
          clear hm HN
          go_wp2
          refine ⟨rfl, ?_⟩
          rw [HRES.out, HNN.out]
          exact ⟨rfl, HMx.out⟩
        | ok r a2 =>
          have hr := within_range hN
          rw [hN] at HN
          replace HRES := Aside0.mk (show res = match withinP l 2 1 (4096 / r) a2 with | .stop e p => .stop e p | .ok c a3 => matrix3 l x r c a3 by rw [HRES.out, hN]; rfl)
          clear hN
          refine (HN.out).mono ?_
          rintro e w4 ⟨rfl, hi, hm, ha2⟩
          have HG4 := Aside0.mk (show g < w.heap.size ∧ w.heap.size < gm from ⟨HGW.out, HGM.out⟩)
          have HZ4 := Aside0.mk (hm.blk HZ3.out (by have := HG4.out; omega))
          have HB4 := Aside0.mk (hm.blk HB3.out (by have := HG4.out; omega))
          have HM4 := Aside0.mk (HM3.out.trans hm)
          have HI4 := Aside0.mk hi
          have HA4 := Aside0.mk ha2
          clear hi hm ha2 HN HI3 HZ3 HM3 HC3 HB3 HA2
          have HI5 := Aside0.mk (blk_far HI4.out (p := ⟨gm, 0, none⟩) (by have := HG4.out; show g ≠ gm; omega) (.int .i64 r))
          have HZ5 := Aside0.mk (blk_far HZ4.out (p := ⟨gm, 0, none⟩) (by have := HG4.out; show w.heap.size ≠ gm; omega) (.int .i64 r))
          have HB5 := Aside0.mk (show IsB (w4.setCell ⟨gm, 0, none⟩ (.int .i64 r)) gm (row4 r 0 x (.slice none 0 0)) 56 from blk_put HB4.out 0 (.int .i64 r) rfl)
          have HM5 := Aside0.mk (HM4.out.far (p := ⟨gm, 0, none⟩) (by have := HG4.out; show g ≤ gm; omega) (by have := HG4.out; show w.heap.size ≤ gm; omega) (.int .i64 r))
          have HC5 := Aside0.mk (C_moves H0.out.1 H0.out.2 HM5.out)
          have m0 := (blk_cell HB4.out 0).trans rfl
          have rf0 := blk_frozen HB4.out 0
          have m0' := (blk_cell HB5.out 0).trans rfl
          obtain ⟨hr1, hr2⟩ := hr
          have hr0 : ¬ r = 0 := by omega
          have HRR := Aside0.mk (And.intro hr1 hr2)
          have hq : Int.tdiv 4096 r = 4096 / r := Int.tdiv_eq_ediv_of_nonneg (by decide)
          have hq0 : 0 ≤ 4096 / r := Int.ediv_nonneg (by decide) (by omega)
          have hq1 : 4096 / r ≤ 4096 := Int.ediv_le_self _ (by decide)
          go_wp2_with fail
          generalize w4.setCell ⟨gm, 0, none⟩ (.int .i64 r) = w5 at HI5 HZ5 HB5 HM5 HC5 ⊢
          clear m0 rf0 m0' HI4 HZ4 HB4 HM4
          have HN := Aside0.mk (within_any g A c l a2 2 1 (4096 / r) w5 HI5.out HC5.out HL.out.1 HL.out.2 HA4.out (by decide))
          cases hN : withinP l 2 1 (4096 / r) a2 with
          | stop q p =>
            have HNN := Aside0.mk hN
            rw [hN] at HN
            clear hN
            refine (HN.out).mono ?_
            rintro e wz ⟨rfl, hm⟩
            have HMx := Aside0.mk (HM5.out.trans hm)
            clear hm HN
            go_wp2
            refine ⟨rfl, ?_⟩
            rw [HRES.out, HNN.out]
            exact ⟨rfl, HMx.out⟩
          | ok cc a3 =>
            have hc := within_range hN
            rw [hN] at HN
            replace HRES := Aside0.mk (show res = match bitsP l x (r * cc).toNat a3 [] with | .stop e p => .stop e p | .ok l a4 => .ok ⟨r, cc, x, l⟩ a4 by rw [HRES.out, hN]; rfl)
            clear hN
            refine (HN.out).mono ?_
            rintro e w6 ⟨rfl, hi, hm, ha3⟩
            have HZ6 := Aside0.mk (hm.blk HZ5.out (by have := HG4.out; omega))
            have HB6 := Aside0.mk (hm.blk HB5.out (by have := HG4.out; omega))
            have HM6 := Aside0.mk (HM5.out.trans hm)
            have HI6 := Aside0.mk hi
            have HA6 := Aside0.mk ha3
            clear hi hm ha3 HN HI5 HZ5 HM5 HC5 HB5 HA4 hq hq0 hq1
            have HI7 := Aside0.mk (blk_far HI6.out (p := ⟨gm, 1, none⟩) (by have := HG4.out; show g ≠ gm; omega) (.int .i64 cc))
            have HZ7 := Aside0.mk (blk_far HZ6.out (p := ⟨gm, 1, none⟩) (by have := HG4.out; show w.heap.size ≠ gm; omega) (.int .i64 cc))
            have HB7 := Aside0.mk (show IsB (w6.setCell ⟨gm, 1, none⟩ (.int .i64 cc)) gm (row4 r cc x (.slice none 0 0)) 56 from blk_put HB6.out 1 (.int .i64 cc) rfl)
            have HM7 := Aside0.mk (HM6.out.far (p := ⟨gm, 1, none⟩) (by have := HG4.out; show g ≤ gm; omega) (by have := HG4.out; show w.heap.size ≤ gm; omega) (.int .i64 cc))
            have m1 := (blk_cell HB6.out 1).trans rfl
            have rf1 := blk_frozen HB6.out 1
            have m0' := (blk_cell HB7.out 0).trans rfl
            have m1' := (blk_cell HB7.out 1).trans rfl
            obtain ⟨hc1, hc2⟩ := hc
            have hrc : r * cc ≤ 4096 := by
              have h1 : r * cc ≤ r * (4096 / r) := Int.mul_le_mul_of_nonneg_left hc2 (by omega)
              have h2 : r * (4096 / r) ≤ 4096 := Int.mul_ediv_self_le hr0
              omega
            have hrc0 : 0 < r * cc := Int.mul_pos (by omega) (by omega)
            obtain ⟨N, hN⟩ : ∃ N : Nat, N = (r * cc).toNat := ⟨_, rfl⟩
            have hmul : wrap64 (r * cc) = (N : Int) := by unfold wrap64; omega
            have HNN := Aside0.mk (show N ≤ 4096 by omega)
            rw [← hN] at HRES
            clear hN hrc hrc0 hc1 hc2 hr1 hr2 hr0
            have HMUL := Aside0.mk hmul
            clear hmul
            go_wp2_with fail
            rw [HMUL.out]
            generalize w6.setCell ⟨gm, 1, none⟩ (.int .i64 cc) = w7 at HI7 HZ7 HB7 HM7 ⊢
            clear m1 rf1 m0' m1' HI6 HZ6 HB6 HM6 HMUL
            obtain ⟨bres, hbres⟩ : ∃ b, b = bitsP l x N a3 [] := ⟨_, rfl⟩
            rw [← hbres] at HRES
            have HBR := Aside0.mk hbres
            clear hbres
            have HV0 : Aside0 (Ints w w7 (.slice none 0 0) []) := ⟨Kd.R_nil _ _ _ _ _⟩
            go_loopg [3, 5, 38] N (fun kq v3 v5 v38 w' => ∃ (i a : Nat) (acc : List Int) (v : Value), v38 = .int .i64 i ∧ Aside0 (i + kq = N ∧ acc.length = i ∧ a ≤ l.length ∧ bitsP l x kq a acc = bres) ∧ Aside0 (IsB w' g #[.slice A l.length c, .int .i64 a] 74) ∧ Aside0 (IsB w' w.heap.size (row4 0 0 0 (.slice none 0 0)) 56) ∧ Aside0 (IsB w' gm (row4 r cc x v) 56) ∧ Aside0 (Ints w w' v acc) ∧ Aside0 (Moves g w w'))
            case atStart => exact ⟨0, a3, [], _, rfl, ⟨⟨by omega, rfl, HA6.out, HBR.out.symm⟩⟩, HI7, HZ7, HB7, HV0, HM7⟩
            case round =>
              clear HI7 HZ7 HB7 HV0 HM7 HA6
              obtain ⟨i, a, acc, v, rfl, HS, HI, HZ, HB, HV, HM⟩ := hrel
              have m2 := (blk_cell HB.out 2).trans rfl
              have m3 := (blk_cell HB.out 3).trans rfl
              have r1 := (blk_cell HI.out 1).trans rfl
              by_cases hlt : i < N
              · have d3 : decide (i < N) = true := decide_eq_true hlt
                have d4 : decide ((i : Int) < (N : Int)) = true := decide_eq_true (by omega)
                have HLT := Aside0.mk hlt
                clear hlt
                go_wp2_with fail
                have HQ := HS.out
                obtain ⟨kk, hkk⟩ : ∃ kk, gk = kk + 1 := ⟨gk - 1, by have := HLT.out; omega⟩
                have HKK := Aside0.mk hkk
                have HSR := Aside0.mk (show bres = match numberP l nb a with | .stop e p => .stop e p | .ok y a' => if finV y x = true then bitsP l x kk a' (acc ++ [y]) else .stop 51 a by rw [← HQ.2.2.2, hkk, HX8.out.2]; rfl)
                have HC := Aside0.mk (C_moves H0.out.1 H0.out.2 HM.out)
                have HN := Aside0.mk (number_any g A c l a nb wr HI.out HC.out HL.out.1 HL.out.2 HQ.2.2.1 HX8.out.1)
                clear HQ hkk
                cases hN : numberP l nb a with
                | stop q p =>
                  have HNN := Aside0.mk hN
                  rw [hN] at HN
                  clear hN
                  refine (HN.out).mono ?_
                  rintro e wz ⟨rfl, hm⟩
                  have HMx := Aside0.mk (HM.out.trans hm)
                  clear hm HN
                  go_wp2
                  refine ⟨rfl, ?_⟩
                  rw [HRES.out, HSR.out, HNN.out]
                  exact ⟨rfl, HMx.out⟩
                | ok y a' =>
                  rw [hN] at HN
                  replace HSR := Aside0.mk (show bres = if finV y x = true then bitsP l x kk a' (acc ++ [y]) else .stop 51 a by rw [HSR.out, hN])
                  clear hN
                  refine (HN.out).mono ?_
                  rintro e w8 ⟨rfl, hi, hm, ha'⟩
                  have HZ8 := Aside0.mk (hm.blk HZ.out (by have := HG4.out; omega))
                  have HB8 := Aside0.mk (hm.blk HB.out (by have := HG4.out; omega))
                  have HM8 := Aside0.mk (HM.out.trans hm)
                  have HV8 := Aside0.mk (show Ints w w8 v acc from Kd.R_mono (Kd.R_keep (Kd.R_types HV.out HI.out (by decide)) hm.2 (fun k h => h.2)) (fun _ _ => trivial))
                  have HI8 := Aside0.mk hi
                  have HS8 := Aside0.mk (show i + (kk + 1) = N ∧ acc.length = i ∧ a' ≤ l.length from ⟨by have := HS.out; have := HKK.out; omega, HS.out.2.1, ha'⟩)
                  clear hi hm ha' HN HI HZ HB HM HV HS HC m2 m3 r1
                  have m2 := (blk_cell HB8.out 2).trans rfl
                  go_wp2_with fail
                  refine (state_finite.calls y x (finV y x) w8 rfl).mono ?_
                  rintro e w9 ⟨rfl, hd⟩
                  have HD := Aside0.mk hd
                  clear hd m2
                  have hz9 : w9.heap.size = w8.heap.size := by obtain ⟨q, rfl⟩ := HD.out.out; rfl
                  have hh9 : w9.heap = w8.heap := by obtain ⟨q, rfl⟩ := HD.out.out; rfl
                  have HI9 := Aside0.mk (show IsB w9 g _ 74 by rw [IsB, hh9]; exact HI8.out)
                  have HZ9 := Aside0.mk (show IsB w9 w.heap.size _ 56 by rw [IsB, hh9]; exact HZ8.out)
                  have HB9 := Aside0.mk (show IsB w9 gm _ 56 by rw [IsB, hh9]; exact HB8.out)
                  have HM9 := Aside0.mk (HM8.out.drawn HD.out (by have := HM8.out.size; have := HG4.out; omega))
                  have HV9 := Aside0.mk (show Ints w w9 v acc by obtain ⟨q, rfl⟩ := HD.out.out; exact Kd.R_drewN HV8.out q)
                  clear hz9 hh9 HD HI8 HZ8 HB8 HM8 HV8
                  cases hf : finV y x with
                  | false =>
                    have HNN := Aside0.mk hf
                    clear hf
                    go_wp2
                    refine ⟨rfl, ?_⟩
                    rw [HRES.out, HSR.out, if_neg (by rw [HNN.out]; decide)]
                    exact ⟨rfl, HM9.out⟩
                  | true =>
                    replace HSR := Aside0.mk (show bres = bitsP l x kk a' (acc ++ [y]) by rw [HSR.out, if_pos hf])
                    clear hf
                    have m3 := (blk_cell HB9.out 3).trans rfl
                    have hGs := Aside0.mk (show gm < w9.heap.size from blk_lt HB9.out)
                    have HBs := Aside0.mk (show w.heap.size ≤ w9.heap.size from HM9.out.size)
                    have HLN := Aside0.mk (show (acc.length + 1) * 8 ≤ 140737488355328 by have := HS8.out; have := HNN.out; omega)
                    have hgs := hGs.out
                    go_wp2_with ((with_reducible refine gate_builtin (b := .append) (xs := #[.tmp 58, .tmp 60]) rfl ?_); at_builtin; refine Kd.R_append (Kd.int .i64) (w0 := w9) w.heap.size rfl (.tmp 58) (.tmp 60) 54 3 (.int .i64 0) 8 rfl Try.underlying54 info3 rfl (by decide) (by omega) v acc y [.int .i64 y] (fun _ => True) (fun _ => False) rfl rfl ?aP (fun _ hk => hk.elim) ?aF ?aO ?aB ?aS ?aL ?_; (case aP => exact rfl); (case aB => exact Below.refl _ _); (case aF => exact (fun _ _ => trivial)); (case aO => exact HV9.out); (case aS => exact HBs.out); (case aL => exact HLN.out); intro v9 w10 ho hb hg9 hat; have HV10 := Aside0.mk ho; have HZ10 := Aside0.mk (blk_grown HZ9.out hg9 (Kd.R_ne HV9.out HZ9.out (by decide))); have HB10 := Aside0.mk (blk_grown HB9.out hg9 (Kd.R_ne HV9.out HB9.out (by decide))); have HI10 := Aside0.mk (blk_grown HI9.out hg9 (Kd.R_ne HV9.out HI9.out (by decide))); have HM10 := Aside0.mk (HM9.out.then hb (Nat.le_of_lt HG4.out.1)); clear ho hb hg9 hat m3 hgs HV9 HZ9 HB9 HI9 HM9 HBs hGs HLN; have m3 := (blk_cell HB10.out 3).trans rfl; have rf3 := blk_frozen HB10.out 3; obtain ⟨A9, c9, hv9⟩ := Kd.R_slice HV10.out; generalize hln : (acc ++ [y]).length = ln at hv9; have HLN := Aside0.mk hln; clear hln; subst hv9)
                    have HI11 := Aside0.mk (blk_far HI10.out (p := ⟨gm, 3, none⟩) (by have := HG4.out; show g ≠ gm; omega) (.slice A9 ln c9))
                    have HZ11 := Aside0.mk (blk_far HZ10.out (p := ⟨gm, 3, none⟩) (by have := HG4.out; show w.heap.size ≠ gm; omega) (.slice A9 ln c9))
                    have HB11 := Aside0.mk (show IsB (w10.setCell ⟨gm, 3, none⟩ (.slice A9 ln c9)) gm (row4 r cc x (.slice A9 ln c9)) 56 from blk_put HB10.out 3 (.slice A9 ln c9) rfl)
                    have HM11 := Aside0.mk (HM10.out.far (p := ⟨gm, 3, none⟩) (by have := HG4.out; show g ≤ gm; omega) (by have := HG4.out; show w.heap.size ≤ gm; omega) (.slice A9 ln c9))
                    have HV11 := Aside0.mk (show Ints w (w10.setCell ⟨gm, 3, none⟩ (.slice A9 ln c9)) (.slice A9 ln c9) (acc ++ [y]) from Kd.R_set HV10.out HB10.out (by decide) 3 _)
                    go_roundg (gk - 1)
                    case measure => have := HKK.out; omega
                    case rel => exact ⟨i + 1, a', acc ++ [y], .slice A9 ln c9, next_i6 (by have := HLT.out; have := HNN.out; omega), ⟨⟨by have := HS8.out; have := HKK.out; omega, by rw [List.length_append, HS8.out.2.1]; rfl, HS8.out.2.2, by rw [HSR.out, show gk - 1 = kk by have := HKK.out; omega]⟩⟩, HI11, HZ11, HB11, HV11, HM11⟩
              · have d3 : decide (i < N) = false := decide_eq_false hlt
                have d4 : decide ((i : Int) < (N : Int)) = false := decide_eq_false (by omega)
                have HK0 := Aside0.mk (show gk = 0 by have := HS.out; omega)
                have HE : Aside0 (bres = .ok acc a) := ⟨by rw [← HS.out.2.2.2, HK0.out]; rfl⟩
                clear hlt m2 m3 r1
                obtain ⟨A9, c9, hv9⟩ := Kd.R_slice HV.out
                generalize hln : acc.length = ln at hv9
                have HLN := Aside0.mk hln
                clear hln
                subst hv9
                have m0 := (blk_cell HB.out 0).trans rfl
                have m1 := (blk_cell HB.out 1).trans rfl
                have m2 := (blk_cell HB.out 2).trans rfl
                have m3 := (blk_cell HB.out 3).trans rfl
                have f0 := blk_frozen HZ.out 0
                have f1 := blk_frozen HZ.out 1
                have f2 := blk_frozen HZ.out 2
                have f3 := blk_frozen HZ.out 3
                have z0 := (blk_cell HZ.out 0).trans rfl
                have z1 := (blk_cell HZ.out 1).trans rfl
                have z2 := (blk_cell HZ.out 2).trans rfl
                have z3 := (blk_cell HZ.out 3).trans rfl
                go_wp2
                have HF := isB_set4 HZ.out (.int .i64 r) (.int .i64 cc) (.int .i64 x) (.slice A9 ln c9)
                have e0 := (blk_cell HF 0).trans rfl
                have e1 := (blk_cell HF 1).trans rfl
                have e2 := (blk_cell HF 2).trans rfl
                have e3 := (blk_cell HF 3).trans rfl
                refine bodyPost_ret (v := .agg #[.int .i64 r, .int .i64 cc, .int .i64 x, .slice A9 ln c9]) (by simp [results, Try.results37, go_sem, e0, e1, e2, e3]) rfl ?_
                rw [HRES.out, HE.out]
                exact ⟨⟨_, rfl, Kd.R_set4 HV.out HZ.out (by decide) _ _ _ _⟩, isB_far4 HI.out (by have := HG4.out; omega) _ _ _ _, Moves.set4 HM.out (by have := HG4.out; omega) (Nat.le_refl _) _ _ _ _, HS.out.2.2.1⟩
end Go.Proofs.Ytmiljlbbacbbpaa
