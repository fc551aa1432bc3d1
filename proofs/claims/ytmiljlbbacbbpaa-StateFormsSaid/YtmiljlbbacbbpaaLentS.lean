/- pupillaw23.lent: a state in memory of its own, with marks behind each list. -/
import Derived.Test.YtmiljlbbacbbpaaLentQ
import Derived.Test.YtmiljlbbacbbpaaInW
import Derived.Test.YtmiljlbbacbbpaaSmp
namespace Go.Proofs.Ytmiljlbbacbbpaa
open Go.RowKit PBase
open Go.Proofs.YtmiljlbbacbbpaaW.PrintWords Go.Proofs.YtmiljlbbacbbpaaW.PrintLast Go.Proofs.YtmiljlbbacbbpaaW.PrintMore
set_option linter.unusedVariables false
set_option linter.unusedSimpArgs false
theorem new3 (w : World) (x y z : Array Value) (s t u : Nat) : IsB (((w.alloc (.cells x s)).alloc (.cells y t)).alloc (.cells z u)) w.heap.size x s ∧ IsB (((w.alloc (.cells x s)).alloc (.cells y t)).alloc (.cells z u)) (w.heap.size + 1) y t ∧ IsB (((w.alloc (.cells x s)).alloc (.cells y t)).alloc (.cells z u)) (w.heap.size + 2) z u := by
  have h1 : (w.alloc (.cells x s)).heap.size = w.heap.size + 1 := World.size_alloc _ _
  have h2 : ((w.alloc (.cells x s)).alloc (.cells y t)).heap.size = w.heap.size + 2 := by rw [World.size_alloc, h1]
  exact ⟨blk_alloc (blk_alloc (blk_new _ _) _) _, blk_alloc (h1 ▸ blk_new _ _) _, h2 ▸ blk_new _ _⟩
theorem info22u : (Try.prog.info? 22).map (fun i => (i.zero, i.size, i.bytes)) = some (some (.slice none 0 0), 1, 24) := by kernel_rfl
structure LentR (w : World) (g M0 : Nat) (s0 s1 s2 : Int) (A3 : Option Addr) (n3 c3 : Nat) (A4 : Option Addr) (n4 c4 : Nat) (lo ra : Int) (A5 : Option Addr) (c5 : Nat) (ms : List (S56 ⊕ S56)) (v : Value) (xs : List (List S56 ⊕ List S56)) (W : World) : Prop where
  H1 : IsB W g (stC s0 s1 s2 A3 n3 c3 A4 n4 c4 lo ra) 25
  H2 : IsB W (g + 1) (stC 0 0 0 none 0 0 none 0 0 0 0) 25
  H3 : IsB W (g + 2) #[.int .i64 s0, .int .i64 s1, .int .i64 s2, .slice A5 n3 c5, v, .int .i64 lo, .int .i64 ra] 25
  HS : Kd.S kOM 56 W w.heap.size (fun k => k < M0) (.slice A5 (n3 + 1) c5) ms
  HV : kOL.R 22 W M0 (fun _ => True) v xs
  HB : Below w.heap.size w W
  HM : M0 ≤ W.heap.size
  HW : w.heap.size ≤ M0
section
variable {w : World} {g M0 : Nat} {s0 s1 s2 : Int} {A3 : Option Addr} {n3 c3 : Nat} {A4 : Option Addr} {n4 c4 : Nat} {lo ra : Int} {A5 : Option Addr} {c5 : Nat} {ms : List (S56 ⊕ S56)} {v v1 : Value} {xs xs1 : List (List S56 ⊕ List S56)} {W W1 : World}
theorem LentR.below (h : LentR w g M0 s0 s1 s2 A3 n3 c3 A4 n4 c4 lo ra A5 c5 ms v xs W) (hb : Below W.heap.size W W1) : LentR w g M0 s0 s1 s2 A3 n3 c3 A4 n4 c4 lo ra A5 c5 ms v xs W1 :=
  ⟨blk_below h.H1 hb, blk_below h.H2 hb, blk_below h.H3 hb, Kd.S_below h.HS hb, Kd.R_below h.HV hb, below_step h.HB hb, Nat.le_trans h.HM hb.size, h.HW⟩
theorem LentR.grown (h : LentR w g M0 s0 s1 s2 A3 n3 c3 A4 n4 c4 lo ra A5 c5 ms v xs W) (hg : W.grownBy W1 v.ownBlock) :
    IsB W1 g (stC s0 s1 s2 A3 n3 c3 A4 n4 c4 lo ra) 25 ∧ IsB W1 (g + 1) (stC 0 0 0 none 0 0 none 0 0 0 0) 25 ∧ IsB W1 (g + 2) #[.int .i64 s0, .int .i64 s1, .int .i64 s2, .slice A5 n3 c5, v, .int .i64 lo, .int .i64 ra] 25 ∧ Kd.S kOM 56 W1 w.heap.size (fun k => k < M0) (.slice A5 (n3 + 1) c5) ms ∧ Below w.heap.size w W1 :=
  ⟨blk_grown h.H1 hg (Kd.R_ne h.HV h.H1 (by decide)), blk_grown h.H2 hg (Kd.R_ne h.HV h.H2 (by decide)), blk_grown h.H3 hg (Kd.R_ne h.HV h.H3 (by decide)), Kd.S_grown h.HS hg (fun k hk he => by
    obtain ⟨inner, hi⟩ := Kd.R_own h.HV
    have := own_base hi k he.symm
    omega), h.HB.grown hg h.HB.size (fun k hk => by
    obtain ⟨inner, hi⟩ := Kd.R_own h.HV
    have h9 := own_base hi k hk
    have := h.HW
    omega)⟩
theorem LentR.put (h : LentR w g M0 s0 s1 s2 A3 n3 c3 A4 n4 c4 lo ra A5 c5 ms v xs W) (hgw : w.heap.size ≤ g) (hg : W.grownBy W1 v.ownBlock) (ho : kOL.R 22 W1 M0 (fun _ => True) v1 xs1) : LentR w g M0 s0 s1 s2 A3 n3 c3 A4 n4 c4 lo ra A5 c5 ms v1 xs1 (W1.setCell ⟨g + 2, 4, none⟩ v1) := by
  have h1 : IsB W1 g (stC s0 s1 s2 A3 n3 c3 A4 n4 c4 lo ra) 25 := blk_grown h.H1 hg (Kd.R_ne h.HV h.H1 (by decide))
  have h2 : IsB W1 (g + 1) (stC 0 0 0 none 0 0 none 0 0 0 0) 25 := blk_grown h.H2 hg (Kd.R_ne h.HV h.H2 (by decide))
  have h3 : IsB W1 (g + 2) #[.int .i64 s0, .int .i64 s1, .int .i64 s2, .slice A5 n3 c5, v, .int .i64 lo, .int .i64 ra] 25 := blk_grown h.H3 hg (Kd.R_ne h.HV h.H3 (by decide))
  have hS : Kd.S kOM 56 W1 w.heap.size (fun k => k < M0) (.slice A5 (n3 + 1) c5) ms := Kd.S_grown h.HS hg (fun k hk he => by
    obtain ⟨inner, hi⟩ := Kd.R_own h.HV
    have := own_base hi k he.symm
    omega)
  have hb : Below w.heap.size w W1 := h.HB.grown hg h.HB.size (fun k hk => by
    obtain ⟨inner, hi⟩ := Kd.R_own h.HV
    have h9 := own_base hi k hk
    have := h.HW
    omega)
  exact ⟨blk_far h1 (by show g ≠ g + 2; omega) v1, blk_far h2 (by show g + 1 ≠ g + 2; omega) v1, blk_put h3 4 v1 rfl, Kd.S_set hS h3 (by decide) 4 v1, Kd.R_set ho h3 (by decide) 4 v1, hb.setCell (p := ⟨g + 2, 4, none⟩) (by show w.heap.size ≤ g + 2; omega) v1, by rw [World.size_setCell]; exact Nat.le_trans h.HM hg.size, h.HW⟩
end
theorem R_set7 {α : Type} {d : Kd α} {e base : Nat} {ok : Nat → Prop} {W : World} {v : Value} {xs : List α} (h : d.R e W base ok v xs) {g t : Nat} {x0 x1 x2 x3 x4 x5 x6 : Value} (hb : IsB W g #[x0, x1, x2, x3, x4, x5, x6] t) (ht : ∀ q, q ∈ e :: d.E → q ≠ t) (a b c k l m n : Value) : d.R e (set7 W g a b c k l m n) base ok v xs := by
  have h0 := Kd.R_set h hb ht 0 a
  have b0 : IsB _ g #[a, x1, x2, x3, x4, x5, x6] t := blk_put hb 0 a rfl
  have h1 := Kd.R_set h0 b0 ht 1 b
  have b1 : IsB _ g #[a, b, x2, x3, x4, x5, x6] t := blk_put b0 1 b rfl
  have h2 := Kd.R_set h1 b1 ht 2 c
  have b2 : IsB _ g #[a, b, c, x3, x4, x5, x6] t := blk_put b1 2 c rfl
  have h3 := Kd.R_set h2 b2 ht 3 k
  have b3 : IsB _ g #[a, b, c, k, x4, x5, x6] t := blk_put b2 3 k rfl
  have h4 := Kd.R_set h3 b3 ht 4 l
  have b4 : IsB _ g #[a, b, c, k, l, x5, x6] t := blk_put b3 4 l rfl
  have h5 := Kd.R_set h4 b4 ht 5 m
  have b5 : IsB _ g #[a, b, c, k, l, m, x6] t := blk_put b4 5 m rfl
  exact Kd.R_set h5 b5 ht 6 n
theorem S_set7 {α : Type} {d : Kd α} {e base : Nat} {ok : Nat → Prop} {W : World} {v : Value} {xs : List α} (h : Kd.S d e W base ok v xs) {g t : Nat} {x0 x1 x2 x3 x4 x5 x6 : Value} (hb : IsB W g #[x0, x1, x2, x3, x4, x5, x6] t) (ht : ∀ q, q ∈ e :: d.E → q ≠ t) (a b c k l m n : Value) : Kd.S d e (set7 W g a b c k l m n) base ok v xs := by
  obtain ⟨f, h⟩ := h
  exact ⟨f, R_set7 h hb ht a b c k l m n⟩
def F21RT7 : Bool × List (List Nat × List Nat) := (true, [([], []), ([0], [0]), ([], []), ([2], [2]), ([], []), ([3, 4], [3, 4]), ([5], [5]), ([6], [6]), ([7], [7]), ([1, 8, 7], [1, 8]), ([0, 1, 2, 3, 4, 5, 6, 7, 8, 9], []), ([10, 9, 9, 0, 1, 2, 3, 4, 5, 6, 7, 8, 9], [9, 10])])
def F21RB7 : List Nat := [0, 1, 0, 4, 0, 28, 60, 124, 252, 511, 1023, 2047]
theorem F21Rtab7 : rtab .any (opsOf Try.f21 7) = F21RT7 := by kernel_rfl
theorem F21Rbits7 : waitsOk F21RT7.2 F21RB7 = true := by kernel_rfl
def F21RT8 : Bool × List (List Nat × List Nat) := (true, [([], []), ([0], [0]), ([], []), ([2], [2]), ([3], [3]), ([1, 4], [1, 4]), ([], []), ([6], [6]), ([7], [7]), ([5, 8], [5, 8]), ([0, 1, 2, 3, 4, 5, 6, 7, 8, 9], []), ([10, 9, 5, 0, 1, 2, 3, 4, 5, 6, 7, 8, 9], [9, 10])])
def F21RB8 : List Nat := [0, 1, 0, 4, 12, 31, 0, 64, 192, 511, 1023, 2047]
theorem F21Rtab8 : rtab .any (opsOf Try.f21 8) = F21RT8 := by kernel_rfl
theorem F21Rbits8 : waitsOk F21RT8.2 F21RB8 = true := by kernel_rfl
set_option maxHeartbeats 4000000 in
set_option maxRecDepth 100000 in
theorem lent_calls (s0 s1 s2 : Int) (A3 : Option Addr) (c3 : Nat) (ps : List S56) (A4 : Option Addr) (c4 : Nat) (ss : List (List S56)) (lo ra : Int) (w : World) (hI : InW w A3 c3 ps A4 c4 ss) (hlp : ps.length ≤ 100000) (hmp : ∀ m ∈ ps, m.f3.length ≤ 100000) (hls : ss.length ≤ 100000) (hms : ∀ s ∈ ss, s.length ≤ 100000 ∧ ∀ m ∈ s, m.f3.length ≤ 100000) :
    Calls Try.prog 21 #[.agg (stC s0 s1 s2 A3 ps.length c3 A4 ss.length c4 lo ra)] w fun e w' => ∃ (A5 A6 : Option Addr) (c5 c6 M0 : Nat), e = .returned (.agg (stC s0 s1 s2 A5 ps.length c5 A6 ss.length c6 lo ra)) ∧ ps.length + 1 ≤ c5 ∧ Kd.S kOM 56 w' w.heap.size (fun k => k < M0) (.slice A5 (ps.length + 1) c5) (ps.map .inl ++ [.inr (markM (-77))]) ∧ ss.length + 1 ≤ c6 ∧ kOL.R 22 w' M0 (fun _ => True) (.slice A6 (ss.length + 1) c6) (ss.map .inl ++ [.inr [markM (-78)]]) ∧ w.heap.size ≤ M0 ∧ Below w.heap.size w w' := by
  have HI := Aside0.mk hI
  have HP := Aside0.mk (And.intro hlp hmp)
  have HS := Aside0.mk (And.intro hls hms)
  clear hI hlp hmp hls hms
  go_enter Try.func21, Try.ntmps21
  go_wp2_with fail
  obtain ⟨g, hg⟩ : ∃ g, g = w.heap.size := ⟨_, rfl⟩
  have HN := Aside0.mk (new3 w (stC s0 s1 s2 A3 ps.length c3 A4 ss.length c4 lo ra) (stC 0 0 0 none 0 0 none 0 0 0 0) (stC s0 s1 s2 A3 ps.length c3 A4 ss.length c4 lo ra) 25 25 25)
  have hB : Below w.heap.size w (((w.alloc (.cells (stC s0 s1 s2 A3 ps.length c3 A4 ss.length c4 lo ra) 25)).alloc (.cells (stC 0 0 0 none 0 0 none 0 0 0 0) 25)).alloc (.cells (stC s0 s1 s2 A3 ps.length c3 A4 ss.length c4 lo ra) 25)) := below_alloc (below_alloc (below_alloc (Below.refl _ _) _) _) _
  have HB := Aside0.mk hB
  have HI2 := Aside0.mk (HI.out.below hB)
  rw [← hg] at HN
  simp only [← hg]
  rw [show g + 1 + 1 = g + 2 from rfl]
  have HG := Aside0.mk hg
  clear hB hg
  generalize ((w.alloc (.cells (stC s0 s1 s2 A3 ps.length c3 A4 ss.length c4 lo ra) 25)).alloc (.cells (stC 0 0 0 none 0 0 none 0 0 0 0) 25)).alloc (.cells (stC s0 s1 s2 A3 ps.length c3 A4 ss.length c4 lo ra) 25) = w2 at HN HB HI2 ⊢
  refine (lentList_calls A3 c3 ps w2 HI2.out.hp HI2.out.lp HP.out.1 HP.out.2).mono ?_
  rintro _ w3 ⟨A5, c5, rfl, hl5, hS5, hb3⟩
  have H1 := Aside0.mk (blk_below HN.out.1 hb3)
  have H2 := Aside0.mk (blk_below HN.out.2.1 hb3)
  have H3 := Aside0.mk (blk_below HN.out.2.2 hb3)
  have HB3 := Aside0.mk (below_step HB.out hb3)
  have HI3 := Aside0.mk (HI2.out.below hb3)
  have HL5 := Aside0.mk hl5
  have HS5 := Aside0.mk (Kd.S_lower hS5 HB.out.size)
  clear hS5 hl5 hb3 HN HB HI2
  have f3 := blk_frozen H3.out 3
  have x3 := (blk_cell H3.out 3).trans rfl
  have f4 := blk_frozen H3.out 4
  have x4 := (blk_cell H3.out 4).trans rfl
  go_wp2_with fail
  have H3b := Aside0.mk (show IsB ((w3.setCell ⟨g + 2, 3, none⟩ (.slice A5 ps.length c5)).setCell ⟨g + 2, 4, none⟩ (.slice none 0 0)) (g + 2) (stC s0 s1 s2 A5 ps.length c5 none 0 0 lo ra) 25 from blk_put (blk_put H3.out 3 _ rfl) 4 _ rfl)
  have H1b := Aside0.mk (show IsB ((w3.setCell ⟨g + 2, 3, none⟩ (.slice A5 ps.length c5)).setCell ⟨g + 2, 4, none⟩ (.slice none 0 0)) g (stC s0 s1 s2 A3 ps.length c3 A4 ss.length c4 lo ra) 25 from blk_far (blk_far H1.out (by show g ≠ g + 2; omega) _) (by show g ≠ g + 2; omega) _)
  have H2b := Aside0.mk (show IsB ((w3.setCell ⟨g + 2, 3, none⟩ (.slice A5 ps.length c5)).setCell ⟨g + 2, 4, none⟩ (.slice none 0 0)) (g + 1) (stC 0 0 0 none 0 0 none 0 0 0 0) 25 from blk_far (blk_far H2.out (by show g + 1 ≠ g + 2; omega) _) (by show g + 1 ≠ g + 2; omega) _)
  have HBb := Aside0.mk (show Below w.heap.size w ((w3.setCell ⟨g + 2, 3, none⟩ (.slice A5 ps.length c5)).setCell ⟨g + 2, 4, none⟩ (.slice none 0 0)) from (HB3.out.setCell (p := ⟨g + 2, 3, none⟩) (by have := HG.out; show w.heap.size ≤ g + 2; omega) _).setCell (p := ⟨g + 2, 4, none⟩) (by have := HG.out; show w.heap.size ≤ g + 2; omega) _)
  have HS5b := Aside0.mk (Kd.S_set (Kd.S_set HS5.out H3.out (by decide) 3 (.slice A5 ps.length c5)) (blk_put H3.out 3 (.slice A5 ps.length c5) rfl) (by decide) 4 (.slice none 0 0))
  obtain ⟨M0, hM0⟩ : ∃ M0, M0 = w3.heap.size := ⟨_, rfl⟩
  have HS5c := Aside0.mk (show Kd.S kOM 56 ((w3.setCell ⟨g + 2, 3, none⟩ (.slice A5 ps.length c5)).setCell ⟨g + 2, 4, none⟩ (.slice none 0 0)) w.heap.size (fun k => k < M0) (.slice A5 (ps.length + 1) c5) (ps.map .inl ++ [.inr (markM (-77))]) from Kd.S_mono (Kd.S_bound HS5b.out) (fun k hk => by
    have h9 := hk.2.2.1
    rw [World.size_setCell, World.size_setCell] at h9
    omega))
  have HLR0 := Aside0.mk (LentR.mk H1b.out H2b.out H3b.out HS5c.out (Kd.R_nil kOL 22 _ M0 (fun _ => True)) HBb.out (by rw [World.size_setCell, World.size_setCell, hM0]; exact Nat.le_refl _) (by rw [hM0]; exact HB3.out.size))
  clear hM0 HS5b HS5c H1b H2b H3b HBb HS5 HB3 HI3 H1 H2 H3 f3 x3 f4 x4
  go_loopg [4] ss.length (fun kq v4 w' => ∃ (i : Nat) (u : Value) (xs : List (List S56 ⊕ List S56)), v4 = .int .i64 i ∧ Aside0 (i + kq = ss.length ∧ xs = (ss.take i).map .inl) ∧ Aside0 (LentR w g M0 s0 s1 s2 A3 ps.length c3 A4 ss.length c4 lo ra A5 c5 (ps.map .inl ++ [.inr (markM (-77))]) u xs w'))
  case atStart => exact ⟨0, _, [], rfl, ⟨⟨by omega, rfl⟩⟩, HLR0⟩
  case round =>
    clear HLR0
    obtain ⟨i, u, xs, rfl, HX, HLR⟩ := hrel
    obtain ⟨A6, c6, rfl, hc6, hC6⟩ := Kd.R_reads HLR.out.HV
    have HC6 := Aside0.mk hc6
    clear hc6 hC6
    have x4 := (blk_cell HLR.out.H1 4).trans rfl
    by_cases hlt : i < ss.length
    · have d6 : decide ((i : Int) < (ss.length : Int)) = true := decide_eq_true (by omega)
      have d7 : decide (i < ss.length) = true := decide_eq_true hlt
      have j0 : (0 : Int) ≤ (i : Int) := by omega
      have j1 : (i : Int) < (ss.length : Int) := by omega
      obtain ⟨ad2, A7, c7, hA0, kw, hl7, hC7⟩ := at_L4 HI.out.hs (i : Int) (by omega) (by omega)
      subst hA0
      obtain ⟨s, hs⟩ : ∃ s, s = rd_L4 ss (i : Int) := ⟨_, rfl⟩
      have hmem : s = ss[i] := by rw [hs]; simp [rd_L4, List.getD_eq_getElem?_getD, hlt]
      rw [← hs] at kw hl7 hC7
      simp only [Int.toNat_natCast] at kw
      have KW := Aside0.mk kw
      have k0 := (HLR.out.HB.cell (World.block_lt_of_cell? _ _ kw)).trans kw
      replace hC7 := Kd.C_below hC7 HLR.out.HB
      clear kw
      have HSB := Aside0.mk (HS.out.2 s (hmem ▸ List.getElem_mem hlt))
      have HTK := Aside0.mk (show (ss.take (i + 1)).map (Sum.inl (β := List S56)) = xs ++ [.inl s] by rw [HX.out.2, hmem, List.take_succ_eq_append_getElem hlt, List.map_append]; rfl)
      have HLT := Aside0.mk hlt
      have HXL := Aside0.mk (show xs.length ≤ 100000 by rw [HX.out.2, List.length_map, List.length_take]; have := HS.out.1; omega)
      have HC7 := Aside0.mk (And.intro hl7 hC7)
      clear hl7 hC7 hs hlt hmem
      have y4 := (blk_cell HLR.out.H3 4).trans rfl
      go_wp2
      refine start_ (n := 12) (S := fun w' => w'.cell? ⟨g, 4, none⟩ = some (.slice (some ad2) ss.length c4) ∧ w'.cell? ⟨g + 2, 4, none⟩ = some (.slice A6 xs.length c6) ∧ w'.cell? (ad2.add i) = some (.slice A7 s.length c7)) (ds := [11]) #[false, false, false, false, false, false, false, false, false, false, false, false] (by kernel_rfl) rfl rfl ⟨x4, y4, k0⟩ (fun hHeld => ?_)
      refine with_tabW F21Rtab7 F21Rbits7 (fun HT_ HW_ => ?_)
      refine pure_ (i := 0) (N := some 18) (v := ?_) (a' := ?_) #[true, false, false, false, false, false, false, false, false, false, false, false] rfl rfl (any_of HT_.out (by kernel_rfl)) (fun _ _ _ h => h) (Or.inl ⟨by rfl, ?_⟩) ?_ ?_
      rotate_left
      · intro w'
        go_simp
        with_reducible rfl
      rotate_left
      · simp only [Act.put, List.setIfInBounds_toArray, List.set_cons_zero, List.set_cons_succ, i64_w, i32_w]
        rfl
      refine pure_ (i := 2) (N := some 20) (v := ?_) (a' := ?_) #[true, false, true, false, false, false, false, false, false, false, false, false] rfl rfl (any_of HT_.out (by kernel_rfl)) (fun _ _ _ h => h) (Or.inl ⟨by rfl, ?_⟩) ?_ ?_
      rotate_left
      · intro w'
        go_simp
        with_reducible rfl
      rotate_left
      · simp only [Act.put, List.setIfInBounds_toArray, List.set_cons_zero, List.set_cons_succ, i64_w, i32_w]
        rfl
      refine pure_ (i := 4) (N := some 22) (v := ?_) (a' := ?_) #[true, false, true, false, true, false, false, false, false, false, false, false] rfl rfl (any_of HT_.out (by kernel_rfl)) (fun _ _ _ h => h) (Or.inl ⟨by rfl, ?_⟩) ?_ ?_
      rotate_left
      · intro w'
        go_simp
        with_reducible rfl
      rotate_left
      · simp only [Act.put, List.setIfInBounds_toArray, List.set_cons_zero, List.set_cons_succ, i64_w, i32_w]
        rfl
      refine take_ (i := 1) (N := some 19) (v := ?_) (a' := ?_) #[true, true, true, false, true, false, false, false, false, false, false, false] rfl rfl (take_ofW HT_.out HW_.out (by kernel_rfl)) (fun _ _ _ h => h) (Or.inl ⟨by rfl, ?_⟩) hHeld ?_ ?_
      rotate_left
      · rintro w' ⟨s0, s1, s2⟩
        go_simp
        with_reducible rfl
      rotate_left
      · simp only [Act.put, List.setIfInBounds_toArray, List.set_cons_zero, List.set_cons_succ, i64_w, i32_w]
        rfl
      refine take_ (i := 3) (N := some 21) (v := ?_) (a' := ?_) #[true, true, true, true, true, false, false, false, false, false, false, false] rfl rfl (take_ofW HT_.out HW_.out (by kernel_rfl)) (fun _ _ _ h => h) (Or.inl ⟨by rfl, ?_⟩) hHeld ?_ ?_
      rotate_left
      · rintro w' ⟨s0, s1, s2⟩
        go_simp
        with_reducible rfl
      rotate_left
      · simp only [Act.put, List.setIfInBounds_toArray, List.set_cons_zero, List.set_cons_succ, i64_w, i32_w]
        rfl
      refine pure_ (i := 5) (N := some 23) (v := ?_) (a' := ?_) #[true, true, true, true, true, true, false, false, false, false, false, false] rfl rfl (any_of HT_.out (by kernel_rfl)) (fun _ _ _ h => h) (Or.inl ⟨by rfl, ?_⟩) ?_ ?_
      rotate_left
      · intro w'
        go_simp
        with_reducible rfl
      rotate_left
      · simp only [Act.put, List.setIfInBounds_toArray, List.set_cons_zero, List.set_cons_succ, i64_w, i32_w]
        rfl
      refine take_ (i := 6) (N := some 24) (v := ?_) (a' := ?_) #[true, true, true, true, true, true, true, false, false, false, false, false] rfl rfl (take_ofW HT_.out HW_.out (by kernel_rfl)) (fun _ _ _ h => h) (Or.inl ⟨by rfl, ?_⟩) hHeld ?_ ?_
      rotate_left
      · rintro w' ⟨s0, s1, s2⟩
        go_simp
        with_reducible rfl
      rotate_left
      · simp only [Act.put, List.setIfInBounds_toArray, List.set_cons_zero, List.set_cons_succ, i64_w, i32_w]
        rfl
      refine one_ (i := 7) (N := some 25) #[true, true, true, true, true, true, true, true, false, false, false, false] rfl rfl (one_of HT_.out (by kernel_rfl)) (by decide) (fun K hK => ?_)
      refine goes_ Try.func39 (by kernel_rfl) rfl #[.slice A7 s.length c7] (by rfl) rfl rfl (by simp only [List.map_toArray, List.map_cons, List.map_nil]; rfl) ?_
      refine (lentList_calls A7 c7 s _ (Kd.C_drew HC7.out.2) HC7.out.1 HSB.out.1 HSB.out.2).mono ?_
      rintro e w5 ⟨A8, c8, rfl, hl8, hS8, hb8⟩
      refine ⟨_, rfl, ?_⟩
      have HLR5 := Aside0.mk ((HLR.out.below (below_drew (Below.refl _ _))).below hb8)
      have HM5 := Aside0.mk (show kOL.M w5 M0 (fun k => some k ≠ (Value.slice A6 xs.length c6).ownBlock) (.inl s) [.slice A8 s.length c8] by
        have hz : wr.drew.heap.size = wr.heap.size := rfl
        have h1 := Kd.R_lower (Kd.R_mono (ok' := fun k => some k ≠ (Value.slice A6 xs.length c6).ownBlock) (Kd.R_bound (Kd.S_R hS8)) (fun k hk he => by
          have h2 := own_lt2 HLR.out.HV k he.symm
          have h3 := hk.2.1
          omega)) (show M0 ≤ wr.drew.heap.size from HLR.out.HM)
        refine ⟨A8, c8, ?_, ?_, ?_⟩
        · rw [List.length_map]
        · rw [List.length_map]; exact hl8
        · rw [List.length_map]; exact h1)
      have hk5 := (HLR5.out.HB.cell (World.block_lt_of_cell? _ _ KW.out)).trans KW.out
      have p4 := (blk_cell HLR5.out.H1 4).trans rfl
      have q4 := (blk_cell HLR5.out.H3 4).trans rfl
      clear hb8 hS8 hl8 HLR HC7
      refine hK.out _ _ ⟨p4, q4, hk5⟩ (fun hHeld => ?_)
      clear hK K
      refine norm_ (a' := ?_) ?_ ?_
      rotate_left
      · show Act.put _ (some 25) _ = _
        simp only [Act.put, List.setIfInBounds_toArray, List.set_cons_zero, List.set_cons_succ, i64_w, i32_w]
        rfl
      refine one_ (i := 8) (N := some 26) #[true, true, true, true, true, true, true, true, true, false, false, false] rfl rfl (one_of HT_.out (by kernel_rfl)) (by decide) (fun K hK => ?_)
      refine value_ (w1 := ?_) (v := ?_) (by rfl) rfl ?_ ?_
      rotate_left 2
      · go_simp
        constructor
        · rfl
        · rfl
      have HLR6 := Aside0.mk (HLR5.out.below ((Below.refl _ _).alloc (Nat.le_refl _) (.cells #[.slice A8 s.length c8] 22)))
      have HM6 := Aside0.mk (Kd.M_below HM5.out ((Below.refl _ _).alloc (Nat.le_refl _) (.cells #[.slice A8 s.length c8] 22)))
      have HRW := Aside0.mk (show ReadsRow (kOL.M (w5.alloc (.cells #[.slice A8 s.length c8] 22)) M0 (fun k => some k ≠ (Value.slice A6 xs.length c6).ownBlock)) 1 (w5.alloc (.cells #[.slice A8 s.length c8] 22)) (some ⟨w5.heap.size, 0, none⟩) 1 [.inl s] from reads_1 (blk_new w5 (.cells #[.slice A8 s.length c8] 22)) rfl HM6.out)
      have hk6 := (HLR6.out.HB.cell (World.block_lt_of_cell? _ _ KW.out)).trans KW.out
      have p4 := (blk_cell HLR6.out.H1 4).trans rfl
      have q4 := (blk_cell HLR6.out.H3 4).trans rfl
      refine hK.out _ _ ⟨p4, q4, hk6⟩ (fun hHeld => ?_)
      clear hK K
      refine norm_ (a' := ?_) ?_ ?_
      rotate_left
      · show Act.put _ (some 26) _ = _
        simp only [Act.put, List.setIfInBounds_toArray, List.set_cons_zero, List.set_cons_succ, i64_w, i32_w]
        rfl
      refine one_ (i := 9) (N := some 27) #[true, true, true, true, true, true, true, true, true, true, false, false] rfl rfl (one_of HT_.out (by kernel_rfl)) (by decide) (fun K hK => ?_)
      refine Kd.R_append_rows_step kOL (Rr := kOL.M (w5.alloc (.cells #[.slice A8 s.length c8] 22)) M0 (fun k => some k ≠ (Value.slice A6 xs.length c6).ownBlock)) (w0 := w5.alloc (.cells #[.slice A8 s.length c8] 22)) M0 (by rfl) (.tmp 19) (.tmp 26) 23 22 (.slice none 0 0) 24 rfl Try.underlying23 info22u rfl (show 0 < 1 by decide) (by omega) (.slice A6 xs.length c6) xs [.inl s] (some ⟨w5.heap.size, 0, none⟩) 1 1 (fun _ => True) (fun k => some k ≠ (Value.slice A6 xs.length c6).ownBlock) rfl rfl ?aO ?aR ?aK (fun _ hk => ⟨trivial, hk⟩) (fun _ _ => trivial) ?aB ?aS ?aL ?_
      (case aO => exact HLR6.out.HV)
      (case aR => exact HRW.out)
      (case aK => exact fun x cs h => h)
      (case aB => exact Below.refl _ _)
      (case aS => exact HLR6.out.HM)
      (case aL => have := HXL.out; omega)
      intro v9 w9 ho hb hg hat
      have HLR9 := Aside0.mk (HLR6.out.put (by have := HG.out; omega) hg ho)
      have hq9 : IsB w9 (g + 2) _ 25 := blk_grown HLR6.out.H3 hg (Kd.R_ne HLR6.out.HV HLR6.out.H3 (by decide))
      have hp9 : IsB w9 g _ 25 := blk_grown HLR6.out.H1 hg (Kd.R_ne HLR6.out.HV HLR6.out.H1 (by decide))
      have p4 := (blk_cell hp9 4).trans rfl
      have q4 := (blk_cell hq9 4).trans rfl
      have rf := blk_frozen hq9 4
      have hk9 : w9.cell? (ad2.add i) = some (.slice A7 s.length c7) := by
        have hb69 : Below w.heap.size w w9 := HLR6.out.HB.grown hg HLR6.out.HB.size (fun k hk => by
          obtain ⟨inner, hi⟩ := Kd.R_own HLR6.out.HV
          have h9 := own_base hi k hk
          have := HLR6.out.HW
          omega)
        exact (hb69.cell (World.block_lt_of_cell? _ _ KW.out)).trans KW.out
      obtain ⟨A9, c9, rfl, _, _⟩ := Kd.R_reads ho
      obtain ⟨l9, hl9⟩ : ∃ l9, l9 = xs ++ [.inl s] := ⟨_, rfl⟩
      rw [← hl9] at HLR9 ⊢
      have HL9 := Aside0.mk hl9
      clear hl9 ho hb hg hat hq9 hp9 HLR6 HM6 HRW HLR5 HM5
      refine hK.out _ _ ⟨p4, q4, hk9⟩ (fun hHeld => ?_)
      clear hK K
      refine norm_ (a' := ?_) ?_ ?_
      rotate_left
      · show Act.put _ (some 27) _ = _
        simp only [Act.put, List.setIfInBounds_toArray, List.set_cons_zero, List.set_cons_succ, i64_w, i32_w]
        rfl
      refine pure_ (i := 10) (N := some 28) (v := ?_) (a' := ?_) #[true, true, true, true, true, true, true, true, true, true, true, false] rfl rfl (any_of HT_.out (by kernel_rfl)) (fun _ _ _ h => h) (Or.inl ⟨by rfl, ?_⟩) ?_ ?_
      rotate_left
      · intro w'
        go_simp
        with_reducible rfl
      rotate_left
      · simp only [Act.put, List.setIfInBounds_toArray, List.set_cons_zero, List.set_cons_succ, i64_w, i32_w]
        rfl
      refine last_ (i := 11) (N := none) #[true, true, true, true, true, true, true, true, true, true, true, true] rfl rfl (one_of HT_.out (by kernel_rfl)) (by decide) (fun K hK => ?_)
      refine skip_ (w1 := ?_) (by rfl) rfl ?_ ?_
      rotate_left
      · go_simp
        rfl
      refine hK.out _ _ ?_
      clear hK K
      refine done_ (done_of HT_.out (by kernel_rfl)) ?_
      go_wp2
      go_roundg (gk - 1)
      case measure => have := HX.out.1; have := HLT.out; omega
      case rel => exact ⟨i + 1, _, _, next_i6 (by have := HLT.out; have := HS.out.1; omega), ⟨⟨by have := HX.out.1; have := HLT.out; omega, by rw [HL9.out, HTK.out]⟩⟩, HLR9⟩
    · have d6 : decide ((i : Int) < (ss.length : Int)) = false := decide_eq_false (by omega)
      have d7 : decide (i < ss.length) = false := decide_eq_false hlt
      have hi : i = ss.length := by have := HX.out.1; omega
      have HXS := Aside0.mk (show xs = ss.map .inl by rw [HX.out.2, hi, List.take_length])
      have HXL := Aside0.mk (show xs.length = ss.length by rw [HXS.out, List.length_map])
      clear HX hlt hi
      have y4 := (blk_cell HLR.out.H3 4).trans rfl
      go_wp2
      refine start_ (n := 12) (S := fun w' => w'.cell? ⟨g, 4, none⟩ = some (.slice A4 ss.length c4) ∧ w'.cell? ⟨g + 2, 4, none⟩ = some (.slice A6 xs.length c6)) (ds := [11]) #[false, false, false, false, false, false, false, false, false, false, false, false] (by kernel_rfl) rfl rfl ⟨x4, y4⟩ (fun hHeld => ?_)
      refine with_tabW F21Rtab8 F21Rbits8 (fun HT_ HW_ => ?_)
      refine pure_ (i := 0) (N := some 29) (v := ?_) (a' := ?_) #[true, false, false, false, false, false, false, false, false, false, false, false] rfl rfl (any_of HT_.out (by kernel_rfl)) (fun _ _ _ h => h) (Or.inl ⟨by rfl, ?_⟩) ?_ ?_
      rotate_left
      · intro w'
        go_simp
        with_reducible rfl
      rotate_left
      · simp only [Act.put, List.setIfInBounds_toArray, List.set_cons_zero, List.set_cons_succ, i64_w, i32_w]
        rfl
      refine pure_ (i := 2) (N := some 31) (v := ?_) (a' := ?_) #[true, false, true, false, false, false, false, false, false, false, false, false] rfl rfl (any_of HT_.out (by kernel_rfl)) (fun _ _ _ h => h) (Or.inl ⟨by rfl, ?_⟩) ?_ ?_
      rotate_left
      · intro w'
        go_simp
        with_reducible rfl
      rotate_left
      · simp only [Act.put, List.setIfInBounds_toArray, List.set_cons_zero, List.set_cons_succ, i64_w, i32_w]
        rfl
      refine pure_ (i := 6) (N := some 35) (v := ?_) (a' := ?_) #[true, false, true, false, false, false, true, false, false, false, false, false] rfl rfl (any_of HT_.out (by kernel_rfl)) (fun _ _ _ h => h) (Or.inl ⟨by rfl, ?_⟩) ?_ ?_
      rotate_left
      · intro w'
        go_simp
        with_reducible rfl
      rotate_left
      · simp only [Act.put, List.setIfInBounds_toArray, List.set_cons_zero, List.set_cons_succ, i64_w, i32_w]
        rfl
      refine take_ (i := 1) (N := some 30) (v := ?_) (a' := ?_) #[true, true, true, false, false, false, true, false, false, false, false, false] rfl rfl (take_ofW HT_.out HW_.out (by kernel_rfl)) (fun _ _ _ h => h) (Or.inl ⟨by rfl, ?_⟩) hHeld ?_ ?_
      rotate_left
      · rintro w' ⟨s0, s1⟩
        go_simp
        with_reducible rfl
      rotate_left
      · simp only [Act.put, List.setIfInBounds_toArray, List.set_cons_zero, List.set_cons_succ, i64_w, i32_w]
        rfl
      refine take_ (i := 7) (N := some 36) (v := ?_) (a' := ?_) #[true, true, true, false, false, false, true, true, false, false, false, false] rfl rfl (take_ofW HT_.out HW_.out (by kernel_rfl)) (fun _ _ _ h => h) (Or.inl ⟨by rfl, ?_⟩) hHeld ?_ ?_
      rotate_left
      · rintro w' ⟨s0, s1⟩
        go_simp
        with_reducible rfl
      rotate_left
      · simp only [Act.put, List.setIfInBounds_toArray, List.set_cons_zero, List.set_cons_succ, i64_w, i32_w]
        rfl
      refine pure_ (i := 8) (N := some 37) (v := ?_) (a' := ?_) #[true, true, true, false, false, false, true, true, true, false, false, false] rfl rfl (any_of HT_.out (by kernel_rfl)) (fun _ _ _ h => h) (Or.inl ⟨by rfl, ?_⟩) ?_ ?_
      rotate_left
      · intro w'
        go_simp
        with_reducible rfl
      rotate_left
      · simp only [Act.put, List.setIfInBounds_toArray, List.set_cons_zero, List.set_cons_succ, i64_w, i32_w]
        rfl
      refine one_ (i := 3) (N := some 32) #[true, true, true, true, false, false, true, true, true, false, false, false] rfl rfl (one_of HT_.out (by kernel_rfl)) (by decide) (fun K hK => ?_)
      refine value_ (w1 := ?_) (v := ?_) (by rfl) rfl ?_ ?_
      rotate_left 2
      · go_simp
        constructor
        · rfl
        · rfl
      have HLR5 := Aside0.mk ((HLR.out.below (below_drew (Below.refl _ _))).below ((Below.refl _ _).alloc (Nat.le_refl _) (.cells #[.int .i64 (-78), .int .i64 0, .int .i64 0, .slice none 0 0] 56)))
      have HNM := Aside0.mk (blk_new wr.drew (.cells #[.int .i64 (-78), .int .i64 0, .int .i64 0, .slice none 0 0] 56))
      have p4 := (blk_cell HLR5.out.H1 4).trans rfl
      have q4 := (blk_cell HLR5.out.H3 4).trans rfl
      refine hK.out _ _ ⟨p4, q4⟩ (fun hHeld => ?_)
      clear hK K
      refine norm_ (a' := ?_) ?_ ?_
      rotate_left
      · show Act.put _ (some 32) _ = _
        simp only [Act.put, List.setIfInBounds_toArray, List.set_cons_zero, List.set_cons_succ, i64_w, i32_w]
        rfl
      refine one_ (i := 4) (N := some 33) #[true, true, true, true, true, false, true, true, true, false, false, false] rfl rfl (one_of HT_.out (by kernel_rfl)) (by decide) (fun K hK => ?_)
      refine value_ (w1 := ?_) (v := ?_) (by rfl) rfl ?_ ?_
      rotate_left 2
      · go_simp
        constructor
        · rfl
        · rfl
      have hz : wr.drew.heap.size = wr.heap.size := rfl
      have HLR6 := Aside0.mk (HLR5.out.below ((Below.refl _ _).alloc (Nat.le_refl _) (.cells #[.slice (some ⟨wr.heap.size, 0, none⟩) 1 1] 22)))
      have HNM6 := Aside0.mk (blk_alloc HNM.out (.cells #[.slice (some ⟨wr.heap.size, 0, none⟩) 1 1] 22))
      have HSZ5 := Aside0.mk (World.size_alloc wr.drew (.cells #[.int .i64 (-78), .int .i64 0, .int .i64 0, .slice none 0 0] 56))
      have HM6 := Aside0.mk (show kOL.M ((wr.drew.alloc (.cells #[.int .i64 (-78), .int .i64 0, .int .i64 0, .slice none 0 0] 56)).alloc (.cells #[.slice (some ⟨wr.heap.size, 0, none⟩) 1 1] 22)) M0 (fun k => k = wr.heap.size) (.inr [markM (-78)]) [.slice (some ⟨wr.heap.size, 0, none⟩) 1 1] from ⟨_, rfl, R_lit (xs := [markM (-78)]) HNM6.out HLR.out.HM rfl rfl (by simp [maxLen]) (fun j x hj => by
        match j, hj with
        | 0, hj =>
          obtain rfl : markM (-78) = x := by simpa using hj
          exact k56_mkM _ _ _ (markM (-78)) (Kd.R_nil _ _ _ _ _)
        | j + 1, hj => simp at hj)⟩)
      have HRW := Aside0.mk (show ReadsRow (kOL.M ((wr.drew.alloc (.cells #[.int .i64 (-78), .int .i64 0, .int .i64 0, .slice none 0 0] 56)).alloc (.cells #[.slice (some ⟨wr.heap.size, 0, none⟩) 1 1] 22)) M0 (fun k => k = wr.heap.size)) 1 ((wr.drew.alloc (.cells #[.int .i64 (-78), .int .i64 0, .int .i64 0, .slice none 0 0] 56)).alloc (.cells #[.slice (some ⟨wr.heap.size, 0, none⟩) 1 1] 22)) (some ⟨wr.heap.size + 1, 0, none⟩) 1 [.inr [markM (-78)]] from reads_1 (show IsB _ (wr.heap.size + 1) _ 22 from (show (wr.drew.alloc (.cells #[.int .i64 (-78), .int .i64 0, .int .i64 0, .slice none 0 0] 56)).heap.size = wr.heap.size + 1 from World.size_alloc wr.drew _) ▸ blk_new (wr.drew.alloc (.cells #[.int .i64 (-78), .int .i64 0, .int .i64 0, .slice none 0 0] 56)) (.cells #[.slice (some ⟨wr.heap.size, 0, none⟩) 1 1] 22)) rfl HM6.out)
      have HOK := Aside0.mk (show ∀ k, k = wr.heap.size → True ∧ some k ≠ (Value.slice A6 xs.length c6).ownBlock from fun k hk => ⟨trivial, fun he => by have := own_lt2 HLR.out.HV k he.symm; omega⟩)
      have p4 := (blk_cell HLR6.out.H1 4).trans rfl
      have q4 := (blk_cell HLR6.out.H3 4).trans rfl
      refine hK.out _ _ ⟨p4, q4⟩ (fun hHeld => ?_)
      clear hK K
      refine norm_ (a' := ?_) ?_ ?_
      rotate_left
      · show Act.put _ (some 33) _ = _
        simp only [Act.put, List.setIfInBounds_toArray, List.set_cons_zero, List.set_cons_succ, i64_w, i32_w]
        rfl
      refine one_ (i := 5) (N := some 34) #[true, true, true, true, true, true, true, true, true, false, false, false] rfl rfl (one_of HT_.out (by kernel_rfl)) (by decide) (fun K hK => ?_)
      refine Kd.R_append_rows_step kOL (Rr := kOL.M ((wr.drew.alloc (.cells #[.int .i64 (-78), .int .i64 0, .int .i64 0, .slice none 0 0] 56)).alloc (.cells #[.slice (some ⟨wr.heap.size, 0, none⟩) 1 1] 22)) M0 (fun k => k = wr.heap.size)) (w0 := (wr.drew.alloc (.cells #[.int .i64 (-78), .int .i64 0, .int .i64 0, .slice none 0 0] 56)).alloc (.cells #[.slice (some ⟨wr.heap.size, 0, none⟩) 1 1] 22)) M0 (by rfl) (.tmp 30) (.tmp 33) 23 22 (.slice none 0 0) 24 rfl Try.underlying23 info22u rfl (show 0 < 1 by decide) (by omega) (.slice A6 xs.length c6) xs [.inr [markM (-78)]] (some ⟨wr.heap.size + 1, 0, none⟩) 1 1 (fun _ => True) (fun k => k = wr.heap.size) rfl rfl ?aO ?aR ?aK HOK.out (fun _ _ => trivial) ?aB ?aS ?aL ?_
      (case aO => exact HLR6.out.HV)
      (case aR => exact HRW.out)
      (case aK => exact fun x cs h => h)
      (case aB => exact Below.refl _ _)
      (case aS => exact HLR6.out.HM)
      (case aL => have := HXL.out; have := HS.out.1; omega)
      intro v9 w9 ho hb hg hat
      obtain ⟨h91, h92, h93, h9S, h9B⟩ := HLR6.out.grown hg
      rw [HXS.out] at ho
      obtain ⟨A9, c9, rfl, hc9, _⟩ := Kd.R_reads ho
      have hll : (ss.map (Sum.inl (β := List S56)) ++ [Sum.inr [markM (-78)]]).length = ss.length + 1 := by rw [List.length_append, List.length_map]; rfl
      rw [hll] at ho hc9 ⊢
      have HO9 := Aside0.mk ho
      have H91 := Aside0.mk h91
      have H92 := Aside0.mk h92
      have H93 := Aside0.mk h93
      have H9S := Aside0.mk h9S
      have H9B := Aside0.mk h9B
      have HC9 := Aside0.mk hc9
      have hnc := eq_true (show ss.length ≤ c9 by omega)
      have p4 := (blk_cell H91.out 4).trans rfl
      have q4 := (blk_cell H93.out 4).trans rfl
      have rf := blk_frozen H93.out 4
      clear ho hb hg hat hc9 hll HLR6 HM6 HRW HLR5 h91 h92 h93 h9S h9B HOK HNM HNM6
      refine hK.out _ _ ⟨p4, q4⟩ (fun hHeld => ?_)
      clear hK K
      refine norm_ (a' := ?_) ?_ ?_
      rotate_left
      · show Act.put _ (some 34) _ = _
        simp only [Act.put, List.setIfInBounds_toArray, List.set_cons_zero, List.set_cons_succ, i64_w, i32_w]
        rfl
      refine pure_ (i := 9) (N := some 38) (v := ?_) (a' := ?_) #[true, true, true, true, true, true, true, true, true, true, false, false] rfl rfl (any_of HT_.out (by kernel_rfl)) (fun _ _ _ h => h) (Or.inl ⟨by rfl, ?_⟩) ?_ ?_
      rotate_left
      · intro w'
        go_simp
        with_reducible rfl
      rotate_left
      · simp only [Act.put, List.setIfInBounds_toArray, List.set_cons_zero, List.set_cons_succ, i64_w, i32_w]
        rfl
      refine pure_ (i := 10) (N := some 39) (v := ?_) (a' := ?_) #[true, true, true, true, true, true, true, true, true, true, true, false] rfl rfl (any_of HT_.out (by kernel_rfl)) (fun _ _ _ h => h) (Or.inl ⟨by rfl, ?_⟩) ?_ ?_
      rotate_left
      · intro w'
        go_simp
        with_reducible rfl
      rotate_left
      · simp only [Act.put, List.setIfInBounds_toArray, List.set_cons_zero, List.set_cons_succ, i64_w, i32_w]
        rfl
      refine last_ (i := 11) (N := none) #[true, true, true, true, true, true, true, true, true, true, true, true] rfl rfl (one_of HT_.out (by kernel_rfl)) (by decide) (fun K hK => ?_)
      refine skip_ (w1 := ?_) (by rfl) rfl ?_ ?_
      rotate_left
      · go_simp
        rfl
      refine hK.out _ _ ?_
      clear hK K
      refine done_ (done_of HT_.out (by kernel_rfl)) ?_
      have HE1 := Aside0.mk (show IsB (w9.setCell ⟨g + 2, 4, none⟩ (.slice A9 ss.length c9)) (g + 1) (stC 0 0 0 none 0 0 none 0 0 0 0) 25 from blk_far H92.out (by show g + 1 ≠ g + 2; omega) _)
      have HE2 := Aside0.mk (show IsB (w9.setCell ⟨g + 2, 4, none⟩ (.slice A9 ss.length c9)) (g + 2) (stC s0 s1 s2 A5 ps.length c5 A9 ss.length c9 lo ra) 25 from blk_put H93.out 4 _ rfl)
      have HES := Aside0.mk (Kd.S_set H9S.out H93.out (by decide) 4 (.slice A9 ss.length c9))
      have HEV := Aside0.mk (Kd.R_set HO9.out H93.out (by decide) 4 (.slice A9 ss.length c9))
      have HEB := Aside0.mk (show Below w.heap.size w (w9.setCell ⟨g + 2, 4, none⟩ (.slice A9 ss.length c9)) from H9B.out.setCell (p := ⟨g + 2, 4, none⟩) (by have := HG.out; show w.heap.size ≤ g + 2; omega) _)
      have HMW := Aside0.mk HLR.out.HW
      clear HLR H91 H92 H93 HO9 H9S H9B p4 q4 rf hHeld x4 y4
      generalize w9.setCell ⟨g + 2, 4, none⟩ (.slice A9 ss.length c9) = wE at HE1 HE2 HES HEV HEB ⊢
      have x0 := (blk_cell HE2.out 0).trans rfl
      have x1 := (blk_cell HE2.out 1).trans rfl
      have x2 := (blk_cell HE2.out 2).trans rfl
      have x3 := (blk_cell HE2.out 3).trans rfl
      have x4 := (blk_cell HE2.out 4).trans rfl
      have x5 := (blk_cell HE2.out 5).trans rfl
      have x6 := (blk_cell HE2.out 6).trans rfl
      have y0 := (blk_cell HE1.out 0).trans rfl
      have y1 := (blk_cell HE1.out 1).trans rfl
      have y2 := (blk_cell HE1.out 2).trans rfl
      have y3 := (blk_cell HE1.out 3).trans rfl
      have y4 := (blk_cell HE1.out 4).trans rfl
      have y5 := (blk_cell HE1.out 5).trans rfl
      have y6 := (blk_cell HE1.out 6).trans rfl
      have f0 := blk_frozen HE1.out 0
      have f1 := blk_frozen HE1.out 1
      have f2 := blk_frozen HE1.out 2
      have f3 := blk_frozen HE1.out 3
      have f4 := blk_frozen HE1.out 4
      have f5 := blk_frozen HE1.out 5
      have f6 := blk_frozen HE1.out 6
      go_wp2
      have HF1 := isB_set7 HE1.out (.int .i64 s0) (.int .i64 s1) (.int .i64 s2) (.slice A5 ps.length c5) (.slice A9 ss.length c9) (.int .i64 lo) (.int .i64 ra)
      refine bodyPost_ret (results_cell_row rfl _ _ (g + 1) 25 (stC s0 s1 s2 A5 ps.length c5 A9 ss.length c9 lo ra) (0, 0) _ rfl HF1 Try.underlying25 rfl (by kernel_rfl)) rfl ?_
      refine ⟨A5, A9, c5, c9, M0, rfl, HL5.out, ?_, HC9.out, ?_, HMW.out, below_set7 HEB.out (by have := HG.out; omega) _ _ _ _ _ _ _⟩
      · exact S_set7 HES.out HE1.out (by decide) _ _ _ _ _ _ _
      · exact R_set7 HEV.out HE1.out (by decide) _ _ _ _ _ _ _
end Go.Proofs.Ytmiljlbbacbbpaa
