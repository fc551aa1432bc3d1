/- state.Read's deferred closure: what recover makes of a stop. -/
import Derived.Test.YtmiljlbbacbbpaaMat
import Derived.Defers
import Derived.Recover
namespace Go.Proofs.Ytmiljlbbacbbpaa
open Go.RowKit PBase
open Go.Proofs.YtmiljlbbacbbpaaW.PrintWords Go.Proofs.YtmiljlbbacbbpaaW.PrintLast Go.Proofs.YtmiljlbbacbbpaaW.PrintMore
set_option linter.unusedVariables false
set_option linter.unusedSimpArgs false

abbrev zeros7 : Array Value := #[.int .i64 0, .int .i64 0, .int .i64 0, .slice none 0 0, .slice none 0 0, .int .i64 0, .int .i64 0]
abbrev entry (q p : Int) (b : Bool) : PanicEntry := { v := .iface 70 (.agg #[.int .i64 q, .int .i64 p]), recovered := b }

def set7 (W : World) (g : Nat) (a b c d e f i : Value) : World := ((((((W.setCell ⟨g, 0, none⟩ a).setCell ⟨g, 1, none⟩ b).setCell ⟨g, 2, none⟩ c).setCell ⟨g, 3, none⟩ d).setCell ⟨g, 4, none⟩ e).setCell ⟨g, 5, none⟩ f).setCell ⟨g, 6, none⟩ i
theorem isB_set7 {W : World} {g t : Nat} {x0 x1 x2 x3 x4 x5 x6 : Value} (h : IsB W g #[x0, x1, x2, x3, x4, x5, x6] t) (a b c d e f i : Value) :
    IsB (set7 W g a b c d e f i) g #[a, b, c, d, e, f, i] t := by
  have h0 : IsB _ g #[a, x1, x2, x3, x4, x5, x6] t := blk_put h 0 a rfl
  have h1 : IsB _ g #[a, b, x2, x3, x4, x5, x6] t := blk_put h0 1 b rfl
  have h2 : IsB _ g #[a, b, c, x3, x4, x5, x6] t := blk_put h1 2 c rfl
  have h3 : IsB _ g #[a, b, c, d, x4, x5, x6] t := blk_put h2 3 d rfl
  have h4 : IsB _ g #[a, b, c, d, e, x5, x6] t := blk_put h3 4 e rfl
  have h5 : IsB _ g #[a, b, c, d, e, f, x6] t := blk_put h4 5 f rfl
  exact blk_put h5 6 i rfl
theorem isB_far7 {W : World} {g k t : Nat} {cs : Array Value} (h : IsB W k cs t) (hne : k ≠ g) (a b c d e f i : Value) :
    IsB (set7 W g a b c d e f i) k cs t := by
  have h0 : IsB _ k cs t := blk_far (p := ⟨g, 0, none⟩) h hne a
  have h1 : IsB _ k cs t := blk_far (p := ⟨g, 1, none⟩) h0 hne b
  have h2 : IsB _ k cs t := blk_far (p := ⟨g, 2, none⟩) h1 hne c
  have h3 : IsB _ k cs t := blk_far (p := ⟨g, 3, none⟩) h2 hne d
  have h4 : IsB _ k cs t := blk_far (p := ⟨g, 4, none⟩) h3 hne e
  have h5 : IsB _ k cs t := blk_far (p := ⟨g, 5, none⟩) h4 hne f
  exact blk_far (p := ⟨g, 6, none⟩) h5 hne i
theorem below_set7 {w W : World} {g n : Nat} (h : Below n w W) (hg : n ≤ g) (a b c d e f i : Value) :
    Below n w (set7 W g a b c d e f i) :=
  ((((((h.setCell (p := ⟨g, 0, none⟩) hg a).setCell (p := ⟨g, 1, none⟩) hg b).setCell (p := ⟨g, 2, none⟩) hg c).setCell (p := ⟨g, 3, none⟩) hg d).setCell (p := ⟨g, 4, none⟩) hg e).setCell (p := ⟨g, 5, none⟩) hg f).setCell (p := ⟨g, 6, none⟩) hg i
def F34RT5 : Bool × List (List Nat × List Nat) := (true, [([], []), ([], []), ([1], [1]), ([], []), ([3], [3]), ([0, 0], [0]), ([2, 5, 0, 1, 2, 5], [2]), ([4, 6, 0, 1, 2, 3, 4, 5, 6], [4])])
def F34RB5 : List Nat := [0, 0, 2, 0, 8, 1, 39, 127]
theorem F34Rtab5 : rtab .any (opsOf Try.f34 5) = F34RT5 := by kernel_rfl
theorem F34Rbits5 : waitsOk F34RT5.2 F34RB5 = true := by kernel_rfl
theorem iface_nil (q p : Int) (w : World) : (binOp BinOp.eql 20 (.iface 70 (.agg #[.int .i64 q, .int .i64 p])) .nilIface).run Try.prog w = .ok (.bool false) w := by kernel_rfl
theorem iface_as (q p : Int) (w : World) : (Instr.typeAssert (.iface 70 (.agg #[.int .i64 q, .int .i64 p])) 20 70 true).run Try.prog w = .ok (.tuple #[.agg #[.int .i64 q, .int .i64 p], .bool true]) w := by kernel_rfl
theorem bodyS_of (fn : Func) (c₀ : Frame) (cs : List Frame) (m : FrameMode) (R : Ending → FrameMode → World → Prop) (G : Ending → World → Prop) (hG : ∀ e w, G e w → R e m w) :
    ∀ e a w, bodyPost Try.prog fn G e a w → bodyPostS Try.prog fn c₀ cs R e a ({ c₀ with mode := m } :: cs) w := by
  intro e a w h
  cases e with
  | normal => obtain ⟨hd, v, hr, hg⟩ := h; exact ⟨hd, m, rfl, v, hr, hG _ _ hg⟩
  | ret => obtain ⟨hd, v, hr, hg⟩ := h; exact ⟨hd, m, rfl, v, hr, hG _ _ hg⟩
  | panic c => obtain ⟨hd, hg⟩ := h; exact ⟨hd, m, rfl, hG _ _ hg⟩
  | outgrown => exact ⟨m, hG _ _ h⟩
  | exit _ => exact h.elim
  | goto _ => exact h.elim

set_option maxHeartbeats 4000000 in
set_option maxRecDepth 100000 in
theorem catch_stop (h : Nat) (q p : Int) (v0 v1 v2 v3 v4 v5 v6 u0 u1 : Value) (w : World) (hS : IsB w h #[v0, v1, v2, v3, v4, v5, v6] 25) (hP : IsB w (h + 1) #[u0] 3) (hE : IsB w (h + 2) #[u1] 42) :
    CallsD Try.prog 34 #[.pointer (some ⟨h, 0, none⟩), .pointer (some ⟨h + 1, 0, none⟩), .pointer (some ⟨h + 2, 0, none⟩)] (.panicking [entry q p false]) w fun e u' w' =>
      e = .returned (.tuple #[]) ∧ u' = .panicking [entry q p true] ∧ IsB w' h zeros7 25 ∧ IsB w' (h + 1) #[.int .i64 p] 3 ∧ IsB w' (h + 2) #[.int .i64 q] 42 ∧ Below h w w' := by
  refine callsD_of_wpS Try.func34 rfl fun c₀ cs hu => ?_
  apply wpS_seq
  apply wpS_region
  simp [wpOpsS, go_sem, recoverD, hu, Try.ntmps34, Exit.thenS]
  refine wpS_of_wp (Code.wp_mono (bodyS_of Try.f34 c₀ cs (.panicking [entry q p true]) _ (fun e w' => e = .returned (.tuple #[]) ∧ IsB w' h zeros7 25 ∧ IsB w' (h + 1) #[.int .i64 p] 3 ∧ IsB w' (h + 2) #[.int .i64 q] 42 ∧ Below h w w') (fun e w hh => ⟨hh.1, rfl, hh.2⟩)) ?_)
  clear hu
  have hnil := iface_nil q p
  have has := iface_as q p
  have HS := Aside0.mk hS
  have HP := Aside0.mk hP
  have HE := Aside0.mk hE
  clear hS hP hE
  simp only [List.size_toArray, List.length_cons, List.length_nil, Nat.reduceAdd, Nat.reduceSub, Array.replicate_succ, Array.replicate_zero, List.push_toArray, List.append_toArray, List.nil_append, List.cons_append, List.setIfInBounds_toArray, List.set_cons_zero, List.set_cons_succ]
  go_wp2_with fail
  obtain ⟨k, hk⟩ : ∃ k, k = w.heap.size := ⟨_, rfl⟩
  have HX := Aside0.mk (blk_new w (Obj.cells #[.int .i64 q, .int .i64 p] 70))
  have HS1 := Aside0.mk (blk_alloc HS.out (Obj.cells #[.int .i64 q, .int .i64 p] 70))
  have HP1 := Aside0.mk (blk_alloc HP.out (Obj.cells #[.int .i64 q, .int .i64 p] 70))
  have HE1 := Aside0.mk (blk_alloc HE.out (Obj.cells #[.int .i64 q, .int .i64 p] 70))
  have hlt := blk_lt HE.out
  have HB := Aside0.mk ((Below.refl h w).alloc (by omega) (Obj.cells #[.int .i64 q, .int .i64 p] 70))
  rw [← hk] at HX hlt
  rw [← hk]
  have HK := Aside0.mk hlt
  generalize w.alloc (Obj.cells #[.int .i64 q, .int .i64 p] 70) = w1 at HX HS1 HP1 HE1 HB ⊢
  clear hk hlt HS HP HE
  have s0 := blk_frozen HS1.out 0
  have s1 := blk_frozen HS1.out 1
  have s2 := blk_frozen HS1.out 2
  have s3 := blk_frozen HS1.out 3
  have s4 := blk_frozen HS1.out 4
  have s5 := blk_frozen HS1.out 5
  have s6 := blk_frozen HS1.out 6
  have c0 := (blk_cell HS1.out 0).trans rfl
  have c1 := (blk_cell HS1.out 1).trans rfl
  have c2 := (blk_cell HS1.out 2).trans rfl
  have c3 := (blk_cell HS1.out 3).trans rfl
  have c4 := (blk_cell HS1.out 4).trans rfl
  have c5 := (blk_cell HS1.out 5).trans rfl
  have c6 := (blk_cell HS1.out 6).trans rfl
  have hne1 : k ≠ h := by have := HK.out; omega
  have hne2 : h + 1 ≠ h := by omega
  have hne3 : h + 2 ≠ h := by omega
  have HX2 := Aside0.mk (blk_drew (isB_far7 HX.out hne1 (.int .i64 0) (.int .i64 0) (.int .i64 0) (.slice none 0 0) (.slice none 0 0) (.int .i64 0) (.int .i64 0)))
  have HS2 := Aside0.mk (blk_drew (isB_set7 HS1.out (.int .i64 0) (.int .i64 0) (.int .i64 0) (.slice none 0 0) (.slice none 0 0) (.int .i64 0) (.int .i64 0)))
  have HP2 := Aside0.mk (blk_drew (isB_far7 HP1.out hne2 (.int .i64 0) (.int .i64 0) (.int .i64 0) (.slice none 0 0) (.slice none 0 0) (.int .i64 0) (.int .i64 0)))
  have HE2 := Aside0.mk (blk_drew (isB_far7 HE1.out hne3 (.int .i64 0) (.int .i64 0) (.int .i64 0) (.slice none 0 0) (.slice none 0 0) (.int .i64 0) (.int .i64 0)))
  have HB2 := Aside0.mk (Below.drew (below_set7 HB.out (Nat.le_refl h) (.int .i64 0) (.int .i64 0) (.int .i64 0) (.slice none 0 0) (.slice none 0 0) (.int .i64 0) (.int .i64 0)))
  clear hne1 hne2 hne3
  refine start_ (n := 8) (S := fun w' => w'.cell? ⟨k, 0, none⟩ = some (.int .i64 q) ∧ w'.cell? ⟨k, 1, none⟩ = some (.int .i64 p)) (ds := []) #[false, false, false, false, false, false, false, false] (by kernel_rfl) rfl rfl ⟨(blk_cell (blk_drew HX.out) 0).trans rfl, (blk_cell (blk_drew HX.out) 1).trans rfl⟩ (fun hHeld => ?_)
  refine with_tabW F34Rtab5 F34Rbits5 (fun HT_ HW_ => ?_)
  refine pure_ (i := 0) (N := some 17) (v := ?_) (a' := ?_) #[true, false, false, false, false, false, false, false] rfl rfl (any_of HT_.out (by kernel_rfl)) (fun _ _ _ h => h) (Or.inl ⟨by rfl, ?_⟩) ?_ ?_
  rotate_left
  · intro w'
    go_simp
    with_reducible rfl
  rotate_left
  · simp only [Act.put, List.setIfInBounds_toArray, List.set_cons_zero, List.set_cons_succ, i64_w, i32_w]
    rfl
  refine pure_ (i := 1) (N := some 18) (v := ?_) (a' := ?_) #[true, true, false, false, false, false, false, false] rfl rfl (any_of HT_.out (by kernel_rfl)) (fun _ _ _ h => h) (Or.inl ⟨by rfl, ?_⟩) ?_ ?_
  rotate_left
  · intro w'
    go_simp
    with_reducible rfl
  rotate_left
  · simp only [Act.put, List.setIfInBounds_toArray, List.set_cons_zero, List.set_cons_succ, i64_w, i32_w]
    rfl
  refine pure_ (i := 3) (N := some 20) (v := ?_) (a' := ?_) #[true, true, false, true, false, false, false, false] rfl rfl (any_of HT_.out (by kernel_rfl)) (fun _ _ _ h => h) (Or.inl ⟨by rfl, ?_⟩) ?_ ?_
  rotate_left
  · intro w'
    go_simp
    with_reducible rfl
  rotate_left
  · simp only [Act.put, List.setIfInBounds_toArray, List.set_cons_zero, List.set_cons_succ, i64_w, i32_w]
    rfl
  refine take_ (i := 2) (N := some 19) (v := ?_) (a' := ?_) #[true, true, true, true, false, false, false, false] rfl rfl (take_ofW HT_.out HW_.out (by kernel_rfl)) (fun _ _ _ h => h) (Or.inl ⟨by rfl, ?_⟩) hHeld ?_ ?_
  rotate_left
  · rintro w' ⟨s0, s1⟩
    go_simp
    with_reducible rfl
  rotate_left
  · simp only [Act.put, List.setIfInBounds_toArray, List.set_cons_zero, List.set_cons_succ, i64_w, i32_w]
    rfl
  refine take_ (i := 4) (N := some 21) (v := ?_) (a' := ?_) #[true, true, true, true, true, false, false, false] rfl rfl (take_ofW HT_.out HW_.out (by kernel_rfl)) (fun _ _ _ h => h) (Or.inl ⟨by rfl, ?_⟩) hHeld ?_ ?_
  rotate_left
  · rintro w' ⟨s0, s1⟩
    go_simp
    with_reducible rfl
  rotate_left
  · simp only [Act.put, List.setIfInBounds_toArray, List.set_cons_zero, List.set_cons_succ, i64_w, i32_w]
    rfl
  refine one_ (i := 5) (N := none) #[true, true, true, true, true, true, false, false] rfl rfl (one_of HT_.out (by kernel_rfl)) (by decide) (fun K hK => ?_)
  refine skip_ (w1 := ?_) (by rfl) rfl ?_ ?_
  rotate_left
  · go_simp
    rfl
  show K _ (set7 w1 h (.int .i64 0) (.int .i64 0) (.int .i64 0) (.slice none 0 0) (.slice none 0 0) (.int .i64 0) (.int .i64 0)).drew
  clear s0 s1 s2 s3 s4 s5 s6 c0 c1 c2 c3 c4 c5 c6 HX HS1 HP1 HE1 HB
  generalize (set7 w1 h (.int .i64 0) (.int .i64 0) (.int .i64 0) (.slice none 0 0) (.slice none 0 0) (.int .i64 0) (.int .i64 0)).drew = w2 at HX2 HS2 HP2 HE2 HB2 ⊢
  have p0 := blk_frozen HP2.out 0
  have pc := (blk_cell HP2.out 0).trans rfl
  have HX3 := Aside0.mk (blk_far (p := ⟨h + 1, 0, none⟩) HX2.out (by have := HK.out; show k ≠ h + 1; omega) (.int .i64 p))
  have HS3 := Aside0.mk (blk_far (p := ⟨h + 1, 0, none⟩) HS2.out (by show h ≠ h + 1; omega) (.int .i64 p))
  have HE3 := Aside0.mk (blk_far (p := ⟨h + 1, 0, none⟩) HE2.out (by show h + 2 ≠ h + 1; omega) (.int .i64 p))
  have HP3 := Aside0.mk (show IsB _ (h + 1) #[.int .i64 p] 3 from blk_put HP2.out 0 (.int .i64 p) rfl)
  have HB3 := Aside0.mk (HB2.out.setCell (p := ⟨h + 1, 0, none⟩) (show h ≤ h + 1 by omega) (.int .i64 p))
  refine hK.out _ _ ⟨(blk_cell HX2.out 0).trans rfl, (blk_cell HX2.out 1).trans rfl⟩ (fun hHeld => ?_)
  clear hK K
  refine one_ (i := 6) (N := none) #[true, true, true, true, true, true, true, false] rfl rfl (one_of HT_.out (by kernel_rfl)) (by decide) (fun K hK => ?_)
  refine skip_ (w1 := ?_) (by rfl) rfl ?_ ?_
  rotate_left
  · go_simp
    rfl
  show K _ (w2.setCell ⟨h + 1, 0, none⟩ (.int .i64 p))
  clear p0 pc HX2 HS2 HP2 HE2 HB2
  generalize w2.setCell ⟨h + 1, 0, none⟩ (.int .i64 p) = w3 at HX3 HS3 HP3 HE3 HB3 ⊢
  have p0 := blk_frozen HE3.out 0
  have pc := (blk_cell HE3.out 0).trans rfl
  have HX4 := Aside0.mk (blk_far (p := ⟨h + 2, 0, none⟩) HX3.out (by have := HK.out; show k ≠ h + 2; omega) (.int .i64 q))
  have HS4 := Aside0.mk (blk_far (p := ⟨h + 2, 0, none⟩) HS3.out (by show h ≠ h + 2; omega) (.int .i64 q))
  have HP4 := Aside0.mk (blk_far (p := ⟨h + 2, 0, none⟩) HP3.out (by show h + 1 ≠ h + 2; omega) (.int .i64 q))
  have HE4 := Aside0.mk (show IsB _ (h + 2) #[.int .i64 q] 42 from blk_put HE3.out 0 (.int .i64 q) rfl)
  have HB4 := Aside0.mk (HB3.out.setCell (p := ⟨h + 2, 0, none⟩) (show h ≤ h + 2 by omega) (.int .i64 q))
  refine hK.out _ _ ⟨(blk_cell HX3.out 0).trans rfl, (blk_cell HX3.out 1).trans rfl⟩ (fun hHeld => ?_)
  clear hK K
  refine one_ (i := 7) (N := none) #[true, true, true, true, true, true, true, true] rfl rfl (one_of HT_.out (by kernel_rfl)) (by decide) (fun K hK => ?_)
  refine skip_ (w1 := ?_) (by rfl) rfl ?_ ?_
  rotate_left
  · go_simp
    rfl
  refine hK.out _ _ ⟨(blk_cell HX4.out 0).trans rfl, (blk_cell HX4.out 1).trans rfl⟩ (fun hHeld => ?_)
  clear hK K
  refine done_ (done_of HT_.out (by kernel_rfl)) ?_
  refine bodyPost_end (v := .tuple #[]) (results_none rfl _ _ _) rfl ?_
  exact ⟨rfl, HS4.out, HP4.out, HE4.out, HB4.out⟩


theorem catch_idle (a b c : Value) (w : World) : CallsD Try.prog 34 #[a, b, c] .returning w fun e u' w' => e = .returned (.tuple #[]) ∧ u' = .returning ∧ w' = w := by
  refine callsD_of_wpS Try.func34 rfl fun c₀ cs hu => ?_
  apply wpS_seq
  apply wpS_region
  simp [wpOpsS, go_sem, recoverD, hu, Try.ntmps34, Exit.thenS]
  have hc : c₀ :: cs = { c₀ with mode := .returning } :: cs := by cases c₀; simp_all
  rw [hc]
  refine wpS_of_wp (Code.wp_mono (bodyS_of Try.f34 c₀ cs .returning _ (fun e w' => e = .returned (.tuple #[]) ∧ w' = w) (fun e w hh => ⟨hh.1, rfl, hh.2⟩)) ?_)
  clear hu hc
  simp only [List.size_toArray, List.length_cons, List.length_nil, Nat.reduceAdd, Nat.reduceSub, Array.replicate_succ, Array.replicate_zero, List.push_toArray, List.append_toArray, List.nil_append, List.cons_append, List.setIfInBounds_toArray, List.set_cons_zero, List.set_cons_succ]
  have hnil : ∀ w : World, (binOp BinOp.eql 20 .nilIface .nilIface).run Try.prog w = .ok (.bool true) w := fun _ => by kernel_rfl
  go_wp2
  refine bodyPost_ret (v := .tuple #[]) (results_none rfl _ _ _) rfl ?_
  exact ⟨rfl, rfl⟩

/-- the deferred closure over the named results -/
abbrev dfr (h : Nat) : Deferred := { target := .fn (.func 34) #[.pointer (some ⟨h, 0, none⟩), .pointer (some ⟨h + 1, 0, none⟩), .pointer (some ⟨h + 2, 0, none⟩)], args := #[] }
structure Named (tmps : Array Value) (h : Nat) : Prop where
  h2 : tmps[2]? = some (.pointer (some ⟨h, 0, none⟩))
  h3 : tmps[3]? = some (.pointer (some ⟨h + 1, 0, none⟩))
  h4 : tmps[4]? = some (.pointer (some ⟨h + 2, 0, none⟩))

theorem read_named {tmps : Array Value} {h : Nat} (hn : Named tmps h) {W : World} {v0 v1 v2 v3 v4 v5 v6 u0 u1 : Value} (hS : IsB W h #[v0, v1, v2, v3, v4, v5, v6] 25) (hP : IsB W (h + 1) #[u0] 3) (hE : IsB W (h + 2) #[u1] 42) :
    (results Try.f18 tmps).run Try.prog W = .ok (.tuple #[.agg #[v0, v1, v2, v3, v4, v5, v6], u0, u1]) W := by
  have c0 := (blk_cell hS 0).trans rfl
  have c1 := (blk_cell hS 1).trans rfl
  have c2 := (blk_cell hS 2).trans rfl
  have c3 := (blk_cell hS 3).trans rfl
  have c4 := (blk_cell hS 4).trans rfl
  have c5 := (blk_cell hS 5).trans rfl
  have c6 := (blk_cell hS 6).trans rfl
  have p0 := (blk_cell hP 0).trans rfl
  have e0 := (blk_cell hE 0).trans rfl
  simp [results, Try.results18, go_sem, hn.h2, hn.h3, hn.h4, c0, c1, c2, c3, c4, c5, c6, p0, e0]

theorem read_stop {tmps : Array Value} {h : Nat} (hn : Named tmps h) {q p : Int} {w W : World} {v0 v1 v2 v3 v4 v5 v6 u0 u1 : Value} (hS : IsB W h #[v0, v1, v2, v3, v4, v5, v6] 25) (hP : IsB W (h + 1) #[u0] 3) (hE : IsB W (h + 2) #[u1] 42) (hB : Below h w W)
    {R : Ending → World → Prop} (hR : ∀ W', Below h w W' → R (.returned (.tuple #[.agg zeros7, .int .i64 p, .int .i64 q])) W') :
    Leaves Try.prog Try.f18 tmps R [dfr h] (.panicking [entry q p false]) W := by
  refine leaves_cons (f := 34) (args := #[.pointer (some ⟨h, 0, none⟩), .pointer (some ⟨h + 1, 0, none⟩), .pointer (some ⟨h + 2, 0, none⟩)]) (by simp) (by simp [go_sem]) ?_
  refine (catch_stop h q p v0 v1 v2 v3 v4 v5 v6 u0 u1 W hS hP hE).mono ?_
  rintro e u' w' ⟨rfl, rfl, h0, h1, h2, hb⟩
  exact ⟨_, read_named hn h0 h1 h2, hR w' (hB.trans hb)⟩

theorem read_done {tmps : Array Value} {h : Nat} (hn : Named tmps h) {W : World} {v0 v1 v2 v3 v4 v5 v6 u0 u1 : Value} (hS : IsB W h #[v0, v1, v2, v3, v4, v5, v6] 25) (hP : IsB W (h + 1) #[u0] 3) (hE : IsB W (h + 2) #[u1] 42)
    {R : Ending → World → Prop} (hR : R (.returned (.tuple #[.agg #[v0, v1, v2, v3, v4, v5, v6], u0, u1])) W) :
    Leaves Try.prog Try.f18 tmps R [dfr h] .returning W := by
  refine leaves_cons (f := 34) (args := #[.pointer (some ⟨h, 0, none⟩), .pointer (some ⟨h + 1, 0, none⟩), .pointer (some ⟨h + 2, 0, none⟩)]) (by simp) (by simp [go_sem]) ?_
  refine (catch_idle _ _ _ W).mono ?_
  rintro e u' w' ⟨rfl, rfl, rfl⟩
  exact ⟨_, read_named hn hS hP hE, hR⟩

/-- what a slot other than the named results' holds is nothing to the way out -/
theorem results_put (tmps : Array Value) (N : Nat) (v : Value) (hN : N ≠ 2 ∧ N ≠ 3 ∧ N ≠ 4) (W : World) :
    (results Try.f18 (tmps.setIfInBounds N v)).run Try.prog W = (results Try.f18 tmps).run Try.prog W := by
  simp [results, Try.results18, Array.getElem?_setIfInBounds, hN]
theorem leaves_put {N : Nat} {v : Value} {R : Ending → World → Prop} (hN : N ≠ 2 ∧ N ≠ 3 ∧ N ≠ 4) : ∀ {ds : List Deferred} {u : FrameMode} {tmps : Array Value} {W : World},
    Leaves Try.prog Try.f18 (tmps.setIfInBounds N v) R ds u W → Leaves Try.prog Try.f18 tmps R ds u W
  | [], u, tmps, W, h => by
    cases u with
    | returning => obtain ⟨x, hx, hr⟩ := h; exact ⟨x, (results_put tmps N v hN W) ▸ hx, hr⟩
    | panicking c => exact h
    | run => exact h.elim
  | d :: ds, u, tmps, W, h => by
    obtain ⟨h1, fv, cap, f, args, h2, h3, h4⟩ := h
    refine ⟨h1, fv, cap, f, args, h2, h3, h4.mono ?_⟩
    intro e u' w' hh
    cases e with
    | returned _ => exact leaves_put hN hh
    | panicked _ => exact leaves_put hN hh
    | outgrown => exact hh
theorem bodyD_put {N : Nat} {v : Value} {R : Ending → World → Prop} (hN : N ≠ 2 ∧ N ≠ 3 ∧ N ≠ 4) (c : List PanicEntry) (a : Act) (w : World)
    (h : bodyPostD Try.prog Try.f18 R (.panic c) (a.put (some N) v) w) : bodyPostD Try.prog Try.f18 R (.panic c) a w := leaves_put hN h
end Go.Proofs.Ytmiljlbbacbbpaa
