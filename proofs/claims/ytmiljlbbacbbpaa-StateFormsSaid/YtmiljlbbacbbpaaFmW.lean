/- StateForms: the law's walk. -/
import Derived.Test.YtmiljlbbacbbpaaLentS
import Derived.Test.YtmiljlbbacbbpaaAlv
import Derived.Test.YtmiljlbbacbbpaaCutW
namespace Go.Proofs.Ytmiljlbbacbbpaa
open Go.RowKit PBase
open Go.Proofs.YtmiljlbbacbbpaaW.PrintWords Go.Proofs.YtmiljlbbacbbpaaW.PrintLast Go.Proofs.YtmiljlbbacbbpaaW.PrintMore
set_option linter.unusedVariables false
set_option linter.unusedSimpArgs false
theorem lent_InW {W : World} {b M0 : Nat} {ok ok2 : Nat → Prop} {A5 A6 : Option Addr} {c5 c6 : Nat} {ps : List S56} {ss : List (List S56)} (h5 : ps.length + 1 ≤ c5) (hS : Kd.S kOM 56 W b ok (.slice A5 (ps.length + 1) c5) (ps.map .inl ++ [.inr (markM (-77))])) (h6 : ss.length + 1 ≤ c6) (hR : kOL.R 22 W M0 ok2 (.slice A6 (ss.length + 1) c6) (ss.map .inl ++ [.inr [markM (-78)]])) : InW W A5 c5 ps A6 c6 ss := by
  refine ⟨by omega, ?_, by omega, ?_⟩
  · obtain ⟨A, c, he, _, hC⟩ := Kd.S_reads hS
    injection he with h1 h2 h3
    subst h1
    have hl : (ps.map (Sum.inl (β := S56)) ++ [Sum.inr (markM (-77))]).length = (ps.map (Sum.inl (β := S56))).length + 1 := by rw [List.length_append]; rfl
    rw [hl] at hC
    have hC' := C_cut hC
    rw [List.length_map] at hC'
    exact C_inl (a := kLM) (b := k56) (d := k56) rfl (fun x cs => kLM_k56 x cs) hC'
  · obtain ⟨A, c, he, _, hC⟩ := Kd.R_reads hR
    injection he with h1 h2 h3
    subst h1
    have hl : (ss.map (Sum.inl (β := List S56)) ++ [Sum.inr [markM (-78)]]).length = (ss.map (Sum.inl (β := List S56))).length + 1 := by rw [List.length_append]; rfl
    rw [hl] at hC
    have hC' := C_cut hC
    rw [List.length_map] at hC'
    exact C_inl (a := kLL) (b := Kd.slice 56 k56) (d := Kd.slice 56 k56) rfl (fun x cs => kLL_slice x cs) hC'
/-- a row of matrices whose cells are told by a word alone -/
def cellK (P : S56 → List Value → Prop) (h4 : ∀ x cs, P x cs → cs.length = 4) (h1 : ∀ x cs, P x cs → ∀ u ∈ cs, u.oneCell' = true) : Kd S56 where
  sz := 4
  E := []
  K := fun _ x cs => P x cs
  M := fun _ _ _ x cs => P x cs
  K_len := fun h => h4 _ _ h
  K_one := fun h => h1 _ _ h
  K_below := fun _ h => h
  K_of_M := fun h => h
  M_mono := fun _ h => h
  M_bound := fun h => h
  M_move := fun _ h => h
  M_lower := fun _ h => h
abbrev oneM : S56 := ⟨1, 1, 64, [0]⟩
def manyP (go : Nat) (x : S56) (cs : List Value) : Prop := (x = markM 0 ∧ cs = [.int .i64 0, .int .i64 0, .int .i64 0, .slice none 0 0]) ∨ (x = oneM ∧ cs = [.int .i64 1, .int .i64 1, .int .i64 64, .slice (some ⟨go, 0, none⟩) 1 1])
theorem many_one {go : Nat} {x : S56} {cs : List Value} (h : manyP go x cs) : ∀ u ∈ cs, u.oneCell' = true := by
  rcases h with ⟨_, rfl⟩ | ⟨_, rfl⟩ <;> intro u hu <;> (rcases List.mem_cons.1 hu with rfl | hu) <;> first | rfl | skip
  all_goals (rcases List.mem_cons.1 hu with rfl | hu) <;> first | rfl | skip
  all_goals (rcases List.mem_cons.1 hu with rfl | hu) <;> first | rfl | skip
  all_goals (rw [List.mem_singleton.1 hu]; rfl)
def kMany (go : Nat) : Kd S56 := cellK (manyP go) (by rintro x cs (⟨_, rfl⟩ | ⟨_, rfl⟩) <;> rfl) (fun x cs h => many_one h)
theorem many_k56 {W : World} {go : Nat} (hI : IsB W go #[.int .i64 0] 3) {A : Option Addr} {n : Nat} {L : List S56} (hC : (kMany go).C W A n L) : Kd.C k56 W A n L :=
  ReadsRow.imp_ hC (Below.refl _ _) (by
    rintro x cs (⟨rfl, rfl⟩ | ⟨rfl, rfl⟩)
    · exact k56_mk W (markM 0) (Nat.le_refl _) (Kd.C_nil _ _)
    · refine k56_mk W oneM (Nat.le_refl _) ?_
      obtain ⟨A', c', he, _, h⟩ := Kd.R_reads (R_ints (base := 0) (ok := fun _ => True) (xs := [0]) hI (Nat.zero_le _) trivial (by simp [maxLen]))
      injection he with h1 h2 h3
      subst h1
      exact h)
theorem c43 {s0 s1 s2 : Int} {ps : List S56} {ss : List (List S56)} (h : listsC 0 (ps :: ss) 52 = none) : checkV s0 s1 s2 ps ss = 43 := by
  unfold checkV
  rw [h]
  split
  · rfl
  · split <;> rfl
theorem R_form65 {go base : Nat} {ok : Nat → Prop} {W : World} {v : Value} (h : (kMany go).R 56 W base ok v (List.replicate 65 (markM 0))) : ∃ g c, v = .slice (some ⟨g, 0, none⟩) 65 c ∧ base ≤ g := by
  obtain ⟨A, c, rfl, hl, _⟩ := Kd.R_reads h
  rw [List.length_replicate] at h hl ⊢
  obtain ⟨inner, ho⟩ := Kd.R_own h
  rcases ho.2 with ⟨_, h0⟩ | ⟨g, cap, cur, hv, hb, _⟩
  · rw [List.length_replicate] at h0; omega
  · injection hv with ha _ _
    exact ⟨g, c, by rw [ha], hb⟩
structure FS (wL : World) (h : Nat) (s0 s1 s2 : Int) (A5 : Option Addr) (n5 c5 : Nat) (A6 : Option Addr) (n6 c6 : Nat) (lo ra : Int) (W : World) : Prop where
  I7 : IsB W h (stC s0 s1 s2 A5 n5 c5 A6 n6 c6 lo ra) 25
  IO : IsB W (h + 1) #[.int .i64 0] 3
  I8 : IsB W (h + 2) #[.int .i64 1, .int .i64 1, .int .i64 64, .slice (some ⟨h + 1, 0, none⟩) 1 1] 56
  HB : Below h wL W
theorem FS.below {wL : World} {h : Nat} {s0 s1 s2 : Int} {A5 : Option Addr} {n5 c5 : Nat} {A6 : Option Addr} {n6 c6 : Nat} {lo ra : Int} {W W1 : World} {B : Nat} (f : FS wL h s0 s1 s2 A5 n5 c5 A6 n6 c6 lo ra W) (hb : Below B W W1) (hB : h + 3 ≤ B) : FS wL h s0 s1 s2 A5 n5 c5 A6 n6 c6 lo ra W1 :=
  ⟨(hb.block h (by omega)).trans f.I7, (hb.block (h + 1) (by omega)).trans f.IO, (hb.block (h + 2) (by omega)).trans f.I8, f.HB.trans (hb.mono (by omega))⟩
theorem FS.room {wL : World} {h : Nat} {s0 s1 s2 : Int} {A5 : Option Addr} {n5 c5 : Nat} {A6 : Option Addr} {n6 c6 : Nat} {lo ra : Int} {W : World} (f : FS wL h s0 s1 s2 A5 n5 c5 A6 n6 c6 lo ra W) : h + 3 ≤ W.heap.size := blk_lt f.I8
def wideM : S56 := ⟨64, 65, 64, List.replicate 4160 0⟩
theorem wide_bad : fitsV wideM = false := by
  unfold fitsV
  have h : decide (wideM.f1 ≤ 4096 / wideM.f0) = false := by decide
  rw [h]
  simp
/-- blocks at the switch: the state, one's bits, the bad matrix -/
structure FQ (wL W : World) (gx q : Nat) (cX cQ : Array Value) : Prop where
  IX : IsB W gx cX 25
  IO : IsB W (gx + 1) #[.int .i64 0] 3
  IQ : IsB W q cQ 56
  HB : Below gx wL W
  HQ : gx + 3 ≤ q
section
variable {wL W : World} {gx q : Nat} {cX cQ : Array Value}
theorem FQ.putX (f : FQ wL W gx q cX cQ) (j : Nat) (v : Value) : FQ wL (W.setCell ⟨gx, j, none⟩ v) gx q (cX.setIfInBounds j v) cQ :=
  ⟨blk_put f.IX j v rfl, blk_far f.IO (by show gx + 1 ≠ gx; omega) v, blk_far f.IQ (by have := f.HQ; show q ≠ gx; omega) v, f.HB.setCell (p := ⟨gx, j, none⟩) (Nat.le_refl _) v, f.HQ⟩
theorem FQ.putQ (f : FQ wL W gx q cX cQ) (j : Nat) (v : Value) : FQ wL (W.setCell ⟨q, j, none⟩ v) gx q cX (cQ.setIfInBounds j v) :=
  ⟨blk_far f.IX (by have := f.HQ; show gx ≠ q; omega) v, blk_far f.IO (by have := f.HQ; show gx + 1 ≠ q; omega) v, blk_put f.IQ j v rfl, f.HB.setCell (p := ⟨q, j, none⟩) (by have := f.HQ; show gx ≤ q; omega) v, f.HQ⟩
theorem FQ.alloc (f : FQ wL W gx q cX cQ) (o : Obj) : FQ wL (W.alloc o) gx q cX cQ := ⟨blk_alloc f.IX o, blk_alloc f.IO o, blk_alloc f.IQ o, f.HB.alloc (Nat.le_of_lt (blk_lt f.IX)) o, f.HQ⟩
theorem FQ.below (f : FQ wL W gx q cX cQ) {W1 : World} (hb : Below W.heap.size W W1) : FQ wL W1 gx q cX cQ := ⟨blk_below f.IX hb, blk_below f.IO hb, blk_below f.IQ hb, f.HB.trans (hb.mono (Nat.le_of_lt (blk_lt f.IX))), f.HQ⟩
theorem FQ.newX (f : FQ wL W gx q cX cQ) {nb j t : Nat} {cs : Array Value} {v : Value} (hN : IsB W nb cs t) (h : gx < nb) : IsB (W.setCell ⟨gx, j, none⟩ v) nb cs t := blk_far hN (by show nb ≠ gx; omega) v
theorem FQ.newQ (f : FQ wL W gx q cX cQ) {nb j t : Nat} {cs : Array Value} {v : Value} (hN : IsB W nb cs t) (h : q < nb) : IsB (W.setCell ⟨q, j, none⟩ v) nb cs t := blk_far hN (by show nb ≠ q; omega) v
end
theorem C_ints {W : World} {g : Nat} {xs : List Int} (hI : IsB W g (xs.map (Value.int .i64)).toArray 3) (hm : xs.length ≤ maxLen) : (Kd.int .i64).C W (some ⟨g, 0, none⟩) xs.length xs := by
  obtain ⟨A', c', he, _, h⟩ := Kd.R_reads (R_ints (base := 0) (ok := fun _ => True) hI (Nat.zero_le _) trivial hm)
  injection he with h1 h2 h3
  subst h1
  exact h
theorem C_m1 {W : World} {nb : Nat} {a b c d : Value} {m : S56} (hI : IsB W nb #[a, b, c, d] 56) (hK : k56.K W m [a, b, c, d]) : Kd.C k56 W (some ⟨nb, 0, none⟩) 1 [m] := reads_1 hI rfl hK
theorem C_m2 {W : World} {nb : Nat} {a b c d e f g h : Value} {m n : S56} (hI : IsB W nb #[a, b, c, d, e, f, g, h] 56) (hK : k56.K W m [a, b, c, d]) (hL : k56.K W n [e, f, g, h]) : Kd.C k56 W (some ⟨nb, 0, none⟩) 2 [m, n] := by
  refine ⟨rfl, by decide, fun _ => ⟨_, rfl, fun j p hj => ?_⟩⟩
  match j, hj with
  | 0, hj =>
    obtain rfl : m = p := by simpa using hj
    refine ⟨[a, b, c, d], rfl, hK, fun i u hu => ?_⟩
    rw [show (⟨nb, 0, none⟩ : Addr).add (0 * k56.sz + i) = ⟨nb, i, none⟩ by unfold Addr.add; split <;> simp_all]
    refine (blk_cell hI i).trans ?_
    rcases i with _ | _ | _ | _ | i <;> simp at hu ⊢ <;> exact hu
  | 1, hj =>
    obtain rfl : n = p := by simpa using hj
    refine ⟨[e, f, g, h], rfl, hL, fun i u hu => ?_⟩
    rw [show (⟨nb, 0, none⟩ : Addr).add (1 * k56.sz + i) = ⟨nb, 4 + i, none⟩ by show (⟨nb, 0, none⟩ : Addr).add (1 * 4 + i) = _; unfold Addr.add; rw [if_neg (by omega)]; simp]
    refine (blk_cell hI (4 + i)).trans ?_
    rcases i with _ | _ | _ | _ | i <;> simp at hu ⊢ <;> exact hu
  | j + 2, hj => simp at hj
theorem C_s1 {W : World} {nb : Nat} {A : Option Addr} {c : Nat} {s : List S56} (hI : IsB W nb #[.slice A s.length c] 22) (hl : s.length ≤ c) (hC : Kd.C k56 W A s.length s) : Kd.C (Kd.slice 56 k56) W (some ⟨nb, 0, none⟩) 1 [s] := reads_1 hI rfl ⟨A, c, rfl, hl, hC⟩
theorem chk_step {s0 s1 s2 : Int} {ps : List S56} {ss : List (List S56)} (h : ¬ place s0 ∨ ¬ place s1 ∨ ¬ place s2) : checkV s0 s1 s2 ps ss = 43 := by
  unfold checkV
  rw [if_pos]
  unfold checkL
  simp only [List.all_cons, List.all_nil, Bool.and_true]
  rcases h with h | h | h
  · rw [decide_eq_false h]; rfl
  · rw [decide_eq_false h]; simp
  · rw [decide_eq_false h]; simp
theorem chk_long {s0 s1 s2 : Int} {ps : List S56} {ss : List (List S56)} (h : 64 < ps.length ∨ 64 < ss.length) : checkV s0 s1 s2 ps ss = 43 := by
  unfold checkV
  rw [if_pos h]
  split <;> rfl
theorem matsC_bad {m : S56} (hf : fitsV m = false) : ∀ (ps : List S56) (t : Int), matsC (ps ++ [m]) t = none
  | [], t => by
    show matsC [m] t = none
    unfold matsC
    rw [if_neg (by rw [hf]; decide)]
  | p :: ps, t => by
    show matsC (p :: (ps ++ [m])) t = none
    unfold matsC
    split
    · exact matsC_bad hf ps _
    · rfl
theorem chk_bad {s0 s1 s2 : Int} {ps : List S56} {ss : List (List S56)} {m : S56} (hf : fitsV m = false) : checkV s0 s1 s2 (ps ++ [m]) ss = 43 := by
  refine c43 ?_
  unfold listsC
  rw [if_neg (by omega), matsC_bad hf]
  rfl
theorem chk_slot {s0 s1 s2 : Int} {qs ps : List S56} {m : S56} (hf : fitsV m = false) : checkV s0 s1 s2 qs [ps ++ [m]] = 43 := by
  refine c43 ?_
  unfold listsC
  rw [if_neg (by omega)]
  cases matsC qs (if 0 < 0 then 52 + 1 else 52) with
  | none => rfl
  | some v =>
    rw [Option.bind_some]
    unfold listsC
    rw [matsC_bad hf]
    split <;> rfl
theorem chk_five {s0 s1 s2 : Int} {qs s : List S56} (h : 4 < s.length) : checkV s0 s1 s2 qs [s] = 43 := by
  refine c43 ?_
  unfold listsC
  rw [if_neg (by omega)]
  cases matsC qs (if 0 < 0 then 52 + 1 else 52) with
  | none => rfl
  | some v =>
    rw [Option.bind_some]
    unfold listsC
    rw [if_pos ⟨by decide, h⟩]
theorem C_take5 {W : World} {A : Option Addr} {L : List S56} (hC : Kd.C k56 W A 65 L) (hL : L.length = 65) : Kd.C k56 W A (L.take 5).length (L.take 5) := Kd.C_take (hL ▸ hC) (by omega)
set_option maxHeartbeats 8000000 in
set_option maxRecDepth 100000 in
theorem forms_walk (s0 s1 s2 : Int) (A3 : Option Addr) (c3 : Nat) (ps : List S56) (A4 : Option Addr) (c4 : Nat) (ss : List (List S56)) (lo ra what at_ : Int) (w : World) (hI : InW w A3 c3 ps A4 c4 ss) (k : Nat) (n : Int) (m : Nat)
    (hbk : pupillaw23_bulk.f k s0 s1 s2 ps ss lo ra = some n) (hwh : checkV s0 s1 s2 ps ss = 0 → Whole s0 s1 s2 ps ss) (hm : pupillaw23_within.f what 14 = some (m : Int)) (hm14 : m < 14) :
    Calls Try.prog 9 #[.agg (stC s0 s1 s2 A3 ps.length c3 A4 ss.length c4 lo ra), .int .i64 what, .int .i64 at_] w fun e w' => e = .returned (.bool true) ∧ Below w.heap.size w w' := by
  have HI := Aside0.mk hI
  have HBK := Aside0.mk hbk
  have HWH := Aside0.mk hwh
  have HM := Aside0.mk hm
  have HM14 := Aside0.mk hm14
  clear hI hbk hwh hm hm14
  go_enter Try.func9, Try.ntmps9
  go_wp2_with fail
  have HX := Aside0.mk (show IsB (w.alloc (.cells (stC s0 s1 s2 A3 ps.length c3 A4 ss.length c4 lo ra) 25)) w.heap.size (stC s0 s1 s2 A3 ps.length c3 A4 ss.length c4 lo ra) 25 from blk_new w _)
  have HB := Aside0.mk ((Below.refl w.heap.size w).alloc (Nat.le_refl _) (.cells (stC s0 s1 s2 A3 ps.length c3 A4 ss.length c4 lo ra) 25))
  have HI1 := Aside0.mk (HI.out.below HB.out)
  obtain ⟨g, hg⟩ : ∃ g, g = w.heap.size := ⟨_, rfl⟩
  rw [← hg] at HX ⊢
  clear HI hg
  generalize w.alloc (.cells (stC s0 s1 s2 A3 ps.length c3 A4 ss.length c4 lo ra) 25) = w1 at HX HB HI1 ⊢
  refine (pupillaw23_bulk.calls k s0 s1 s2 A3 c3 ps A4 c4 ss lo ra n w1 HI1.out.hp HI1.out.lp HI1.out.hs HI1.out.ls HBK.out).mono ?_
  rintro _ w2 ⟨rfl, hb2⟩
  have HX2 := Aside0.mk (blk_below HX.out hb2)
  have HB2 := Aside0.mk (below_step HB.out hb2)
  have HI2 := Aside0.mk (HI1.out.below hb2)
  clear hb2 HX HB HI1 HBK
  by_cases hn : n > 40000
  · have d1 : decide (n > 40000) = true := decide_eq_true hn
    clear hn HM HWH
    go_wp2_with fail
    refine (alive_calls _).mono ?_
    rintro _ w3 ⟨rfl, hb3⟩
    have HB3 := Aside0.mk (below_step HB2.out hb3)
    clear hb3
    go_wp2
    go_ret
    exact ⟨rfl, HB3.out⟩
  have d1 : decide (n > 40000) = false := decide_eq_false hn
  clear hn
  go_wp2_with fail
  refine (alive_calls _).mono ?_
  rintro _ w3 ⟨rfl, hb3⟩
  have HX3 := Aside0.mk (blk_below HX2.out hb3)
  have HB3 := Aside0.mk (below_step HB2.out hb3)
  have HI3 := Aside0.mk (HI2.out.below hb3)
  clear hb3 HX2 HB2 HI2
  have x0 := (blk_cell HX3.out 0).trans rfl
  have x1 := (blk_cell HX3.out 1).trans rfl
  have x2 := (blk_cell HX3.out 2).trans rfl
  have x3 := (blk_cell HX3.out 3).trans rfl
  have x4 := (blk_cell HX3.out 4).trans rfl
  have x5 := (blk_cell HX3.out 5).trans rfl
  have x6 := (blk_cell HX3.out 6).trans rfl
  go_wp2_with fail
  refine (check_any s0 s1 s2 A3 A4 c3 c4 ps ss lo ra w3 HI3.out.hp HI3.out.lp HI3.out.hs HI3.out.ls).mono ?_
  rintro _ w4 ⟨rfl, hb4⟩
  have HX4 := Aside0.mk (blk_below HX3.out hb4)
  have HB4 := Aside0.mk (below_step HB3.out hb4)
  have HI4 := Aside0.mk (HI3.out.below hb4)
  clear hb4 HX3 HB3 HI3 x0 x1 x2 x3 x4 x5 x6
  obtain ⟨e, he⟩ : ∃ e, e = checkV s0 s1 s2 ps ss := ⟨_, rfl⟩
  rw [← he] at HWH ⊢
  clear he
  by_cases hz : e = 0
  · have HWL := Aside0.mk (HWH.out hz)
    subst hz
    clear HWH
    have x0 := (blk_cell HX4.out 0).trans rfl
    have x1 := (blk_cell HX4.out 1).trans rfl
    have x2 := (blk_cell HX4.out 2).trans rfl
    have x3 := (blk_cell HX4.out 3).trans rfl
    have x4 := (blk_cell HX4.out 4).trans rfl
    have x5 := (blk_cell HX4.out 5).trans rfl
    have x6 := (blk_cell HX4.out 6).trans rfl
    go_wp2_with fail
    have hk4 : ∀ m : S56, fitsV m = true → m.f3.length ≤ 100000 := fun m hm => by
      have := (fits_size hm).2
      omega
    refine (lent_calls s0 s1 s2 A3 c3 ps A4 c4 ss lo ra w4 HI4.out (by have := HWL.out.lp; omega) (fun m hm => hk4 m (HWL.out.fp m hm)) (by have := HWL.out.ls; omega) (fun s hs => ⟨by have := (HWL.out.fs s hs).1; omega, fun m hm => hk4 m ((HWL.out.fs s hs).2 m hm)⟩)).mono ?_
    rintro _ wL ⟨A5, A6, c5, c6, M0, rfl, h5, hS5, h6, hR6, _, hbL⟩
    have HIL := Aside0.mk (lent_InW h5 hS5 h6 hR6)
    have HBL := Aside0.mk (below_step HB4.out hbL)
    clear h5 hS5 h6 hR6 hbL x0 x1 x2 x3 x4 x5 x6 HX4 HB4 HI4 hk4
    go_upto_region 5 with fail
    obtain ⟨gx, hh⟩ : ∃ gx, gx = wL.heap.size := ⟨_, rfl⟩
    simp only [← hh]
    rw [show gx + 1 + 1 = gx + 2 from rfl]
    have HFS := Aside0.mk (show FS wL gx s0 s1 s2 A5 ps.length c5 A6 ss.length c6 lo ra (((wL.alloc (.cells (stC s0 s1 s2 A5 ps.length c5 A6 ss.length c6 lo ra) 25)).alloc (.cells #[.int .i64 0] 3)).alloc (.cells #[.int .i64 1, .int .i64 1, .int .i64 64, .slice (some ⟨gx + 1, 0, none⟩) 1 1] 56)) by
      have z1 : (wL.alloc (.cells (stC s0 s1 s2 A5 ps.length c5 A6 ss.length c6 lo ra) 25)).heap.size = gx + 1 := by rw [World.size_alloc, hh]
      have z2 : ((wL.alloc (.cells (stC s0 s1 s2 A5 ps.length c5 A6 ss.length c6 lo ra) 25)).alloc (.cells #[.int .i64 0] 3)).heap.size = gx + 2 := by rw [World.size_alloc, z1]
      refine ⟨blk_alloc (blk_alloc (by have h9 := blk_new wL (.cells (stC s0 s1 s2 A5 ps.length c5 A6 ss.length c6 lo ra) 25); rw [← hh] at h9; exact h9) _) _, blk_alloc (z1 ▸ blk_new (wL.alloc (.cells (stC s0 s1 s2 A5 ps.length c5 A6 ss.length c6 lo ra) 25)) (.cells #[.int .i64 0] 3)) _, by have h9 := blk_new ((wL.alloc (.cells (stC s0 s1 s2 A5 ps.length c5 A6 ss.length c6 lo ra) 25)).alloc (.cells #[.int .i64 0] 3)) (.cells #[.int .i64 1, .int .i64 1, .int .i64 64, .slice (some ⟨gx + 1, 0, none⟩) 1 1] 56); rw [z2] at h9; exact h9, ?_⟩
      exact (((Below.refl gx wL).alloc (by omega) _).alloc (by omega) _).alloc (by omega) _)
    have HH := Aside0.mk hh
    clear hh
    generalize ((wL.alloc (.cells (stC s0 s1 s2 A5 ps.length c5 A6 ss.length c6 lo ra) 25)).alloc (.cells #[.int .i64 0] 3)).alloc (.cells #[.int .i64 1, .int .i64 1, .int .i64 64, .slice (some ⟨gx + 1, 0, none⟩) 1 1] 56) = w5 at HFS ⊢
    have HBW := Aside0.mk (show w.heap.size ≤ gx by have := HBL.out.size; have := HH.out; omega)
    go_wp2_with (first | ((with_reducible refine gate_dst (N := 31) rfl ?_); refine Kd.R_make (kMany (gx + 1)) (w0 := w5) (gx + 3) 56 rfl rfl 22 _ _ rfl 65 rfl rfl Try.underlying22 (.agg #[.int .i64 0, .int .i64 0, .int .i64 0, .slice none 0 0]) 48 info56 rfl (show 0 < 4 by decide) (by decide) (markM 0) (ok := fun _ => True) (okp := fun _ => True) (show manyP (gx + 1) (markM 0) _ from .inl ⟨rfl, rfl⟩) (fun _ h => h) trivial (by decide) (by decide) (Below.refl _ _) HFS.out.room ?_; intro vz w6 hz hb6 hg6 hat6; rw [show List.replicate (Int.toNat 65) (markM 0) = List.replicate 65 (markM 0) from rfl] at hz; obtain ⟨gm, cm, rfl, hgm⟩ := R_form65 hz; have HZ := Aside0.mk hz; have HGM := Aside0.mk hgm; have HF6 := Aside0.mk (HFS.out.below hb6 (Nat.le_refl _)); clear hz hb6 hg6 hat6 HFS hgm) | fail)
    go_loopg [10] 65 (fun kq v10 w' => ∃ (i : Nat) (L : List S56), v10 = .int .i64 i ∧ Aside0 (i + kq = 65 ∧ L.length = 65) ∧ Aside0 (FS wL gx s0 s1 s2 A5 ps.length c5 A6 ss.length c6 lo ra w') ∧ Aside0 ((kMany (gx + 1)).R 56 w' (gx + 3) (fun _ => True) (.slice (some ⟨gm, 0, none⟩) 65 cm) L))
    case atStart => exact ⟨0, List.replicate 65 (markM 0), rfl, ⟨⟨rfl, by simp⟩⟩, HF6, HZ⟩
    case round =>
      clear HF6 HZ
      obtain ⟨i, L, rfl, HI, HF, HR⟩ := hrel
      have y0 := (blk_cell HF.out.I8 0).trans rfl
      have y1 := (blk_cell HF.out.I8 1).trans rfl
      have y2 := (blk_cell HF.out.I8 2).trans rfl
      have y3 := (blk_cell HF.out.I8 3).trans rfl
      by_cases hlt : i < 65
      · have d6 : decide ((i : Int) < 65) = true := decide_eq_true (by omega)
        have d7 : decide (i < 65) = true := decide_eq_true hlt
        have j1 : (i : Int) < 65 := by omega
        have j2 := eq_true (show i < 65 from hlt)
        obtain ⟨cc, hcl, _, hcc, _⟩ := Kd.R_elem HR.out (markM 0) (i : Int) (by omega) (by omega)
        have HCC := Aside0.mk (And.intro hcl hcc)
        have HLT := Aside0.mk hlt
        clear hcl hcc hlt
        go_wp2_with (first | ((with_reducible refine gate_store (t := 56) (p := 41) (v := .tmp 40) rfl ?_); refine Kd.R_store (kMany (gx + 1)) (w0 := wr) (gx + 3) rfl rfl 56 (.tmp 41) (.tmp 40) rfl 56 (i : Int) 0 L oneM (.agg #[.int .i64 1, .int .i64 1, .int .i64 64, .slice (some ⟨gx + 1, 0, none⟩) 1 1]) [.int .i64 1, .int .i64 1, .int .i64 64, .slice (some ⟨gx + 1, 0, none⟩) 1 1] cc (fun _ => True) (fun _ => False) rfl (by rw [Int.toNat_natCast]; rfl) rfl rfl (by kernel_rfl) (many_one (go := gx + 1) (.inr ⟨rfl, rfl⟩)) HR.out (by omega) (by have := HLT.out; omega) HCC.out.1 HCC.out.2 (Nat.le_refl 4) ?aM (fun _ hk => hk.elim) (Below.refl _ _) ?_; (case aM => (have h4 : cc.length = 4 := HCC.out.1; rw [List.take_zero, List.nil_append]; show manyP _ _ ([_, _, _, _] ++ cc.drop 4); rw [List.drop_eq_nil_of_le (by omega), List.append_nil]; exact .inr ⟨rfl, rfl⟩)); intro w7 ho hb hg; have HR7 := Aside0.mk ho; have HF7 := Aside0.mk (HF.out.below hb (Nat.le_refl _)); have HL7 := Aside0.mk (show (L.set (Int.toNat (i : Int)) oneM).length = 65 by rw [List.length_set]; exact HI.out.2); clear ho hb hg HR HF HCC) | fail)
        go_roundg (gk - 1)
        case measure => have := HI.out.1; have := HLT.out; omega
        case rel => exact ⟨i + 1, _, (by first | rfl | exact next_i6 (by have := HLT.out; omega)), ⟨⟨by have := HI.out.1; have := HLT.out; omega, HL7.out⟩⟩, HF7, HR7⟩
      · have d6 : decide ((i : Int) < 65) = false := decide_eq_false (by omega)
        have d7 : decide (i < 65) = false := decide_eq_false hlt
        have HL := Aside0.mk HI.out.2
        clear HI hlt
        go_upto_region 11 with fail
        have hb8 : Below wr.heap.size wr (wr.alloc (.cells #[.int .i64 1, .int .i64 1, .int .i64 64, .slice (some ⟨gx + 1, 0, none⟩) 1 1] 56)) := (Below.refl _ _).alloc (Nat.le_refl _) _
        have HF8 := Aside0.mk (HF.out.below hb8 HF.out.room)
        have HR8 := Aside0.mk (Kd.R_below HR.out hb8)
        have HQ8 := Aside0.mk (show IsB (wr.alloc (.cells #[.int .i64 1, .int .i64 1, .int .i64 64, .slice (some ⟨gx + 1, 0, none⟩) 1 1] 56)) wr.heap.size #[.int .i64 1, .int .i64 1, .int .i64 64, .slice (some ⟨gx + 1, 0, none⟩) 1 1] 56 from blk_new wr _)
        have HQG := Aside0.mk (show gx + 3 ≤ wr.heap.size from HF.out.room)
        obtain ⟨q, hq⟩ : ∃ q, q = wr.heap.size := ⟨_, rfl⟩
        rw [← hq] at HQ8 HQG ⊢
        clear hq hb8 HF HR y0 y1 y2 y3
        generalize wr.alloc (.cells #[.int .i64 1, .int .i64 1, .int .i64 64, .slice (some ⟨gx + 1, 0, none⟩) 1 1] 56) = w8 at HF8 HR8 HQ8 ⊢
        go_wp2_with fail
        refine (pupillaw23_within.calls what 14 (m : Int) w8 HM.out).mono ?_
        rintro _ w9 ⟨rfl, hb9⟩
        replace hb9 := hb9.below
        have HF9 := Aside0.mk (HF8.out.below hb9 HF8.out.room)
        have HR9 := Aside0.mk (Kd.R_below HR8.out hb9)
        have HQ9 := Aside0.mk (blk_below HQ8.out hb9)
        clear hb9 HF8 HR8 HQ8 HM
        go_upto_block 2 with (fail)
        go_cut [] (fun wc => ∃ (t0 t1 t2 : Int) (A' : Option Addr) (c' : Nat) (ps' : List S56) (B' : Option Addr) (d' : Nat) (ss' : List (List S56)), Aside0 (IsB wc gx (stC t0 t1 t2 A' ps'.length c' B' ss'.length d' lo ra) 25) ∧ Aside0 (InW wc A' c' ps' B' d' ss') ∧ Aside0 (checkV t0 t1 t2 ps' ss' = 43) ∧ Aside0 (Below w.heap.size w wc))
        case first =>
          have HFQ := Aside0.mk (FQ.mk HF9.out.I7 HF9.out.IO HQ9.out HF9.out.HB HQG.out)
          have hgx9 : gx < w9.heap.size := by have := HF9.out.room; omega
          have hq9 : q < w9.heap.size := blk_lt HQ9.out
          have hgx91 : gx < w9.heap.size + 1 := by omega
          have hgx92 : gx < w9.heap.size + 1 + 1 := by omega
          have hgx93 : gx < w9.heap.size + 1 + 1 + 1 := by omega
          have hq91 : q < w9.heap.size + 1 := by omega
          have hq92 : q < w9.heap.size + 1 + 1 := by omega
          have hg28 : gx + 2 < w9.heap.size := by have := HF9.out.room; omega
          have hg29 : gx + 2 < w9.heap.size + 1 := by omega
          have hne2 : gx + 2 ≠ q := by have := HQG.out; omega
          have hqg := HQG.out
          have h14 := HM14.out
          have x0 := (blk_cell HFQ.out.IX 0).trans rfl
          have f0 := blk_frozen HFQ.out.IX 0
          have x1 := (blk_cell HFQ.out.IX 1).trans rfl
          have f1 := blk_frozen HFQ.out.IX 1
          have x2 := (blk_cell HFQ.out.IX 2).trans rfl
          have f2 := blk_frozen HFQ.out.IX 2
          have x3 := (blk_cell HFQ.out.IX 3).trans rfl
          have f3 := blk_frozen HFQ.out.IX 3
          have x4 := (blk_cell HFQ.out.IX 4).trans rfl
          have f4 := blk_frozen HFQ.out.IX 4
          have x5 := (blk_cell HFQ.out.IX 5).trans rfl
          have f5 := blk_frozen HFQ.out.IX 5
          have x6 := (blk_cell HFQ.out.IX 6).trans rfl
          have f6 := blk_frozen HFQ.out.IX 6
          have y0 := (blk_cell HFQ.out.IQ 0).trans rfl
          have v0 := blk_frozen HFQ.out.IQ 0
          have y1 := (blk_cell HFQ.out.IQ 1).trans rfl
          have v1 := blk_frozen HFQ.out.IQ 1
          have y2 := (blk_cell HFQ.out.IQ 2).trans rfl
          have v2 := blk_frozen HFQ.out.IQ 2
          have y3 := (blk_cell HFQ.out.IQ 3).trans rfl
          have v3 := blk_frozen HFQ.out.IQ 3
          have z0 := (blk_cell HF9.out.I8 0).trans rfl
          have z1 := (blk_cell HF9.out.I8 1).trans rfl
          have z2 := (blk_cell HF9.out.I8 2).trans rfl
          have z3 := (blk_cell HF9.out.I8 3).trans rfl
          rcases (show m = 0 ∨ m = 1 ∨ m = 2 ∨ m = 3 ∨ m = 4 ∨ m = 5 ∨ m = 6 ∨ m = 7 ∨ m = 8 ∨ m = 9 ∨ m = 10 ∨ m = 11 ∨ m = 12 ∨ m = 13 by omega) with rfl | rfl | rfl | rfl | rfl | rfl | rfl | rfl | rfl | rfl | rfl | rfl | rfl | rfl
          · clear h14
            go_wp2_with fail
            have F1 := FQ.putX HFQ.out 0 (.int .i64 (-1))
            have HWX := HIL.out.below (F1.HB.mono (Nat.le_of_eq HH.out.symm))
            go_meet
            case rel => exact ⟨(-1), s1, s2, A5, c5, ps, A6, c6, ss, ⟨F1.IX⟩, ⟨⟨HWX.lp, HWX.hp, HWX.ls, HWX.hs⟩⟩, ⟨chk_step (Or.inl (by decide))⟩, ⟨HBL.out.trans (F1.HB.mono HBW.out)⟩⟩
          · clear h14
            go_wp2_with fail
            have F1 := FQ.putX HFQ.out 1 (.int .i64 1099511627777)
            have HWX := HIL.out.below (F1.HB.mono (Nat.le_of_eq HH.out.symm))
            go_meet
            case rel => exact ⟨s0, 1099511627777, s2, A5, c5, ps, A6, c6, ss, ⟨F1.IX⟩, ⟨⟨HWX.lp, HWX.hp, HWX.ls, HWX.hs⟩⟩, ⟨chk_step (Or.inr (Or.inl (by decide)))⟩, ⟨HBL.out.trans (F1.HB.mono HBW.out)⟩⟩
          · clear h14
            go_wp2_with fail
            have F1 := FQ.putX HFQ.out 2 (.int .i64 (-9223372036854775808))
            have HWX := HIL.out.below (F1.HB.mono (Nat.le_of_eq HH.out.symm))
            go_meet
            case rel => exact ⟨s0, s1, (-9223372036854775808), A5, c5, ps, A6, c6, ss, ⟨F1.IX⟩, ⟨⟨HWX.lp, HWX.hp, HWX.ls, HWX.hs⟩⟩, ⟨chk_step (Or.inr (Or.inr (by decide)))⟩, ⟨HBL.out.trans (F1.HB.mono HBW.out)⟩⟩
          · clear h14
            have hnl := HL.out
            go_wp2_with fail
            have F1 := FQ.putX HFQ.out 3 (.slice (some ⟨gm, 0, none⟩) 65 cm)
            have HRX := Kd.R_set HR9.out HFQ.out.IX (show ∀ q, q ∈ 56 :: (kMany (gx + 1)).E → q ≠ 25 from fun q (hq : q ∈ [56]) => by rw [List.mem_singleton.1 hq]; decide) 3 (.slice (some ⟨gm, 0, none⟩) 65 cm)
            obtain ⟨A_, c_, he_, hl_, hC_⟩ := Kd.R_reads HRX
            injection he_ with ha_ hb_ hc_
            subst ha_ hc_
            have hIX := F1.IX
            rw [← hb_] at hC_ hl_
            have HWX := HIL.out.below (F1.HB.mono (Nat.le_of_eq HH.out.symm))
            go_meet
            case rel => exact ⟨s0, s1, s2, (some ⟨gm, 0, none⟩), cm, L, A6, c6, ss, ⟨(by rw [HL.out]; exact F1.IX)⟩, ⟨⟨(by rw [HL.out]; exact hl_), (by rw [HL.out]; exact many_k56 F1.IO hC_), HWX.ls, HWX.hs⟩⟩, ⟨chk_long (.inl (by rw [HL.out]; decide))⟩, ⟨HBL.out.trans (F1.HB.mono HBW.out)⟩⟩
          · clear h14
            go_wp2_with (first | ((with_reducible refine gate_dst (N := 64) rfl ?_); refine Kd.R_make (Kd.slice 56 k56) (w0 := w9) w9.heap.size 22 rfl rfl 23 _ _ rfl 65 rfl rfl Try.underlying23 (.slice none 0 0) 24 info22u rfl (show 0 < 1 by decide) (by decide) ([] : List S56) (ok := fun _ => True) (okp := fun _ => True) ⟨_, rfl, Kd.R_nil _ _ _ _ _⟩ (fun _ h => h) trivial (by decide) (by decide) (Below.refl _ _) (Nat.le_refl _) ?_; intro vz wz hz hbz hgz hatz; rw [show List.replicate (Int.toNat 65) ([] : List S56) = List.replicate 65 [] from rfl] at hz; obtain ⟨Az, cz, rfl, hlz, hCz⟩ := Kd.R_reads hz; rw [List.length_replicate] at hlz hCz ⊢; have HFZ := Aside0.mk (HFQ.out.below hbz); have HCZ := Aside0.mk (And.intro hlz hCz); have HRZ := Aside0.mk hz; clear hz hbz hgz hatz hlz hCz x0 x1 x2 x3 x4 x5 x6 f0 f1 f2 f3 f4 f5 f6; have x4 := (blk_cell HFZ.out.IX 4).trans rfl; have f4 := blk_frozen HFZ.out.IX 4) | fail)
            have F1 := FQ.putX HFZ.out 4 (.slice Az 65 cz)
            have HRX := Kd.R_set HRZ.out HFZ.out.IX (by decide) 4 (.slice Az 65 cz)
            obtain ⟨A_, c_, he_, hl_, hC_⟩ := Kd.R_reads HRX
            injection he_ with ha_ hb_ hc_
            subst ha_ hc_
            have HWX := HIL.out.below (F1.HB.mono (Nat.le_of_eq HH.out.symm))
            go_meet
            case rel => exact ⟨s0, s1, s2, A5, c5, ps, Az, cz, (List.replicate 65 []), ⟨F1.IX⟩, ⟨⟨HWX.lp, HWX.hp, (by rw [List.length_replicate]; exact HCZ.out.1), hC_⟩⟩, ⟨chk_long (.inr (by rw [List.length_replicate]; decide))⟩, ⟨HBL.out.trans (F1.HB.mono HBW.out)⟩⟩
          · clear h14
            have h5k : 5 ≤ cm := by have := (Kd.R_reads' HR9.out).2.1; omega
            have h5c := eq_true h5k
            have h5d := eq_false (show ¬ ((cm : Int) < 5) by omega)
            have h5e : decide ((cm : Int) < 5) = false := decide_eq_false (by omega)
            go_wp2_with fail
            have F1 := FQ.putX HFQ.out 4 (.slice (some ⟨w9.heap.size, 0, none⟩) 1 1)
            have F2 := FQ.alloc F1 (.cells #[.slice (some ⟨gm, 0, none⟩) 5 cm] 22)
            have N0_2 := blk_newF (W := (World.setCell w9 ⟨gx, 4, none⟩ (.slice (some ⟨w9.heap.size, 0, none⟩) 1 1))) (o := (.cells #[.slice (some ⟨gm, 0, none⟩) 5 cm] 22)) (k := w9.heap.size) (by simp only [World.size_alloc, World.size_setCell])
            have HRX := Kd.R_alloc (Kd.R_set HR9.out HFQ.out.IX (show ∀ q, q ∈ 56 :: (kMany (gx + 1)).E → q ≠ 25 from fun q (hq : q ∈ [56]) => by rw [List.mem_singleton.1 hq]; decide) 4 (.slice (some ⟨w9.heap.size, 0, none⟩) 1 1)) (.cells #[.slice (some ⟨gm, 0, none⟩) 5 cm] 22)
            obtain ⟨A_, c_, he_, hl_, hC_⟩ := Kd.R_reads HRX
            injection he_ with ha_ hb_ hc_
            subst ha_ hc_
            rw [← hb_] at hC_ hl_
            have hC5 := C_take5 (many_k56 F2.IO hC_) HL.out
            have h5l : (L.take 5).length = 5 := by rw [List.length_take, HL.out]; rfl
            have HWX := HIL.out.below (F2.HB.mono (Nat.le_of_eq HH.out.symm))
            go_meet
            case rel => exact ⟨s0, s1, s2, A5, c5, ps, (some ⟨w9.heap.size, 0, none⟩), 1, [L.take 5], ⟨F2.IX⟩, ⟨⟨HWX.lp, HWX.hp, (Nat.le_refl _), (C_s1 (by rw [h5l]; exact N0_2) (by rw [h5l]; omega) hC5)⟩⟩, ⟨chk_five (by rw [h5l]; decide)⟩, ⟨HBL.out.trans (F2.HB.mono HBW.out)⟩⟩
          · clear h14
            go_wp2_with fail
            have F1 := FQ.putQ HFQ.out 2 (.int .i64 16)
            have F2 := FQ.putX F1 3 (.slice (some ⟨w9.heap.size, 0, none⟩) 1 1)
            have F3 := FQ.alloc F2 (.cells #[.int .i64 1, .int .i64 1, .int .i64 16, .slice (some ⟨gx + 1, 0, none⟩) 1 1] 56)
            have N0_3 := blk_newF (W := (World.setCell (World.setCell w9 ⟨q, 2, none⟩ (.int .i64 16)) ⟨gx, 3, none⟩ (.slice (some ⟨w9.heap.size, 0, none⟩) 1 1))) (o := (.cells #[.int .i64 1, .int .i64 1, .int .i64 16, .slice (some ⟨gx + 1, 0, none⟩) 1 1] 56)) (k := w9.heap.size) (by simp only [World.size_alloc, World.size_setCell])
            have HWX := HIL.out.below (F3.HB.mono (Nat.le_of_eq HH.out.symm))
            go_meet
            case rel => exact ⟨s0, s1, s2, (some ⟨w9.heap.size, 0, none⟩), 1, [⟨1, 1, 16, [0]⟩], A6, c6, ss, ⟨F3.IX⟩, ⟨⟨(Nat.le_refl _), (C_m1 N0_3 (k56_mk _ (⟨1, 1, 16, [0]⟩) (Nat.le_refl _) (C_ints (xs := [0]) F3.IO (by decide)))), HWX.ls, HWX.hs⟩⟩, ⟨chk_bad (ps := []) (m := ⟨1, 1, 16, [0]⟩) (by decide +kernel)⟩, ⟨HBL.out.trans (F3.HB.mono HBW.out)⟩⟩
          · clear h14
            go_wp2_with fail
            have F1 := FQ.putQ HFQ.out 0 (.int .i64 0)
            have F2 := FQ.putX F1 3 (.slice (some ⟨w9.heap.size, 0, none⟩) 2 2)
            have F3 := FQ.alloc F2 (.cells #[.int .i64 1, .int .i64 1, .int .i64 64, .slice (some ⟨gx + 1, 0, none⟩) 1 1, .int .i64 0, .int .i64 1, .int .i64 64, .slice (some ⟨gx + 1, 0, none⟩) 1 1] 56)
            have N0_3 := blk_newF (W := (World.setCell (World.setCell w9 ⟨q, 0, none⟩ (.int .i64 0)) ⟨gx, 3, none⟩ (.slice (some ⟨w9.heap.size, 0, none⟩) 2 2))) (o := (.cells #[.int .i64 1, .int .i64 1, .int .i64 64, .slice (some ⟨gx + 1, 0, none⟩) 1 1, .int .i64 0, .int .i64 1, .int .i64 64, .slice (some ⟨gx + 1, 0, none⟩) 1 1] 56)) (k := w9.heap.size) (by simp only [World.size_alloc, World.size_setCell])
            have HWX := HIL.out.below (F3.HB.mono (Nat.le_of_eq HH.out.symm))
            go_meet
            case rel => exact ⟨s0, s1, s2, (some ⟨w9.heap.size, 0, none⟩), 2, [oneM, ⟨0, 1, 64, [0]⟩], A6, c6, ss, ⟨F3.IX⟩, ⟨⟨(Nat.le_refl _), (C_m2 N0_3 (k56_mk _ (oneM) (Nat.le_refl _) (C_ints (xs := [0]) F3.IO (by decide))) (k56_mk _ (⟨0, 1, 64, [0]⟩) (Nat.le_refl _) (C_ints (xs := [0]) F3.IO (by decide)))), HWX.ls, HWX.hs⟩⟩, ⟨chk_bad (ps := [oneM]) (m := ⟨0, 1, 64, [0]⟩) (by decide +kernel)⟩, ⟨HBL.out.trans (F3.HB.mono HBW.out)⟩⟩
          · clear h14
            go_wp2_with fail
            have F1 := FQ.putQ HFQ.out 3 (.slice (some ⟨w9.heap.size, 0, none⟩) 2 2)
            have F2 := FQ.putX F1 4 (.slice (some ⟨w9.heap.size + 1 + 1, 0, none⟩) 1 1)
            have F3 := FQ.alloc F2 (.cells #[.int .i64 0, .int .i64 0] 3)
            have N0_3 := blk_newF (W := (World.setCell (World.setCell w9 ⟨q, 3, none⟩ (.slice (some ⟨w9.heap.size, 0, none⟩) 2 2)) ⟨gx, 4, none⟩ (.slice (some ⟨w9.heap.size + 1 + 1, 0, none⟩) 1 1))) (o := (.cells #[.int .i64 0, .int .i64 0] 3)) (k := w9.heap.size) (by simp only [World.size_alloc, World.size_setCell])
            have F4 := FQ.alloc F3 (.cells #[.int .i64 1, .int .i64 1, .int .i64 64, .slice (some ⟨w9.heap.size, 0, none⟩) 2 2] 56)
            have N0_4 := blk_alloc N0_3 (.cells #[.int .i64 1, .int .i64 1, .int .i64 64, .slice (some ⟨w9.heap.size, 0, none⟩) 2 2] 56)
            have N1_4 := blk_newF (W := (World.alloc (World.setCell (World.setCell w9 ⟨q, 3, none⟩ (.slice (some ⟨w9.heap.size, 0, none⟩) 2 2)) ⟨gx, 4, none⟩ (.slice (some ⟨w9.heap.size + 1 + 1, 0, none⟩) 1 1)) (.cells #[.int .i64 0, .int .i64 0] 3))) (o := (.cells #[.int .i64 1, .int .i64 1, .int .i64 64, .slice (some ⟨w9.heap.size, 0, none⟩) 2 2] 56)) (k := w9.heap.size + 1) (by simp only [World.size_alloc, World.size_setCell])
            have F5 := FQ.alloc F4 (.cells #[.slice (some ⟨w9.heap.size + 1, 0, none⟩) 1 1] 22)
            have N0_5 := blk_alloc N0_4 (.cells #[.slice (some ⟨w9.heap.size + 1, 0, none⟩) 1 1] 22)
            have N1_5 := blk_alloc N1_4 (.cells #[.slice (some ⟨w9.heap.size + 1, 0, none⟩) 1 1] 22)
            have N2_5 := blk_newF (W := (World.alloc (World.alloc (World.setCell (World.setCell w9 ⟨q, 3, none⟩ (.slice (some ⟨w9.heap.size, 0, none⟩) 2 2)) ⟨gx, 4, none⟩ (.slice (some ⟨w9.heap.size + 1 + 1, 0, none⟩) 1 1)) (.cells #[.int .i64 0, .int .i64 0] 3)) (.cells #[.int .i64 1, .int .i64 1, .int .i64 64, .slice (some ⟨w9.heap.size, 0, none⟩) 2 2] 56))) (o := (.cells #[.slice (some ⟨w9.heap.size + 1, 0, none⟩) 1 1] 22)) (k := w9.heap.size + 1 + 1) (by simp only [World.size_alloc, World.size_setCell])
            have HWX := HIL.out.below (F5.HB.mono (Nat.le_of_eq HH.out.symm))
            go_meet
            case rel => exact ⟨s0, s1, s2, A5, c5, ps, (some ⟨w9.heap.size + 1 + 1, 0, none⟩), 1, [[⟨1, 1, 64, [0, 0]⟩]], ⟨F5.IX⟩, ⟨⟨HWX.lp, HWX.hp, (Nat.le_refl _), (C_s1 (s := [⟨1, 1, 64, [0, 0]⟩]) N2_5 (Nat.le_refl _) (C_m1 N1_5 (k56_mk _ (⟨1, 1, 64, [0, 0]⟩) (Nat.le_refl _) (C_ints (xs := [0, 0]) N0_5 (by decide)))))⟩⟩, ⟨chk_slot (ps := []) (m := ⟨1, 1, 64, [0, 0]⟩) (by decide +kernel)⟩, ⟨HBL.out.trans (F5.HB.mono HBW.out)⟩⟩
          · clear h14
            go_wp2_with fail
            have F1 := FQ.putQ HFQ.out 3 (.slice (some ⟨w9.heap.size, 0, none⟩) 1 1)
            have F2 := FQ.putX F1 3 (.slice (some ⟨w9.heap.size + 1, 0, none⟩) 1 1)
            have F3 := FQ.alloc F2 (.cells #[.int .i64 9218868437227405312] 3)
            have N0_3 := blk_newF (W := (World.setCell (World.setCell w9 ⟨q, 3, none⟩ (.slice (some ⟨w9.heap.size, 0, none⟩) 1 1)) ⟨gx, 3, none⟩ (.slice (some ⟨w9.heap.size + 1, 0, none⟩) 1 1))) (o := (.cells #[.int .i64 9218868437227405312] 3)) (k := w9.heap.size) (by simp only [World.size_alloc, World.size_setCell])
            have F4 := FQ.alloc F3 (.cells #[.int .i64 1, .int .i64 1, .int .i64 64, .slice (some ⟨w9.heap.size, 0, none⟩) 1 1] 56)
            have N0_4 := blk_alloc N0_3 (.cells #[.int .i64 1, .int .i64 1, .int .i64 64, .slice (some ⟨w9.heap.size, 0, none⟩) 1 1] 56)
            have N1_4 := blk_newF (W := (World.alloc (World.setCell (World.setCell w9 ⟨q, 3, none⟩ (.slice (some ⟨w9.heap.size, 0, none⟩) 1 1)) ⟨gx, 3, none⟩ (.slice (some ⟨w9.heap.size + 1, 0, none⟩) 1 1)) (.cells #[.int .i64 9218868437227405312] 3))) (o := (.cells #[.int .i64 1, .int .i64 1, .int .i64 64, .slice (some ⟨w9.heap.size, 0, none⟩) 1 1] 56)) (k := w9.heap.size + 1) (by simp only [World.size_alloc, World.size_setCell])
            have HWX := HIL.out.below (F4.HB.mono (Nat.le_of_eq HH.out.symm))
            go_meet
            case rel => exact ⟨s0, s1, s2, (some ⟨w9.heap.size + 1, 0, none⟩), 1, [⟨1, 1, 64, [9218868437227405312]⟩], A6, c6, ss, ⟨F4.IX⟩, ⟨⟨(Nat.le_refl _), (C_m1 N1_4 (k56_mk _ (⟨1, 1, 64, [9218868437227405312]⟩) (Nat.le_refl _) (C_ints (xs := [9218868437227405312]) N0_4 (by decide)))), HWX.ls, HWX.hs⟩⟩, ⟨chk_bad (ps := []) (m := ⟨1, 1, 64, [9218868437227405312]⟩) (by decide +kernel)⟩, ⟨HBL.out.trans (F4.HB.mono HBW.out)⟩⟩
          · clear h14
            go_wp2_with fail
            have F1 := FQ.putQ HFQ.out 0 (.int .i64 1)
            have F2 := FQ.putQ F1 1 (.int .i64 1)
            have F3 := FQ.putQ F2 2 (.int .i64 32)
            have F4 := FQ.putQ F3 3 (.slice (some ⟨w9.heap.size, 0, none⟩) 1 1)
            have F5 := FQ.putX F4 4 (.slice (some ⟨w9.heap.size + 1 + 1, 0, none⟩) 1 1)
            have F6 := FQ.alloc F5 (.cells #[.int .i64 (-1)] 3)
            have N0_6 := blk_newF (W := (World.setCell (World.setCell (World.setCell (World.setCell (World.setCell w9 ⟨q, 0, none⟩ (.int .i64 1)) ⟨q, 1, none⟩ (.int .i64 1)) ⟨q, 2, none⟩ (.int .i64 32)) ⟨q, 3, none⟩ (.slice (some ⟨w9.heap.size, 0, none⟩) 1 1)) ⟨gx, 4, none⟩ (.slice (some ⟨w9.heap.size + 1 + 1, 0, none⟩) 1 1))) (o := (.cells #[.int .i64 (-1)] 3)) (k := w9.heap.size) (by simp only [World.size_alloc, World.size_setCell])
            have F7 := FQ.alloc F6 (.cells #[.int .i64 1, .int .i64 1, .int .i64 64, .slice (some ⟨gx + 1, 0, none⟩) 1 1, .int .i64 1, .int .i64 1, .int .i64 32, .slice (some ⟨w9.heap.size, 0, none⟩) 1 1] 56)
            have N0_7 := blk_alloc N0_6 (.cells #[.int .i64 1, .int .i64 1, .int .i64 64, .slice (some ⟨gx + 1, 0, none⟩) 1 1, .int .i64 1, .int .i64 1, .int .i64 32, .slice (some ⟨w9.heap.size, 0, none⟩) 1 1] 56)
            have N1_7 := blk_newF (W := (World.alloc (World.setCell (World.setCell (World.setCell (World.setCell (World.setCell w9 ⟨q, 0, none⟩ (.int .i64 1)) ⟨q, 1, none⟩ (.int .i64 1)) ⟨q, 2, none⟩ (.int .i64 32)) ⟨q, 3, none⟩ (.slice (some ⟨w9.heap.size, 0, none⟩) 1 1)) ⟨gx, 4, none⟩ (.slice (some ⟨w9.heap.size + 1 + 1, 0, none⟩) 1 1)) (.cells #[.int .i64 (-1)] 3))) (o := (.cells #[.int .i64 1, .int .i64 1, .int .i64 64, .slice (some ⟨gx + 1, 0, none⟩) 1 1, .int .i64 1, .int .i64 1, .int .i64 32, .slice (some ⟨w9.heap.size, 0, none⟩) 1 1] 56)) (k := w9.heap.size + 1) (by simp only [World.size_alloc, World.size_setCell])
            have F8 := FQ.alloc F7 (.cells #[.slice (some ⟨w9.heap.size + 1, 0, none⟩) 2 2] 22)
            have N0_8 := blk_alloc N0_7 (.cells #[.slice (some ⟨w9.heap.size + 1, 0, none⟩) 2 2] 22)
            have N1_8 := blk_alloc N1_7 (.cells #[.slice (some ⟨w9.heap.size + 1, 0, none⟩) 2 2] 22)
            have N2_8 := blk_newF (W := (World.alloc (World.alloc (World.setCell (World.setCell (World.setCell (World.setCell (World.setCell w9 ⟨q, 0, none⟩ (.int .i64 1)) ⟨q, 1, none⟩ (.int .i64 1)) ⟨q, 2, none⟩ (.int .i64 32)) ⟨q, 3, none⟩ (.slice (some ⟨w9.heap.size, 0, none⟩) 1 1)) ⟨gx, 4, none⟩ (.slice (some ⟨w9.heap.size + 1 + 1, 0, none⟩) 1 1)) (.cells #[.int .i64 (-1)] 3)) (.cells #[.int .i64 1, .int .i64 1, .int .i64 64, .slice (some ⟨gx + 1, 0, none⟩) 1 1, .int .i64 1, .int .i64 1, .int .i64 32, .slice (some ⟨w9.heap.size, 0, none⟩) 1 1] 56))) (o := (.cells #[.slice (some ⟨w9.heap.size + 1, 0, none⟩) 2 2] 22)) (k := w9.heap.size + 1 + 1) (by simp only [World.size_alloc, World.size_setCell])
            have HWX := HIL.out.below (F8.HB.mono (Nat.le_of_eq HH.out.symm))
            go_meet
            case rel => exact ⟨s0, s1, s2, A5, c5, ps, (some ⟨w9.heap.size + 1 + 1, 0, none⟩), 1, [[oneM, ⟨1, 1, 32, [-1]⟩]], ⟨F8.IX⟩, ⟨⟨HWX.lp, HWX.hp, (Nat.le_refl _), (C_s1 (s := [oneM, ⟨1, 1, 32, [-1]⟩]) N2_8 (Nat.le_refl _) (C_m2 N1_8 (k56_mk _ (oneM) (Nat.le_refl _) (C_ints (xs := [0]) F8.IO (by decide))) (k56_mk _ (⟨1, 1, 32, [-1]⟩) (Nat.le_refl _) (C_ints (xs := [-1]) N0_8 (by decide)))))⟩⟩, ⟨chk_slot (ps := [oneM]) (m := ⟨1, 1, 32, [-1]⟩) (by decide +kernel)⟩, ⟨HBL.out.trans (F8.HB.mono HBW.out)⟩⟩
          · clear h14
            go_wp2_with (first | ((with_reducible refine gate_dst (N := 111) rfl ?_); refine Kd.R_make (Kd.int .i64) (w0 := w9) w9.heap.size 3 rfl rfl 54 _ _ rfl 4160 rfl rfl Try.underlying54 (.int .i64 0) 8 info3 rfl (by decide) (by decide) 0 (ok := fun _ => True) (okp := fun _ => True) rfl (fun _ h => h) trivial (by decide) (by decide) (Below.refl _ _) (Nat.le_refl _) ?_; intro vz wz hz hbz hgz hatz; rw [show List.replicate (Int.toNat 4160) (0 : Int) = wideM.f3 from rfl] at hz; obtain ⟨Az, cz, rfl, hlz, hCz⟩ := Kd.R_reads hz; have HFZ := Aside0.mk (HFQ.out.below hbz); have HLZ := Aside0.mk hlz; have HRZ := Aside0.mk hz; have HZS := Aside0.mk (show w9.heap.size ≤ wz.heap.size from hbz.size); clear hz hbz hgz hatz hlz hCz x0 x1 x2 x3 x4 x5 x6 f0 f1 f2 f3 f4 f5 f6 y0 y1 y2 y3 v0 v1 v2 v3; have x3 := (blk_cell HFZ.out.IX 3).trans rfl; have f3 := blk_frozen HFZ.out.IX 3; have y0 := (blk_cell HFZ.out.IQ 0).trans rfl; have y1 := (blk_cell HFZ.out.IQ 1).trans rfl; have y2 := (blk_cell HFZ.out.IQ 2).trans rfl; have y3 := (blk_cell HFZ.out.IQ 3).trans rfl; have v0 := blk_frozen HFZ.out.IQ 0; have v1 := blk_frozen HFZ.out.IQ 1; have v2 := blk_frozen HFZ.out.IQ 2; have v3 := blk_frozen HFZ.out.IQ 3; have hgz : gx < wz.heap.size := (by have := HZS.out; omega); have hqz : q < wz.heap.size := (by have := HZS.out; omega); have hgz1 : gx < wz.heap.size + 1 := (by omega)) | fail)
            skip
            have F1 := FQ.putQ HFZ.out 0 (.int .i64 64)
            have F2 := FQ.putQ F1 1 (.int .i64 65)
            have F3 := FQ.putQ F2 2 (.int .i64 64)
            have F4 := FQ.putQ F3 3 (.slice Az wideM.f3.length cz)
            have F5 := FQ.putX F4 3 (.slice (some ⟨wz.heap.size, 0, none⟩) 1 1)
            have F6 := FQ.alloc F5 (.cells #[.int .i64 64, .int .i64 65, .int .i64 64, .slice Az wideM.f3.length cz] 56)
            have N0_6 := blk_newF (W := (World.setCell (World.setCell (World.setCell (World.setCell (World.setCell wz ⟨q, 0, none⟩ (.int .i64 64)) ⟨q, 1, none⟩ (.int .i64 65)) ⟨q, 2, none⟩ (.int .i64 64)) ⟨q, 3, none⟩ (.slice Az wideM.f3.length cz)) ⟨gx, 3, none⟩ (.slice (some ⟨wz.heap.size, 0, none⟩) 1 1))) (o := (.cells #[.int .i64 64, .int .i64 65, .int .i64 64, .slice Az wideM.f3.length cz] 56)) (k := wz.heap.size) (by simp only [World.size_alloc, World.size_setCell])
            have R1 := Kd.R_set HRZ.out HFZ.out.IQ (by decide) 0 (.int .i64 64)
            have R2 := Kd.R_set R1 F1.IQ (by decide) 1 (.int .i64 65)
            have R3 := Kd.R_set R2 F2.IQ (by decide) 2 (.int .i64 64)
            have R4 := Kd.R_set R3 F3.IQ (by decide) 3 (.slice Az wideM.f3.length cz)
            have R5 := Kd.R_set R4 F4.IX (by decide) 3 (.slice (some ⟨wz.heap.size, 0, none⟩) 1 1)
            have R6 := Kd.R_alloc R5 (.cells #[.int .i64 64, .int .i64 65, .int .i64 64, .slice Az wideM.f3.length cz] 56)
            obtain ⟨A_, c_, he_, hl_, hC_⟩ := Kd.R_reads R6
            injection he_ with ha_ hb_ hc_
            subst ha_ hc_
            have HWX := HIL.out.below (F6.HB.mono (Nat.le_of_eq HH.out.symm))
            go_meet
            case rel => exact ⟨s0, s1, s2, (some ⟨wz.heap.size, 0, none⟩), 1, [wideM], A6, c6, ss, ⟨F6.IX⟩, ⟨⟨(Nat.le_refl _), (C_m1 N0_6 (k56_mk _ wideM HLZ.out hC_)), HWX.ls, HWX.hs⟩⟩, ⟨chk_bad (ps := []) (m := wideM) wide_bad⟩, ⟨HBL.out.trans (F6.HB.mono HBW.out)⟩⟩
          · clear h14
            go_wp2_with fail
            have F1 := FQ.putQ HFQ.out 0 (.int .i64 (-1))
            have F2 := FQ.putQ F1 1 (.int .i64 (-1))
            have F3 := FQ.putQ F2 2 (.int .i64 64)
            have F4 := FQ.putQ F3 3 (.slice (some ⟨w9.heap.size, 0, none⟩) 1 1)
            have F5 := FQ.putX F4 3 (.slice (some ⟨w9.heap.size + 1, 0, none⟩) 1 1)
            have F6 := FQ.alloc F5 (.cells #[.int .i64 0] 3)
            have N0_6 := blk_newF (W := (World.setCell (World.setCell (World.setCell (World.setCell (World.setCell w9 ⟨q, 0, none⟩ (.int .i64 (-1))) ⟨q, 1, none⟩ (.int .i64 (-1))) ⟨q, 2, none⟩ (.int .i64 64)) ⟨q, 3, none⟩ (.slice (some ⟨w9.heap.size, 0, none⟩) 1 1)) ⟨gx, 3, none⟩ (.slice (some ⟨w9.heap.size + 1, 0, none⟩) 1 1))) (o := (.cells #[.int .i64 0] 3)) (k := w9.heap.size) (by simp only [World.size_alloc, World.size_setCell])
            have F7 := FQ.alloc F6 (.cells #[.int .i64 (-1), .int .i64 (-1), .int .i64 64, .slice (some ⟨w9.heap.size, 0, none⟩) 1 1] 56)
            have N0_7 := blk_alloc N0_6 (.cells #[.int .i64 (-1), .int .i64 (-1), .int .i64 64, .slice (some ⟨w9.heap.size, 0, none⟩) 1 1] 56)
            have N1_7 := blk_newF (W := (World.alloc (World.setCell (World.setCell (World.setCell (World.setCell (World.setCell w9 ⟨q, 0, none⟩ (.int .i64 (-1))) ⟨q, 1, none⟩ (.int .i64 (-1))) ⟨q, 2, none⟩ (.int .i64 64)) ⟨q, 3, none⟩ (.slice (some ⟨w9.heap.size, 0, none⟩) 1 1)) ⟨gx, 3, none⟩ (.slice (some ⟨w9.heap.size + 1, 0, none⟩) 1 1)) (.cells #[.int .i64 0] 3))) (o := (.cells #[.int .i64 (-1), .int .i64 (-1), .int .i64 64, .slice (some ⟨w9.heap.size, 0, none⟩) 1 1] 56)) (k := w9.heap.size + 1) (by simp only [World.size_alloc, World.size_setCell])
            have HWX := HIL.out.below (F7.HB.mono (Nat.le_of_eq HH.out.symm))
            go_meet
            case rel => exact ⟨s0, s1, s2, (some ⟨w9.heap.size + 1, 0, none⟩), 1, [⟨-1, -1, 64, [0]⟩], A6, c6, ss, ⟨F7.IX⟩, ⟨⟨(Nat.le_refl _), (C_m1 N1_7 (k56_mk _ (⟨-1, -1, 64, [0]⟩) (Nat.le_refl _) (C_ints (xs := [0]) N0_7 (by decide)))), HWX.ls, HWX.hs⟩⟩, ⟨chk_bad (ps := []) (m := ⟨-1, -1, 64, [0]⟩) (by decide +kernel)⟩, ⟨HBL.out.trans (F7.HB.mono HBW.out)⟩⟩
          · clear h14
            go_wp2_with fail
            have F1 := FQ.putQ HFQ.out 0 (.int .i64 4294967296)
            have F2 := FQ.putQ F1 1 (.int .i64 4294967296)
            have F3 := FQ.putQ F2 2 (.int .i64 64)
            have F4 := FQ.putQ F3 3 (.slice none 0 0)
            have F5 := FQ.putX F4 3 (.slice (some ⟨w9.heap.size, 0, none⟩) 1 1)
            have F6 := FQ.alloc F5 (.cells #[.int .i64 4294967296, .int .i64 4294967296, .int .i64 64, .slice none 0 0] 56)
            have N0_6 := blk_newF (W := (World.setCell (World.setCell (World.setCell (World.setCell (World.setCell w9 ⟨q, 0, none⟩ (.int .i64 4294967296)) ⟨q, 1, none⟩ (.int .i64 4294967296)) ⟨q, 2, none⟩ (.int .i64 64)) ⟨q, 3, none⟩ (.slice none 0 0)) ⟨gx, 3, none⟩ (.slice (some ⟨w9.heap.size, 0, none⟩) 1 1))) (o := (.cells #[.int .i64 4294967296, .int .i64 4294967296, .int .i64 64, .slice none 0 0] 56)) (k := w9.heap.size) (by simp only [World.size_alloc, World.size_setCell])
            have HWX := HIL.out.below (F6.HB.mono (Nat.le_of_eq HH.out.symm))
            go_meet
            case rel => exact ⟨s0, s1, s2, (some ⟨w9.heap.size, 0, none⟩), 1, [⟨4294967296, 4294967296, 64, []⟩], A6, c6, ss, ⟨F6.IX⟩, ⟨⟨(Nat.le_refl _), (C_m1 N0_6 (k56_mk _ (⟨4294967296, 4294967296, 64, []⟩) (Nat.le_refl _) (Kd.C_nil _ _))), HWX.ls, HWX.hs⟩⟩, ⟨chk_bad (ps := []) (m := ⟨4294967296, 4294967296, 64, []⟩) (by decide +kernel)⟩, ⟨HBL.out.trans (F6.HB.mono HBW.out)⟩⟩
        case rest =>
          obtain ⟨t0, t1, t2, A', c', ps', B', d', ss', HC1, HC2, HC3, HC4⟩ := hcut
          clear HF9 HR9 HQ9
          obtain ⟨kW, hkW⟩ : ∃ k, state_Write.f k t0 t1 t2 ps' ss' lo ra = some ([], 43) := by
            have h := write_ev t0 t1 t2 ps' ss' lo ra
            rw [HC3.out, if_neg (by decide)] at h
            exact h.one
          have HKW := Aside0.mk hkW
          clear hkW
          have x0 := (blk_cell HC1.out 0).trans rfl
          have x1 := (blk_cell HC1.out 1).trans rfl
          have x2 := (blk_cell HC1.out 2).trans rfl
          have x3 := (blk_cell HC1.out 3).trans rfl
          have x4 := (blk_cell HC1.out 4).trans rfl
          have x5 := (blk_cell HC1.out 5).trans rfl
          have x6 := (blk_cell HC1.out 6).trans rfl
          go_wp2_with fail
          refine (state_Write.calls kW t0 t1 t2 A' c' ps' B' d' ss' lo ra [] 43 wc HC2.out.hp HC2.out.lp HC2.out.hs HC2.out.ls HKW.out).mono ?_
          rintro _ wd ⟨v, rfl, hv, hbd⟩
          obtain ⟨Av, cv, rfl, _, _⟩ := Kd.R_reads hv
          have HD1 := Aside0.mk (blk_below HC1.out hbd)
          have HD2 := Aside0.mk (HC2.out.below hbd)
          have HD4 := Aside0.mk (below_step HC4.out hbd)
          clear hbd hv HC1 HC2 HC4 x0 x1 x2 x3 x4 x5 x6
          have x0 := (blk_cell HD1.out 0).trans rfl
          have x1 := (blk_cell HD1.out 1).trans rfl
          have x2 := (blk_cell HD1.out 2).trans rfl
          have x3 := (blk_cell HD1.out 3).trans rfl
          have x4 := (blk_cell HD1.out 4).trans rfl
          have x5 := (blk_cell HD1.out 5).trans rfl
          have x6 := (blk_cell HD1.out 6).trans rfl
          go_wp2_with fail
          refine (check_any t0 t1 t2 A' B' c' d' ps' ss' lo ra wd HD2.out.hp HD2.out.lp HD2.out.hs HD2.out.ls).mono ?_
          rintro _ we ⟨rfl, hbe⟩
          rw [HC3.out]
          have HE4 := Aside0.mk (below_step HD4.out hbe)
          clear hbe x0 x1 x2 x3 x4 x5 x6 HD1 HD2 HD4
          go_wp2
          go_ret
          exact ⟨rfl, HE4.out⟩
  · have d2 : (e != 0) = true := by simpa using hz
    clear hz HWH HM
    go_wp2_with fail
    refine (alive_calls _).mono ?_
    rintro _ w5 ⟨rfl, hb5⟩
    have HB5 := Aside0.mk (below_step HB4.out hb5)
    clear hb5
    go_wp2
    go_ret
    exact ⟨rfl, HB5.out⟩
end Go.Proofs.Ytmiljlbbacbbpaa
