/- There and back, in plain lists: turned twice, formed and back, cut and glued, stretched and cut, widened and narrowed. -/
import Derived.Test.YtklomikdihlcgaaBkM
import Derived.Test.YtklomikdihlcgaaGlAP
import Derived.Test.YtklomikdihlcgaaStrP
import Derived.Test.YtklomikdihlcgaaFcW
namespace Go.Proofs.Ytklomikdihlcgaa
open Go.RowKit PBase
open Go.Proofs.YtklomikdihlcgaaW.PrintWords Go.Proofs.YtklomikdihlcgaaW.PrintLast Go.Proofs.YtklomikdihlcgaaW.PrintMore
set_option linter.unusedVariables false
set_option linter.unusedSimpArgs false
namespace Bk

def okV (wd x : Int) : Prop := ¬ (wd = 32 ∧ badB x = true)
theorem ok_zero (wd : Int) : okV wd 0 := fun h => by have := h.2; revert this; decide
theorem check_mk {r c wd : Int} {l : List Int} (hs : sizedV r c wd = 0) (hl : (l.length : Int) = r * c) (ho : ∀ x ∈ l, okV wd x) : checkV r c wd l = 0 := by
  unfold checkV
  rw [if_pos hs, if_pos hl, if_neg]
  rintro ⟨h1, h2⟩
  obtain ⟨x, hx, hb⟩ := List.any_eq_true.1 h2
  exact ho x hx ⟨h1, hb⟩
theorem check_ok {r c wd : Int} {l : List Int} (h : checkV r c wd l = 0) : ∀ x ∈ l, okV wd x := by
  intro x hx hb
  unfold checkV at h
  split at h
  · split at h
    · rw [if_pos ⟨hb.1, List.any_eq_true.2 ⟨x, hx, hb.2⟩⟩] at h
      exact absurd h (by decide)
    · exact absurd h (by decide)
  · rename_i h1; exact h1 h
theorem getD_ok {wd : Int} {l : List Int} (h : ∀ x ∈ l, okV wd x) (i : Nat) : okV wd (l.getD i 0) := by
  rw [List.getD_eq_getElem?_getD]
  by_cases hi : i < l.length
  · rw [List.getElem?_eq_getElem hi]; exact h _ (List.getElem_mem hi)
  · rw [List.getElem?_eq_none (by omega)]; exact ok_zero wd
theorem clean_clean {wd : Int} (hw : wd = 32 ∨ wd = 64) (x : Int) : cleanV wd (cleanV wd x) = cleanV wd x := by
  rw [cleanV_eq x wd hw]
  split
  · rw [cleanV_eq _ wd hw, ite_self]
  · rename_i h; rw [cleanV_eq x wd hw, if_neg h]
theorem clean_ok {wd : Int} (hw : wd = 32 ∨ wd = 64) {x : Int} (h : okV wd x) : okV wd (cleanV wd x) := by
  rw [cleanV_eq x wd hw]
  split
  · rintro ⟨h1, h2⟩
    rw [if_pos h1] at h2
    revert h2; decide
  · exact h
theorem sized_of {r c : Nat} {wd : Int} (hw : wd = 32 ∨ wd = 64) (h1 : 1 ≤ r) (h2 : 1 ≤ c) (h3 : r * c ≤ 4096) : sizedV r c wd = 0 := by
  have h4 : r ≤ 4096 := Nat.le_trans (Nat.le_mul_of_pos_right r h2) h3
  have h5 : c ≤ 4096 := Nat.le_trans (Nat.le_mul_of_pos_left c h1) h3
  have h6 : (r : Int) * (c : Int) ≤ 4096 := by rw [← Int.natCast_mul]; omega
  unfold sizedV
  rw [if_neg (by omega), if_neg (by omega), if_neg (by omega)]
theorem tab_check {r c : Nat} {wd : Int} {F : Nat → Nat → Int} (hw : wd = 32 ∨ wd = 64) (h1 : 1 ≤ r) (h2 : 1 ≤ c) (h3 : r * c ≤ 4096) (ho : ∀ i j, i < r → j < c → okV wd (F i j)) : checkV r c wd (tab2 r c F) = 0 := by
  refine check_mk (sized_of hw h1 h2 h3) (by rw [tab2_length, Int.natCast_mul]) fun x hx => ?_
  obtain ⟨i, j, hi, hj, rfl⟩ := tab2_mem hx
  exact ho i j hi hj
theorem map_check {r c : Nat} {wd : Int} {l : List Int} (hk : checkV r c wd l = 0) {r' c' : Nat} (h1 : 1 ≤ r') (h2 : 1 ≤ c') (h6 : r' * c' = r * c) : checkV r' c' wd (l.map (cleanV wd)) = 0 := by
  obtain ⟨hw, c1, c2, c3, c4, c5, c6⟩ := nat_form hk
  refine check_mk (sized_of hw h1 h2 (by omega)) (by rw [List.length_map, c6, ← h6, Int.natCast_mul]) fun x hx => ?_
  obtain ⟨y, hy, rfl⟩ := List.mem_map.1 hx
  exact clean_ok hw (check_ok hk y hy)

/-- two lists are one where their one patterns are -/
def SameL (wd : Int) (l L : List Int) : Prop := l.map (cleanV wd) = L.map (cleanV wd)
theorem same_two {wd : Int} (hw : wd = 32 ∨ wd = 64) (l : List Int) : SameL wd l ((l.map (cleanV wd)).map (cleanV wd)) := by
  unfold SameL
  simp only [List.map_map]
  refine List.map_congr_left fun x _ => ?_
  simp only [Function.comp_apply, clean_clean hw]
theorem tab_two {R C : Nat} {wd : Int} {l : List Int} (h : l.length = R * C) : tab2 R C (fun i j => cleanV wd (cleanV wd (l.getD (i * C + j) 0))) = (l.map (cleanV wd)).map (cleanV wd) := by
  rw [List.map_map, ← tab2_self h (cleanV wd ∘ cleanV wd)]; rfl
theorem tab_one {R C : Nat} {wd : Int} {l : List Int} (h : l.length = R * C) : tab2 R C (fun i j => cleanV wd (l.getD (i * C + j) 0)) = l.map (cleanV wd) := by
  rw [← tab2_self h (cleanV wd)]
theorem tab2_append (a b C : Nat) (F : Nat → Nat → Int) : tab2 (a + b) C F = tab2 a C F ++ tab2 b C (fun i j => F (a + i) j) := by
  unfold tab2
  rw [List.range_add, List.flatMap_append, List.flatMap_map]
theorem row_append (a b : Nat) (f : Nat → Int) : (List.range (a + b)).map f = (List.range a).map f ++ (List.range b).map (fun j => f (a + j)) := by
  rw [List.range_add, List.map_append, List.map_map]; rfl

/-! turned -/
def tL (wd : Int) (R C : Nat) (l : List Int) : List Int := tab2 C R (fun i j => cleanV wd (l.getD (j * C + i) 0))
theorem tL_check {R C : Nat} {wd : Int} {l : List Int} (hk : checkV R C wd l = 0) : checkV C R wd (tL wd R C l) = 0 := by
  obtain ⟨hw, c1, c2, c3, c4, c5, c6⟩ := nat_form hk
  exact tab_check hw c2 c1 (by rw [Nat.mul_comm]; exact c5) fun i j _ _ => clean_ok hw (getD_ok (check_ok hk) _)
theorem tL_two {R C : Nat} {wd : Int} {l : List Int} (hk : checkV R C wd l = 0) : SameL wd l (tL wd C R (tL wd R C l)) := by
  obtain ⟨hw, c1, c2, c3, c4, c5, c6⟩ := nat_form hk
  have e : tL wd C R (tL wd R C l) = tab2 R C (fun i j => cleanV wd (cleanV wd (l.getD (i * C + j) 0))) := by
    unfold tL
    refine tab2_ext fun i j hi hj => ?_
    rw [tab2_getD _ _ _ hj hi]
  rw [e, tab_two c6]
  exact same_two hw l

/-! cut and glued -/
def cL (wd : Int) (R C a n : Nat) (l : List Int) : List Int := tab2 R n (fun i j => cleanV wd (l.getD (i * C + (a + j)) 0))
def rL (wd : Int) (C a n : Nat) (l : List Int) : List Int := tab2 n C (fun i j => cleanV wd (l.getD ((a + i) * C + j) 0))
theorem cL_check {R C : Nat} {wd : Int} {l : List Int} (hk : checkV R C wd l = 0) {a n : Nat} (h1 : 1 ≤ n) (h2 : n ≤ C) : checkV R n wd (cL wd R C a n l) = 0 := by
  obtain ⟨hw, c1, c2, c3, c4, c5, c6⟩ := nat_form hk
  exact tab_check hw c1 h1 (Nat.le_trans (Nat.mul_le_mul_left R h2) c5) fun i j _ _ => clean_ok hw (getD_ok (check_ok hk) _)
theorem rL_check {R C : Nat} {wd : Int} {l : List Int} (hk : checkV R C wd l = 0) {a n : Nat} (h1 : 1 ≤ n) (h2 : n ≤ R) : checkV n C wd (rL wd C a n l) = 0 := by
  obtain ⟨hw, c1, c2, c3, c4, c5, c6⟩ := nat_form hk
  exact tab_check hw h1 c2 (Nat.le_trans (Nat.mul_le_mul_right C h2) c5) fun i j _ _ => clean_ok hw (getD_ok (check_ok hk) _)

theorem first_two {m n : Mat} (h1 : ckOf m = 0) (h2 : ckOf n = 0) : firstE [m, n] = 0 := by
  have e : firstE [m, n] = if ckOf m = 0 then (if ckOf n = 0 then 0 else ckOf n) else ckOf m := by
    simp only [firstE]
  rw [e, if_pos h1, if_pos h2]
theorem elem_two (m n : Mat) (k : Nat) : elemAt [m, n] (((0 : Nat) : Int), ((k : Nat) : Int)) = m.2.2.2.getD k 0 ∧ elemAt [m, n] (((1 : Nat) : Int), ((k : Nat) : Int)) = n.2.2.2.getD k 0 := by
  refine ⟨?_, ?_⟩
  · unfold elemAt matAt
    simp only [Int.toNat_natCast]
    rfl
  · unfold elemAt matAt
    simp only [Int.toNat_natCast]
    rfl

theorem glue_cut {R C : Nat} {wd : Int} {l : List Int} (hk : checkV R C wd l = 0) {k : Nat} (h1 : 1 ≤ k) (h2 : k < C) :
    let ms : List Mat := [((R : Int), (k : Int), wd, cL wd R C 0 k l), ((R : Int), ((C - k : Nat) : Int), wd, cL wd R C k (C - k) l)]
    jE true ms = 0 ∧ jR true ms = R ∧ jC true ms = C ∧ jW true ms = wd ∧ SameL wd l (jL true ms) ∧ checkV R C wd (jL true ms) = 0 := by
  obtain ⟨hw, c1, c2, c3, c4, c5, c6⟩ := nat_form hk
  intro ms
  have hf : firstE ms = 0 := first_two (cL_check hk h1 (by omega)) (cL_check hk (by omega) (by omega))
  have hR : glueR true (ms.map shOf) = R := rfl
  have hC : glueC true (ms.map shOf) = C := by
    show extS true (ms.map shOf) 1 = _
    show ((k : Int)) + ((C - k : Nat) : Int) = C
    omega
  have hW : glueW (ms.map shOf) = wd := rfl
  have hE : glueE true (ms.map shOf) = 0 := by
    unfold glueE
    rw [hR, hC, hW, if_neg (by simp [ms]), if_neg, if_neg, sized_of hw c1 c2 c5]
    · intro h
      obtain ⟨x, hx, hb⟩ := List.any_eq_true.1 h
      simp only [ms, List.map_cons, List.map_nil, List.mem_cons, List.not_mem_nil, or_false] at hx
      rcases hx with rfl | rfl <;> simp [badS, shOf, ms] at hb
    · intro h
      obtain ⟨x, hx, hb⟩ := List.any_eq_true.1 h
      simp only [ms, List.map_cons, List.map_nil, List.mem_cons, List.not_mem_nil, or_false] at hx
      rcases hx with rfl | rfl <;> simp [badW, shOf, ms] at hb
  obtain ⟨e0, e1, e2, e3, e4⟩ := jE_pos hf hE
  have hL : jL true ms = (l.map (cleanV wd)).map (cleanV wd) := by
    rw [e4, hW]
    have hp : glueP true (ms.map shOf) = (List.range R).flatMap fun r => segG r 0 k ++ segG r 1 (C - k) := by
      unfold glueP glueT allG rowG
      rw [hR]
      have hn : (fun i => glueN true ((ms.map shOf).getD i z3)) 0 = k := by
        show ((k : Int)).toNat = k
        omega
      have hn1 : (fun i => glueN true ((ms.map shOf).getD i z3)) 1 = C - k := by
        show (((C - k : Nat) : Int)).toNat = C - k
        omega
      simp only [if_true, Int.toNat_natCast]
      have hl2 : (ms.map shOf).length = 2 := rfl
      rw [hl2]
      have hr2 : List.range 2 = [0, 1] := rfl
      rw [hr2]
      refine congrArg (fun f => List.flatMap f (List.range R)) (funext fun r => ?_)
      simp only [List.flatMap_cons, List.flatMap_nil, List.append_nil]
      simp only at hn hn1
      rw [hn, hn1]
    rw [hp, ← tab_two c6]
    unfold tab2
    rw [List.map_flatMap]
    have hcong : ∀ r, r ∈ List.range R → (segG r 0 k ++ segG r 1 (C - k)).map (fun p => cleanV wd (elemAt ms p)) = (List.range C).map (fun j => cleanV wd (cleanV wd (l.getD (r * C + j) 0))) := by
      intro r hr
      have hr := List.mem_range.1 hr
      have hCk : C = k + (C - k) := by omega
      conv => rhs; rw [hCk, row_append]
      rw [List.map_append]
      unfold segG
      rw [List.map_map, List.map_map]
      congr 1
      · refine List.map_congr_left fun j hj => ?_
        have hj := List.mem_range.1 hj
        simp only [Function.comp_apply]
        rw [(elem_two _ _ _).1]
        show cleanV wd ((cL wd R C 0 k l).getD (r * k + j) 0) = _
        unfold cL
        rw [tab2_getD _ _ _ hr hj, Nat.zero_add, ← hCk]
      · refine List.map_congr_left fun j hj => ?_
        have hj := List.mem_range.1 hj
        simp only [Function.comp_apply]
        rw [(elem_two _ _ _).2]
        show cleanV wd ((cL wd R C k (C - k) l).getD (r * (C - k) + j) 0) = _
        unfold cL
        rw [tab2_getD _ _ _ hr hj, ← hCk]
    generalize List.range R = rs at hcong
    induction rs with
    | nil => rfl
    | cons a rs ih => simp only [List.flatMap_cons]; rw [hcong a (by simp), ih (fun i hi => hcong i (by simp [hi]))]
  refine ⟨e0, e1.trans hR, e2.trans hC, e3.trans hW, ?_, ?_⟩
  · rw [hL]; exact same_two hw l
  · rw [hL]; exact map_check (map_check hk c1 c2 rfl) c1 c2 rfl

theorem glue_cut2 {R C : Nat} {wd : Int} {l : List Int} (hk : checkV R C wd l = 0) {k : Nat} (h1 : 1 ≤ k) (h2 : k < R) :
    let ms : List Mat := [((k : Int), (C : Int), wd, rL wd C 0 k l), (((R - k : Nat) : Int), (C : Int), wd, rL wd C k (R - k) l)]
    jE false ms = 0 ∧ jR false ms = R ∧ jC false ms = C ∧ jW false ms = wd ∧ SameL wd l (jL false ms) ∧ checkV R C wd (jL false ms) = 0 := by
  obtain ⟨hw, c1, c2, c3, c4, c5, c6⟩ := nat_form hk
  intro ms
  have hf : firstE ms = 0 := first_two (rL_check hk h1 (by omega)) (rL_check hk (by omega) (by omega))
  have hC : glueC false (ms.map shOf) = C := rfl
  have hR : glueR false (ms.map shOf) = R := by
    show ((k : Int)) + ((R - k : Nat) : Int) = R
    omega
  have hW : glueW (ms.map shOf) = wd := rfl
  have hE : glueE false (ms.map shOf) = 0 := by
    unfold glueE
    rw [hR, hC, hW, if_neg (by simp [ms]), if_neg, if_neg, sized_of hw c1 c2 c5]
    · intro h
      obtain ⟨x, hx, hb⟩ := List.any_eq_true.1 h
      simp only [ms, List.map_cons, List.map_nil, List.mem_cons, List.not_mem_nil, or_false] at hx
      rcases hx with rfl | rfl <;> simp [badS, shOf, ms] at hb
    · intro h
      obtain ⟨x, hx, hb⟩ := List.any_eq_true.1 h
      simp only [ms, List.map_cons, List.map_nil, List.mem_cons, List.not_mem_nil, or_false] at hx
      rcases hx with rfl | rfl <;> simp [badW, shOf, ms] at hb
  obtain ⟨e0, e1, e2, e3, e4⟩ := jE_pos hf hE
  have hL : jL false ms = (l.map (cleanV wd)).map (cleanV wd) := by
    rw [e4, hW]
    have hp : glueP false (ms.map shOf) = segG 0 0 (k * C) ++ segG 0 1 ((R - k) * C) := by
      unfold glueP glueT allG rowG
      have hn : (fun i => glueN false ((ms.map shOf).getD i z3)) 0 = k * C := by
        show (((k : Int) * (C : Int))).toNat = k * C
        rw [← Int.natCast_mul, Int.toNat_natCast]
      have hn1 : (fun i => glueN false ((ms.map shOf).getD i z3)) 1 = (R - k) * C := by
        show ((((R - k : Nat) : Int) * (C : Int))).toNat = (R - k) * C
        rw [← Int.natCast_mul, Int.toNat_natCast]
      simp only [Bool.false_eq_true, if_false]
      have hl2 : (ms.map shOf).length = 2 := rfl
      rw [hl2]
      have hr2 : List.range 2 = [0, 1] := rfl
      have hr1 : List.range 1 = [0] := rfl
      rw [hr2, hr1]
      simp only [List.flatMap_cons, List.flatMap_nil, List.append_nil]
      simp only at hn hn1
      rw [hn, hn1]
    rw [hp, List.map_append]
    have hseg : ∀ (i : Nat) (L : List Int), (∀ q : Nat, elemAt ms (((i : Nat) : Int), ((q : Nat) : Int)) = L.getD q 0) → (segG 0 i L.length).map (fun p => cleanV wd (elemAt ms p)) = L.map (cleanV wd) := by
      intro i L h
      unfold segG
      rw [List.map_map]
      have e := tab2_self (R := 1) (C := L.length) (l := L) (by omega) (cleanV wd)
      rw [← e]
      unfold tab2
      have hr1 : List.range 1 = [0] := rfl
      rw [hr1]
      simp only [List.flatMap_cons, List.flatMap_nil, List.append_nil]
      refine List.map_congr_left fun j hj => ?_
      simp only [Function.comp_apply, h]
    have l1 : (rL wd C 0 k l).length = k * C := tab2_length _ _ _
    have l2 : (rL wd C k (R - k) l).length = (R - k) * C := tab2_length _ _ _
    have s1 := hseg 0 (rL wd C 0 k l) (fun q => (elem_two _ _ q).1)
    have s2 := hseg 1 (rL wd C k (R - k) l) (fun q => (elem_two _ _ q).2)
    rw [l1] at s1
    rw [l2] at s2
    rw [s1, s2, ← List.map_append]
    congr 1
    have e := tab2_append k (R - k) C (fun i j => cleanV wd (l.getD (i * C + j) 0))
    rw [show k + (R - k) = R by omega, tab_one c6] at e
    rw [e]
    unfold rL
    simp only [Nat.zero_add]
  refine ⟨e0, e1.trans hR, e2.trans hC, e3.trans hW, ?_, ?_⟩
  · rw [hL]; exact same_two hw l
  · rw [hL]; exact map_check (map_check hk c1 c2 rfl) c1 c2 rfl

/-! stretched and cut -/
theorem stretch_three {C : Nat} {wd : Int} {l : List Int} (hk : checkV (1 : Nat) C wd l = 0) : stretchL ((1 : Nat) : Int) (C : Int) l (cleanV wd) C 3 = tab2 3 C (fun i j => cleanV wd (l.getD j 0)) := by
  obtain ⟨hw, c1, c2, c3, c4, c5, c6⟩ := nat_form hk
  unfold stretchL
  show tab2 3 C (fun i j => cleanV wd (rd l (srcV ((1 : Nat) : Int) (C : Int) (i : Int) (j : Int)))) = _
  refine tab2_ext fun i j hi hj => ?_
  have : srcV ((1 : Nat) : Int) (C : Int) (i : Int) (j : Int) = j := by
    unfold srcV
    rw [if_pos (by omega)]
    split <;> omega
  rw [this]
  unfold rd
  rw [Int.toNat_natCast]
theorem stretch_form {C : Nat} {wd : Int} {l : List Int} (hk : checkV (1 : Nat) C wd l = 0) (h3 : 3 * C ≤ 4096) : stretchE ((1 : Nat) : Int) (C : Int) wd l 3 C = 0 := by
  obtain ⟨hw, c1, c2, c3, c4, c5, c6⟩ := nat_form hk
  unfold stretchE
  rw [if_pos hk, if_pos ⟨(fitsV_iff _ _).2 ⟨by omega, .inr rfl⟩, (fitsV_iff _ _).2 ⟨by omega, .inl rfl⟩⟩]
  exact sized_of (r := 3) hw (by omega) c2 h3
theorem stretch_check {C : Nat} {wd : Int} {l : List Int} (hk : checkV (1 : Nat) C wd l = 0) (h3 : 3 * C ≤ 4096) : checkV (3 : Nat) C wd (tab2 3 C (fun i j => cleanV wd (l.getD j 0))) = 0 := by
  obtain ⟨hw, c1, c2, c3, c4, c5, c6⟩ := nat_form hk
  exact tab_check hw (by omega) c2 h3 fun i j _ _ => clean_ok hw (getD_ok (check_ok hk) _)
theorem stretch_back {C : Nat} {wd : Int} {l : List Int} (hk : checkV (1 : Nat) C wd l = 0) :
    rL wd C 2 1 (tab2 3 C (fun i j => cleanV wd (l.getD j 0))) = (l.map (cleanV wd)).map (cleanV wd) := by
  obtain ⟨hw, c1, c2, c3, c4, c5, c6⟩ := nat_form hk
  rw [← tab_two c6]
  unfold rL
  refine tab2_ext fun i j hi hj => ?_
  rw [tab2_getD 3 C _ (by omega) hj]
  have : i = 0 := by omega
  subst this
  rw [Nat.zero_mul, Nat.zero_add]

/-! widened and narrowed -/
theorem nan_gen (f : Ieee.Format) (B T : Nat) (hB : f.binade = B) (hi : f.infRung = T * B) (hs : f.signWeight = (T + 1) * B) (hB0 : 0 < B) (hT : 1 ≤ T) (b : Nat) : (f.read b).isNaN = true ↔ (b / B % (T + 1) = T ∧ b % B ≠ 0) := by
  have hr : b % ((T + 1) * B) = b % B + B * (b / B % (T + 1)) := by rw [Nat.mul_comm, Nat.mod_mul]
  have hF : b % B < B := Nat.mod_lt _ hB0
  have hE : b / B % (T + 1) < T + 1 := Nat.mod_lt _ (by omega)
  unfold Ieee.Format.read
  simp only [hs, hB, hi]
  rw [hr]
  generalize b / B % (T + 1) = E at hE hr ⊢
  generalize b % B = F at hF hr ⊢
  by_cases hET : E = T
  · subst hET
    have h1 : B * E = E * B := Nat.mul_comm _ _
    have h2 : 1 * B ≤ E * B := Nat.mul_le_mul_right B hT
    rw [if_neg (by omega), if_neg (by omega)]
    by_cases h3 : F = 0
    · rw [if_pos (by omega)]
      constructor
      · intro h; cases h
      · intro h; exact absurd h3 h.2
    · rw [if_neg (by omega)]
      constructor
      · intro _; exact ⟨rfl, h3⟩
      · intro _; rfl
  · have h1 : B * (E + 1) ≤ B * T := Nat.mul_le_mul_left B (by omega)
    rw [Nat.mul_succ, Nat.mul_comm B T] at h1
    constructor
    · intro h
      split at h
      · cases h
      · rw [if_pos (by omega)] at h
        cases h
    · intro h; exact absurd h.1 hET
theorem kind_four (E F top : Int) : kindV E F top = 4 ↔ (E = top ∧ F ≠ 0) := by
  unfold kindV
  constructor
  · intro h
    split at h
    · assumption
    · split at h
      · exact absurd h (by decide)
      · split at h
        · split at h <;> exact absurd h (by decide)
        · exact absurd h (by decide)
  · intro h
    rw [if_pos h]
theorem nan32 {b : Nat} (hb : b < 4294967296) : (Ieee.single.read b).isNaN = true ↔ classV b 32 = 4 := by
  rw [nan_gen Ieee.single 8388608 255 (by decide) (by decide) (by decide) (by decide) (by decide), classV32, if_pos (by omega), kind_four]
  have e1 : (b : Int) / 8388608 % 256 = ((b / 8388608 % 256 : Nat) : Int) := by omega
  have e2 : (b : Int) % 8388608 = ((b % 8388608 : Nat) : Int) := by omega
  rw [e1, e2]
  generalize b / 8388608 % (255 + 1) = E
  generalize b % 8388608 = F
  constructor
  · intro h; exact ⟨by have := h.1; omega, by have := h.2; omega⟩
  · intro h; exact ⟨by have := h.1; omega, by have := h.2; omega⟩
theorem shift_div (b : Int) (B : Int) (hB : 0 < B) (x : Int) (h : x = b ∨ x = b - (4096 * B)) : x / B % 2048 = b / B % 2048 ∧ x % B = b % B := by
  rcases h with h | h
  · rw [h]; exact ⟨rfl, rfl⟩
  · rw [h]
    have e1 : (b - 4096 * B) / B = b / B - 4096 := Int.sub_mul_ediv_right b 4096 (by omega)
    have e2 : (b - 4096 * B) % B = b % B := Int.sub_mul_emod_self_right b 4096 B
    rw [e1, e2]
    exact ⟨by omega, rfl⟩
theorem wrap_two (b : Nat) (hb : b < 18446744073709551616) : wrap64 (b : Int) = b ∨ wrap64 (b : Int) = (b : Int) - 4096 * 4503599627370496 := by
  unfold wrap64; omega
theorem nan64 {b : Nat} (hb : b < 18446744073709551616) : (Ieee.double.read b).isNaN = true ↔ classV (wrap64 b) 64 = 4 := by
  rw [nan_gen Ieee.double 4503599627370496 2047 (by decide) (by decide) (by decide) (by decide) (by decide), classV64, kind_four]
  obtain ⟨e1, e2⟩ := shift_div (b : Int) 4503599627370496 (by decide) (wrap64 b) (wrap_two b hb)
  rw [e1, e2]
  have e3 : ((b : Int) / 4503599627370496) = ((b / 4503599627370496 : Nat) : Int) := by rw [Int.natCast_ediv]; rfl
  have e4 : ((b : Int) % 4503599627370496) = ((b % 4503599627370496 : Nat) : Int) := by rw [Int.natCast_emod]; rfl
  rw [e3, e4]
  generalize b / 4503599627370496 = E
  generalize b % 4503599627370496 = F
  constructor
  · intro h; exact ⟨by have := h.1; omega, by have := h.2; omega⟩
  · intro h; exact ⟨by have := h.1; omega, by have := h.2; omega⟩
theorem clean_up {b : Nat} (hb : b < 4294967296) : cleanV 64 (up b) = up b := by
  rw [cleanV_eq _ 64 (.inr rfl)]
  unfold up
  split
  · split
    · rw [if_neg (by decide)]
    · rfl
  · rename_i h
    have h0 : (Ieee.single.read b).isNaN = false := by cases e : (Ieee.single.read b).isNaN with | false => rfl | true => exact absurd e h
    have h1 := (wid_ok hb h0).2.2
    rw [if_neg]
    intro h2
    rw [(nan64 (wid_lt b)).2 h2] at h1
    cases h1
theorem clean_canon {b : Nat} (hb : b < 4294967296) : cleanV 32 (canon32 b) = cleanV 32 b := by
  unfold canon32
  split
  · rename_i h
    rw [cleanV_eq _ 32 (.inl rfl), cleanV_eq (b : Int) 32 (.inl rfl), if_pos ((nan32 hb).1 h), if_pos rfl, ite_self]
  · rfl
theorem ok_nat {x : Int} (h : okV 32 x) : ∃ b : Nat, b < 4294967296 ∧ x = b := by
  refine ⟨x.toNat, ?_, ?_⟩ <;>
  · by_cases h0 : x < 0
    · exact absurd ⟨rfl, by simp [badB, h0]⟩ h
    · by_cases h1 : x > 4294967295
      · exact absurd ⟨rfl, by simp [badB, h1]⟩ h
      · omega
def upL (l : List Int) : List Int := l.map fun x => up x.toNat
def dnL (l : List Int) : List Int := l.map fun x => canon32 x.toNat
theorem upL_clean {l : List Int} (h : ∀ x ∈ l, okV 32 x) : (upL l).map (cleanV 64) = upL l := by
  unfold upL
  rw [List.map_map]
  refine List.map_congr_left fun x hx => ?_
  obtain ⟨b, hb, rfl⟩ := ok_nat (h x hx)
  simp only [Function.comp_apply, Int.toNat_natCast]
  exact clean_up hb
theorem dnL_same {l : List Int} (h : ∀ x ∈ l, okV 32 x) : SameL 32 l ((dnL l).map (cleanV 32)) := by
  unfold SameL dnL
  simp only [List.map_map]
  refine List.map_congr_left fun x hx => ?_
  obtain ⟨b, hb, rfl⟩ := ok_nat (h x hx)
  simp only [Function.comp_apply, Int.toNat_natCast]
  rw [clean_clean (.inl rfl), clean_canon hb]
theorem ok64 (x : Int) : okV 64 x := fun h => by have := h.1; omega
theorem upL_check {R C : Nat} {l : List Int} (hk : checkV R C 32 l = 0) : checkV R C 64 (upL l) = 0 := by
  obtain ⟨hw, c1, c2, c3, c4, c5, c6⟩ := nat_form hk
  exact check_mk (sized_of (.inr rfl) c1 c2 c5) (by unfold upL; rw [List.length_map, c6, Int.natCast_mul]) fun x _ => ok64 x
theorem dnL_check {R C : Nat} {l : List Int} (hk : checkV R C 32 l = 0) : checkV R C 32 ((dnL l).map (cleanV 32)) = 0 := by
  obtain ⟨hw, c1, c2, c3, c4, c5, c6⟩ := nat_form hk
  refine check_mk (sized_of (.inl rfl) c1 c2 c5) (by unfold dnL; rw [List.length_map, List.length_map, c6, Int.natCast_mul]) fun x hx => ?_
  unfold dnL at hx
  rw [List.map_map] at hx
  obtain ⟨y, hy, rfl⟩ := List.mem_map.1 hx
  obtain ⟨b, hb, rfl⟩ := ok_nat (check_ok hk y hy)
  simp only [Function.comp_apply, Int.toNat_natCast]
  rw [clean_canon hb]
  exact clean_ok (.inl rfl) (check_ok hk _ hy)
end Bk
end Go.Proofs.Ytklomikdihlcgaa
