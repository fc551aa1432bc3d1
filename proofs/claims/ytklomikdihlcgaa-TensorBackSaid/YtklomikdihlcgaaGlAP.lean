/- What joining matrices answers, in plain Lean. -/
import Derived.Test.YtklomikdihlcgaaGlueW
import Derived.Test.YtklomikdihlcgaaCheckP
import Derived.Test.YtklomikdihlcgaaMoved
import Derived.Test.YtklomikdihlcgaaAlive7
namespace Go.Proofs.Ytklomikdihlcgaa
open Go.RowKit PBase
open Go.Proofs.YtklomikdihlcgaaW.PrintWords Go.Proofs.YtklomikdihlcgaaW.PrintLast Go.Proofs.YtklomikdihlcgaaW.PrintMore
set_option linter.unusedVariables false

abbrev z4 : Mat := (0, 0, 0, [])
/-- a matrix' own error -/
def ckOf (m : Mat) : Int := checkV m.1 m.2.1 m.2.2.1 m.2.2.2
def shOf (m : Mat) : Shp := (m.1, m.2.1, m.2.2.1)
/-- the first error -/
def firstE : List Mat → Int
  | [] => 0
  | m :: ms => if ckOf m = 0 then firstE ms else ckOf m
theorem firstE_snoc (ms : List Mat) (m : Mat) : firstE (ms ++ [m]) = if firstE ms = 0 then ckOf m else firstE ms := by
  induction ms with
  | nil => simp only [List.nil_append, firstE, if_true]; split <;> simp_all
  | cons x xs ih =>
    rw [List.cons_append, firstE, firstE, ih]
    by_cases h : ckOf x = 0
    · rw [if_pos h, if_pos h]
    · rw [if_neg h, if_neg h, if_neg h]
theorem firstE_zero : ∀ {ms : List Mat}, firstE ms = 0 → ∀ m ∈ ms, ckOf m = 0
  | [], _, m, hm => by cases hm
  | x :: xs, h, m, hm => by
    rw [firstE] at h
    by_cases hx : ckOf x = 0
    · rw [if_pos hx] at h
      rcases List.mem_cons.1 hm with rfl | hm
      · exact hx
      · exact firstE_zero h m hm
    · rw [if_neg hx] at h
      exact absurd h hx
theorem firstE_app {xs ys : List Mat} (h : firstE xs ≠ 0) : firstE (xs ++ ys) = firstE xs := by
  induction xs with
  | nil => exact absurd rfl h
  | cons x xs ih =>
    rw [List.cons_append, firstE, firstE]
    rw [firstE] at h
    by_cases hx : ckOf x = 0
    · rw [if_pos hx] at h ⊢; rw [if_pos hx]; exact ih h
    · rw [if_neg hx, if_neg hx]
/-- the row goes wrong at i first -/
theorem firstE_at {ms : List Mat} {i : Nat} (hi : i < ms.length) (h0 : firstE (ms.take i) = 0) (h1 : ckOf ms[i] ≠ 0) : firstE ms = ckOf ms[i] := by
  have h2 : firstE (ms.take (i + 1)) = ckOf ms[i] := by rw [List.take_succ_eq_append_getElem hi, firstE_snoc, if_pos h0]
  have h3 := firstE_app (xs := ms.take (i + 1)) (ys := ms.drop (i + 1)) (by rw [h2]; exact h1)
  rw [List.take_append_drop] at h3
  rw [h3, h2]
theorem firstE_next {ms : List Mat} {i : Nat} (hi : i < ms.length) : firstE (ms.take (i + 1)) = if firstE (ms.take i) = 0 then ckOf ms[i] else firstE (ms.take i) := by
  rw [List.take_succ_eq_append_getElem hi, firstE_snoc]
theorem shs_next {ms : List Mat} {i : Nat} (hi : i < ms.length) : (ms.take (i + 1)).map shOf = (ms.take i).map shOf ++ [shOf ms[i]] := by
  rw [List.take_succ_eq_append_getElem hi, List.map_append]; rfl

theorem shs_ok {ms : List Mat} (h : firstE ms = 0) : ∀ x ∈ ms.map shOf, ShOk x := by
  intro x hx
  obtain ⟨m, hm, rfl⟩ := List.mem_map.1 hx
  obtain ⟨c0, c1, c2, c3, c4, c5, c6, c7⟩ := check_form (firstE_zero h m hm)
  exact ⟨c1, c3, c2, c4, c5⟩

theorem shs_getD (ms : List Mat) (i : Nat) : (ms.map shOf).getD i z3 = shOf (ms.getD i z4) := by
  rw [List.getD_eq_getElem?_getD, List.getD_eq_getElem?_getD, List.getElem?_map]
  cases ms[i]? <;> rfl

theorem any_false {α : Type} {p : α → Bool} {l : List α} (h : ¬ l.any p = true) {i : Nat} {z : α} (hi : i < l.length) : p (l.getD i z) = false := by
  rw [List.getD_eq_getElem?_getD, List.getElem?_eq_getElem hi]
  cases hp : p l[i] with
  | false => exact hp
  | true => exact absurd (List.any_eq_true.2 ⟨_, List.getElem_mem hi, hp⟩) h

theorem mem_allG {N : Nat → Nat} {R m : Nat} {p : Int × Int} (h : p ∈ allG N R m) : ∃ r i k, r < R ∧ i < m ∧ k < N i ∧ p = ((i : Int), ((r * N i + k : Nat) : Int)) := by
  simp only [allG, rowG, segG, List.mem_flatMap, List.mem_range, List.mem_map] at h
  obtain ⟨r, hr, i, hi, k, hk, rfl⟩ := h
  exact ⟨r, i, k, hr, hi, hk, rfl⟩

theorem glueP_in {side : Bool} {ms : List Mat} (h : firstE ms = 0) (hE : glueE side (ms.map shOf) = 0) : ∀ p ∈ glueP side (ms.map shOf), inMs ms p := by
  intro p hp
  unfold glueP at hp
  obtain ⟨r, i, k, hr, hi, hk, rfl⟩ := mem_allG hp
  rw [List.length_map] at hi
  rw [shs_getD] at hk ⊢
  have hm : matAt ms ((i : Nat) : Int) = ms.getD i z4 := by unfold matAt; rw [Int.toNat_natCast]
  have hck : ckOf (ms.getD i z4) = 0 := by
    rw [List.getD_eq_getElem?_getD, List.getElem?_eq_getElem hi]
    exact firstE_zero h _ (List.getElem_mem hi)
  refine ⟨by simp, by simpa using hi, by simp only []; omega, ?_⟩
  show _ < ((matAt ms ((i : Nat) : Int)).2.2.2.length : Int)
  rw [hm]
  generalize hM : ms.getD i z4 = M at hck hk ⊢
  obtain ⟨c0, c1, c2, c3, c4, c5, c6, c7⟩ := check_form hck
  show ((r * glueN side (shOf M) + k : Nat) : Int) < (M.2.2.2.length : Int)
  rw [c6]
  unfold glueE at hE
  have hn0 : ¬ (ms.map shOf).length = 0 := by rw [List.length_map]; omega
  rw [if_neg hn0] at hE
  split at hE
  · exact absurd hE (by decide)
  · split at hE
    · exact absurd hE (by decide)
    · rename_i hbS
      have hb := any_false (z := z3) hbS (i := i) (by rw [List.length_map]; exact hi)
      rw [shs_getD, hM] at hb
      cases side with
      | true =>
        have hb' : (M.1 != ((ms.map shOf).getD 0 z3).1) = false := hb
        have hk' : k < M.2.1.toNat := hk
        have hr' : r < (((ms.map shOf).getD 0 z3).1).toNat := hr
        have hq : M.1 = ((ms.map shOf).getD 0 z3).1 := by simpa using hb'
        rw [← hq] at hr'
        show ((r * M.2.1.toNat + k : Nat) : Int) < M.1 * M.2.1
        obtain ⟨a, ha⟩ := Int.eq_ofNat_of_zero_le (show 0 ≤ M.1 by omega)
        obtain ⟨b, hb2⟩ := Int.eq_ofNat_of_zero_le (show 0 ≤ M.2.1 by omega)
        rw [ha] at hr' ⊢
        rw [hb2] at hk' ⊢
        rw [Int.toNat_natCast] at hr' hk'
        rw [← Int.natCast_mul, Int.toNat_natCast]
        have h2 : (r + 1) * b ≤ a * b := Nat.mul_le_mul_right b hr'
        have h3 : (r + 1) * b = r * b + b := by rw [Nat.add_mul, Nat.one_mul]
        omega
      | false =>
        have hk' : k < (M.1 * M.2.1).toNat := hk
        have hr' : r < 1 := hr
        have : r = 0 := by omega
        subst this
        rw [Nat.zero_mul, Nat.zero_add]
        omega

/-- what joining answers -/
def jE (side : Bool) (ms : List Mat) : Int := if firstE ms = 0 then glueE side (ms.map shOf) else firstE ms
def jR (side : Bool) (ms : List Mat) : Int := if jE side ms = 0 then glueR side (ms.map shOf) else 0
def jC (side : Bool) (ms : List Mat) : Int := if jE side ms = 0 then glueC side (ms.map shOf) else 0
def jW (side : Bool) (ms : List Mat) : Int := if jE side ms = 0 then glueW (ms.map shOf) else 0
def jL (side : Bool) (ms : List Mat) : List Int := if jE side ms = 0 then (glueP side (ms.map shOf)).map (fun p => cleanV (glueW (ms.map shOf)) (elemAt ms p)) else []

theorem jE_pos {side : Bool} {ms : List Mat} (h : firstE ms = 0) (hE : glueE side (ms.map shOf) = 0) : jE side ms = 0 ∧ jR side ms = glueR side (ms.map shOf) ∧ jC side ms = glueC side (ms.map shOf) ∧ jW side ms = glueW (ms.map shOf) ∧ jL side ms = (glueP side (ms.map shOf)).map (fun p => cleanV (glueW (ms.map shOf)) (elemAt ms p)) := by
  have h0 : jE side ms = 0 := by unfold jE; rw [if_pos h, hE]
  refine ⟨h0, ?_, ?_, ?_, ?_⟩
  · unfold jR; rw [if_pos h0]
  · unfold jC; rw [if_pos h0]
  · unfold jW; rw [if_pos h0]
  · unfold jL; rw [if_pos h0]
theorem jE_neg {side : Bool} {ms : List Mat} {x : Int} (h : jE side ms = x) (hx : x ≠ 0) : jR side ms = 0 ∧ jC side ms = 0 ∧ jW side ms = 0 ∧ jL side ms = [] := by
  have h0 : ¬ jE side ms = 0 := by rw [h]; exact hx
  refine ⟨?_, ?_, ?_, ?_⟩
  · unfold jR; rw [if_neg h0]
  · unfold jC; rw [if_neg h0]
  · unfold jW; rw [if_neg h0]
  · unfold jL; rw [if_neg h0]
/-- the width, where all is in form -/
theorem glueW_ok {ms : List Mat} (h : firstE ms = 0) (h0 : 0 < ms.length) : glueW (ms.map shOf) = 32 ∨ glueW (ms.map shOf) = 64 := by
  unfold glueW
  rw [shs_getD]
  have hck : ckOf (ms.getD 0 z4) = 0 := by
    rw [List.getD_eq_getElem?_getD, List.getElem?_eq_getElem h0]
    exact firstE_zero h _ (List.getElem_mem h0)
  exact (check_form hck).1

def sumN (N : Nat → Nat) : Nat → Nat
  | 0 => 0
  | m + 1 => sumN N m + N m
theorem rowG_sum (N : Nat → Nat) (r : Nat) : ∀ m, (rowG N r m).length = sumN N m
  | 0 => by simp [rowG, sumN]
  | m + 1 => by rw [rowG_succ, List.length_append, segG_len, rowG_sum N r m, sumN]
theorem allG_sum (N : Nat → Nat) (m : Nat) : ∀ R, (allG N R m).length = R * sumN N m
  | 0 => by simp [allG]
  | R + 1 => by rw [allG_succ, List.length_append, rowG_sum, allG_sum N m R, Nat.add_mul, Nat.one_mul]
theorem sum_cols {ss : List Shp} (h : ∀ x ∈ ss, ShOk x) : ∀ j, j < ss.length → (sumN (fun i => glueN true (ss.getD i z3)) (j + 1) : Int) = extS true ss j
  | 0, hj => by
    have := (getD_ok h hj).c1
    show ((0 + ((ss.getD 0 z3).2.1).toNat : Nat) : Int) = (ss.getD 0 z3).2.1
    omega
  | j + 1, hj => by
    have ih := sum_cols h j (by omega)
    have := (getD_ok h hj).c1
    show ((sumN (fun i => glueN true (ss.getD i z3)) (j + 1) + ((ss.getD (j + 1) z3).2.1).toNat : Nat) : Int) = extS true ss j + (ss.getD (j + 1) z3).2.1
    omega
theorem sum_rows {ss : List Shp} {c : Int} (h : ∀ x ∈ ss, ShOk x) (hc : ∀ i, i < ss.length → (ss.getD i z3).2.1 = c) : ∀ j, j < ss.length → (sumN (fun i => glueN false (ss.getD i z3)) (j + 1) : Int) = extS false ss j * c
  | 0, hj => by
    have h1 := getD_ok h hj
    have h2 : 1 * 1 ≤ (ss.getD 0 z3).1 * (ss.getD 0 z3).2.1 := Int.mul_le_mul h1.r1 h1.c1 (by decide) (by have := h1.r1; omega)
    show ((0 + ((ss.getD 0 z3).1 * (ss.getD 0 z3).2.1).toNat : Nat) : Int) = (ss.getD 0 z3).1 * c
    rw [← hc 0 hj]
    omega
  | j + 1, hj => by
    have ih := sum_rows h hc j (by omega)
    have h1 := getD_ok h hj
    have h2 : 1 * 1 ≤ (ss.getD (j + 1) z3).1 * (ss.getD (j + 1) z3).2.1 := Int.mul_le_mul h1.r1 h1.c1 (by decide) (by have := h1.r1; omega)
    show ((sumN (fun i => glueN false (ss.getD i z3)) (j + 1) + ((ss.getD (j + 1) z3).1 * (ss.getD (j + 1) z3).2.1).toNat : Nat) : Int) = (extS false ss j + (ss.getD (j + 1) z3).1) * c
    rw [Int.add_mul, ← ih]
    rw [hc (j + 1) hj] at h2 ⊢
    omega

theorem glueP_len {side : Bool} {ms : List Mat} (h : firstE ms = 0) (hE : glueE side (ms.map shOf) = 0) : (glueP side (ms.map shOf)).length ≤ 1000000 := by
  have hok := shs_ok h
  generalize ms.map shOf = ss at hE hok ⊢
  unfold glueE at hE
  split at hE
  · exact absurd hE (by decide)
  rename_i hn0
  split at hE
  · exact absurd hE (by decide)
  split at hE
  · exact absurd hE (by decide)
  rename_i hbS
  have hz := sized_ok hE
  unfold glueP
  rw [allG_sum]
  obtain ⟨j, hj⟩ : ∃ j, ss.length = j + 1 := ⟨ss.length - 1, by omega⟩
  cases side with
  | true =>
    have h1 := sum_cols hok j (by omega)
    rw [hj]
    have hr : (glueT true ss : Int) = glueR true ss := by
      show (((glueR true ss).toNat : Nat) : Int) = _
      omega
    have hc : extS true ss j = glueC true ss := by
      show _ = extS true ss (ss.length - 1)
      rw [hj]; rfl
    have : ((glueT true ss * sumN (fun i => glueN true (ss.getD i z3)) (j + 1) : Nat) : Int) = glueR true ss * glueC true ss := by rw [Int.natCast_mul, h1, hr, hc]
    omega
  | false =>
    have hcs : ∀ i, i < ss.length → (ss.getD i z3).2.1 = (ss.getD 0 z3).2.1 := fun i hi => by
      have hb := any_false (z := z3) hbS hi
      have hb' : ((ss.getD i z3).2.1 != (ss.getD 0 z3).2.1) = false := hb
      simpa using hb'
    have h1 := sum_rows hok hcs j (by omega)
    rw [hj]
    have hc : extS false ss j = glueR false ss := by
      show _ = extS false ss (ss.length - 1)
      rw [hj]; rfl
    have : ((glueT false ss * sumN (fun i => glueN false (ss.getD i z3)) (j + 1) : Nat) : Int) = glueR false ss * glueC false ss := by
      show (((1 : Nat) * sumN (fun i => glueN false (ss.getD i z3)) (j + 1) : Nat) : Int) = _
      rw [Nat.one_mul, h1, hc]; rfl
    omega

/-- a matrix of a row that is read: its four cells -/
theorem mat_cells4 {w : World} {A : Option Addr} {ms : List Mat} (hM : matK.C w A ms.length ms) (i : Nat) (hi : i < ms.length) :
    ∃ ad E c, A = some ad ∧ w.cell? (ad.add (i * 4)) = some (.int .i64 (ms[i]).1) ∧ w.cell? ⟨(ad.add (i * 4)).block, (ad.add (i * 4)).off + 1, none⟩ = some (.int .i64 (ms[i]).2.1) ∧ w.cell? ⟨(ad.add (i * 4)).block, (ad.add (i * 4)).off + 2, none⟩ = some (.int .i64 (ms[i]).2.2.1) ∧ w.cell? ⟨(ad.add (i * 4)).block, (ad.add (i * 4)).off + 3, none⟩ = some (.slice E (ms[i]).2.2.2.length c) ∧ (ms[i]).2.2.2.length ≤ c ∧ (Kd.int .i64).C w E (ms[i]).2.2.2.length (ms[i]).2.2.2 := by
  obtain ⟨ad, c, h1, h2, h3, h4⟩ := Kd.C_get hM (0, 0, 0, []) (i : Int) (by omega) (by omega)
  have hpe : ms.getD i (0, 0, 0, []) = ms[i] := by simp [List.getD_eq_getElem?_getD, hi]
  rw [Int.toNat_natCast, hpe] at h3
  obtain ⟨c0, c1, rfl, e0, c2, c3, rfl, e1, c4, c5, rfl, e2, E, cE, rfl, hle, hC⟩ := h3
  have e0' : c0 = [.int .i64 _] := e0
  have e1' : c2 = [.int .i64 _] := e1
  have e2' : c4 = [.int .i64 _] := e2
  subst e0' e1' e2'
  refine ⟨ad, E, cE, h1, h4 0 _ rfl, ?_, ?_, ?_, hle, hC⟩
  · rw [← add_succ]; exact h4 1 _ rfl
  · have h := h4 2 _ rfl
    have e : ad.add (i * 4 + 2) = ⟨(ad.add (i * 4)).block, (ad.add (i * 4)).off + 2, none⟩ := by
      unfold Addr.add
      by_cases h : i * 4 = 0
      · simp [h]
      · simp [h]; omega
    rw [← e]; exact h
  · rw [← add_three]; exact h4 3 _ rfl

end Go.Proofs.Ytklomikdihlcgaa
