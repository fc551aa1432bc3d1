/- state.fits: what it answers, plainly; the fuel is always enough. -/
import Derived.Test.YtmiljlbbacbbpaaPBasestatefits
import Derived.Test.YtmiljlbbacbbpaaNum
namespace Go.Proofs.Ytmiljlbbacbbpaa
open Go.RowKit PBase
open Go.Proofs.YtmiljlbbacbbpaaW.PrintWords Go.Proofs.YtmiljlbbacbbpaaW.PrintLast Go.Proofs.YtmiljlbbacbbpaaW.PrintMore
set_option linter.unusedVariables false
set_option linter.unusedSimpArgs false

def fitsV (x : S56) : Bool := decide (x.f2 = 32 ∨ x.f2 = 64) && decide (1 ≤ x.f0) && decide (1 ≤ x.f1) && decide (x.f0 ≤ 4096) && decide (x.f1 ≤ 4096 / x.f0) && decide ((x.f3.length : Int) = x.f0 * x.f1) && x.f3.all (fun y => finV y x.f2)

theorem rd_at (l : List Int) (i : Nat) (h : i < l.length) : rd l (i : Int) = l[i] := by
  simp [rd, List.getD_eq_getElem?_getD, h]
theorem fits_loop (l : List Int) (hl : l.length ≤ 100000) (w a b : Int) (d : List Int) : ∀ (n i k : Nat), i + n = l.length → n < k →
    state_fits.l0 k l (l.length : Int) (i : Int) a b w d = some ((l.drop i).all (fun y => finV y w))
  | 0, i, k + 1, h, hk => by
    unfold state_fits.l0
    rw [if_neg (by omega), List.drop_eq_nil_of_le (by omega)]
    rfl
  | n + 1, i, k + 1, h, hk => by
    unfold state_fits.l0
    rw [if_pos (by omega), if_pos (by omega), if_pos (by omega), rd_at l i (by omega)]
    have hf : state_finite.f l[i] w = some (finV l[i] w) := rfl
    rw [hf, Option.bind_some, List.drop_eq_getElem_cons (show i < l.length by omega), List.all_cons]
    cases finV l[i] w with
    | false => rw [if_neg (by decide)]; rfl
    | true =>
      rw [if_pos rfl, show wrap64 ((i : Int) + 1) = ((i + 1 : Nat) : Int) by unfold wrap64; omega, fits_loop l hl w a b d n (i + 1) k (by omega) (by omega)]
      rfl
theorem fits_j (k : Nat) (q : Bool) (a b w : Int) (l : List Int) (hl : q = false → l.length ≤ 100000 ∧ l.length < k) :
    state_fits.j0 (k + 1) q a b w l = some (!q && l.all (fun y => finV y w)) := by
  cases q with
  | true => rfl
  | false =>
    obtain ⟨h1, h2⟩ := hl rfl
    show (if false = true then (some false) else (state_fits.l0 k l (l.length : Int) 0 a b w l)) = _
    rw [if_neg (by decide)]
    have := fits_loop l h1 w a b l l.length 0 k (by omega) h2
    rw [List.drop_zero] at this
    simpa using this
theorem fits_all (r c w : Int) (l : List Int) : state_fits.f 5000 r c w l = some (fitsV ⟨r, c, w, l⟩) := by
  have hj : ∀ q : Bool, (q = false → l.length ≤ 4096) → state_fits.j0 5000 q r c w l = some (!q && l.all (fun y => finV y w)) := fun q hq => fits_j 4999 q r c w l (fun h => by have := hq h; omega)
  have h1 := hj true (by simp)
  unfold state_fits.f fitsV
  simp only [h1]
  by_cases a1 : r < 1
  · simp only [if_pos a1]
    have e : decide (1 ≤ r) = false := decide_eq_false (by omega)
    simp [e]
  simp only [if_neg a1]
  by_cases a2 : c < 1
  · simp only [if_pos a2]
    have e : decide (1 ≤ c) = false := decide_eq_false (by omega)
    simp [e]
  simp only [if_neg a2]
  by_cases a3 : r > 4096
  · simp only [if_pos a3]
    have e : decide (r ≤ 4096) = false := decide_eq_false (by omega)
    simp [e]
  simp only [if_neg a3, if_neg (show ¬ r = 0 by omega), wrap_quo r (by omega : 1 ≤ r)]
  by_cases a4 : c > 4096 / r
  · simp only [if_pos a4]
    have e : decide (c ≤ 4096 / r) = false := decide_eq_false (by omega)
    simp [e]
  have hrc : r * c ≤ 4096 := by
    have h1 : r * c ≤ r * (4096 / r) := Int.mul_le_mul_of_nonneg_left (by omega) (by omega)
    have h2 : r * (4096 / r) ≤ 4096 := Int.mul_ediv_self_le (by omega)
    omega
  have hrc0 : 0 < r * c := Int.mul_pos (by omega) (by omega)
  have hw : wrap64 (r * c) = r * c := by unfold wrap64; omega
  simp only [if_neg a4, hw]
  have h2 := hj ((l.length : Int) != r * c) (by intro h; have : (l.length : Int) = r * c := by simpa using h
                                                omega)
  rw [h2]
  have e1 : decide (1 ≤ r) = true := decide_eq_true (by omega)
  have e2 : decide (1 ≤ c) = true := decide_eq_true (by omega)
  have e3 : decide (r ≤ 4096) = true := decide_eq_true (by omega)
  have e4 : decide (c ≤ 4096 / r) = true := decide_eq_true (by omega)
  have e5 : (!((l.length : Int) != r * c)) = decide ((l.length : Int) = r * c) := by
    by_cases hq : (l.length : Int) = r * c
    · simp [hq]
    · rw [decide_eq_false hq, show ((l.length : Int) != r * c) = true from bne_iff_ne.mpr hq]; rfl
  simp only [e1, e2, e3, e4, e5]
  by_cases b1 : w = 32
  · rw [if_pos b1]; simp [b1]
  · rw [if_neg b1]
    by_cases b2 : w = 64
    · rw [if_pos b2]; simp [b2]
    · rw [if_neg b2]; simp [b1, b2]
theorem fits_calls (x : S56) (A : Option Addr) (c : Nat) (w : World) (hr : (Kd.int .i64).C w A x.f3.length x.f3) (hc : x.f3.length ≤ c) :
    Calls Try.prog 33 #[.agg #[.int .i64 x.f0, .int .i64 x.f1, .int .i64 x.f2, .slice A x.f3.length c]] w fun e w' => e = .returned (.bool (fitsV x)) ∧ Below w.heap.size w w' :=
  state_fits.calls 5000 x.f0 x.f1 x.f2 A c x.f3 _ w hr hc (fits_all x.f0 x.f1 x.f2 x.f3)
end Go.Proofs.Ytmiljlbbacbbpaa
