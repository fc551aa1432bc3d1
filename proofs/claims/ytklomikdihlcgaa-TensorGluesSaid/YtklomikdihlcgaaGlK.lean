/- Rows of lent matrices: each has one element more behind its last. -/
import Derived.Test.YtklomikdihlcgaaGlAW
import Derived.Test.YtklomikdihlcgaaLent
import Derived.Test.YtklomikdihlcgaaStays
namespace Go.Proofs.Ytklomikdihlcgaa
open Go.RowKit PBase
open Go.Proofs.YtklomikdihlcgaaW.PrintWords Go.Proofs.YtklomikdihlcgaaW.PrintLast Go.Proofs.YtklomikdihlcgaaW.PrintMore
set_option linter.unusedVariables false

/-- a row of ints, with -71 behind it, within its capacity -/
def lentS : Kd (List Int) where
  sz := 1
  E := [3]
  K := fun w xs cs => ∃ A c, cs = [.slice A xs.length c] ∧ xs.length + 1 ≤ c ∧ (Kd.int .i64).C w A (xs.length + 1) (xs ++ [-71])
  M := fun w base ok xs cs => ∃ A c, cs = [.slice A xs.length c] ∧ xs.length + 1 ≤ c ∧ (Kd.int .i64).R 3 w base ok (.slice A (xs.length + 1) c) (xs ++ [-71])
  K_len := by
    rintro w x cs ⟨A, c, rfl, _⟩
    rfl
  K_one := by
    rintro w x cs ⟨A, c, rfl, _⟩ u hu
    rw [List.mem_singleton.1 hu]
    rfl
  K_below := by
    rintro w w1 x cs hb ⟨A, c, rfl, hl, hr⟩
    exact ⟨A, c, rfl, hl, Kd.C_below hr hb⟩
  K_of_M := by
    rintro w base ok x cs ⟨A, c, rfl, hl, h⟩
    obtain ⟨A', c', he, _, hr⟩ := Kd.R_reads h
    injection he with h1 h2 h3
    subst h1 h3
    rw [← h2] at hr
    exact ⟨_, _, rfl, hl, hr⟩
  M_mono := by
    rintro w base ok ok' x cs hok ⟨A, c, rfl, hl, h⟩
    exact ⟨A, c, rfl, hl, Kd.R_mono h hok⟩
  M_bound := by
    rintro w base ok x cs ⟨A, c, rfl, hl, h⟩
    exact ⟨A, c, rfl, hl, Kd.R_bound h⟩
  M_move := by
    rintro w w1 base ok x cs hm ⟨A, c, rfl, hl, h⟩
    exact ⟨A, c, rfl, hl, Kd.R_move h hm⟩
  M_lower := by
    rintro w base base' ok x cs hb ⟨A, c, rfl, hl, h⟩
    exact ⟨A, c, rfl, hl, Kd.R_lower h hb⟩
abbrev lentK : Kd Mat := Kd.pair (Kd.int .i64) (Kd.pair (Kd.int .i64) (Kd.pair (Kd.int .i64) lentS))

theorem C_cut {w : World} {A : Option Addr} {l : List Int} {x : Int} (h : (Kd.int .i64).C w A (l.length + 1) (l ++ [x])) : (Kd.int .i64).C w A l.length l := by
  obtain ⟨h1, h2, h3⟩ := h
  refine ⟨rfl, by omega, fun hp => ?_⟩
  obtain ⟨ad, hA, hc⟩ := h3 (by omega)
  exact ⟨ad, hA, fun j p hj => hc j p (by rw [List.getElem?_append_left (by exact (List.getElem?_eq_some_iff.1 hj).1)]; exact hj)⟩
/-- a lent row is a row -/
theorem lent_C {w : World} {A : Option Addr} {n : Nat} {ms : List Mat} (h : lentK.C w A n ms) : matK.C w A n ms :=
  ReadsRow.imp_ h (Below.refl _ _) (by
    rintro x cs ⟨c0, c1, rfl, k0, c2, c3, rfl, k1, c4, c5, rfl, k2, E, c, rfl, hl, hC⟩
    exact ⟨c0, _, rfl, k0, c2, _, rfl, k1, c4, _, rfl, k2, E, c, rfl, by omega, C_cut hC⟩)

/-- a row's growing leaves one of other types -/
theorem R_grown_types {α β : Type} {d1 : Kd α} {d2 : Kd β} {e1 e2 : Nat} {w w1 : World} {b1 b2 : Nat} {ok1 ok2 : Nat → Prop} {v1 v2 : Value} {xs : List α} {ys : List β} (h : d1.R e1 w b1 ok1 v1 xs) (h2 : d2.R e2 w b2 ok2 v2 ys) (hne : ∀ q, q ∈ e1 :: d1.E → q ≠ e2) (hg : w.grownBy w1 v2.ownBlock) : d1.R e1 w1 b1 ok1 v1 xs := by
  obtain ⟨inner, ho⟩ := Kd.R_own h2
  exact Kd.R_mono (Kd.R_grown (Kd.R_bound h) hg (by
    rintro k ⟨_, _, _, q, hq, cells, hc⟩ hk
    obtain ⟨cells', hc'⟩ := own_typed ho k hk.symm
    rw [hc] at hc'
    injection hc' with hc'
    injection hc' with _ hc'
    exact hne q hq hc')) (fun _ hk => hk.1)
/-- a matrix of a lent row that is read: its four cells -/
theorem lent_cells4 {w : World} {A : Option Addr} {ms : List Mat} (hM : lentK.C w A ms.length ms) (i : Nat) (hi : i < ms.length) :
    ∃ ad E c, A = some ad ∧ w.cell? (ad.add (i * 4)) = some (.int .i64 (ms[i]).1) ∧ w.cell? ⟨(ad.add (i * 4)).block, (ad.add (i * 4)).off + 1, none⟩ = some (.int .i64 (ms[i]).2.1) ∧ w.cell? ⟨(ad.add (i * 4)).block, (ad.add (i * 4)).off + 2, none⟩ = some (.int .i64 (ms[i]).2.2.1) ∧ w.cell? ⟨(ad.add (i * 4)).block, (ad.add (i * 4)).off + 3, none⟩ = some (.slice E (ms[i]).2.2.2.length c) ∧ (ms[i]).2.2.2.length + 1 ≤ c ∧ (Kd.int .i64).C w E ((ms[i]).2.2.2.length + 1) ((ms[i]).2.2.2 ++ [-71]) := by
  obtain ⟨ad, c, h1, h2, h3, h4⟩ := Kd.C_get hM (0, 0, 0, []) (i : Int) (by omega) (by omega)
  have hpe : ms.getD i (0, 0, 0, []) = ms[i] := by simp [List.getD_eq_getElem?_getD, hi]
  rw [Int.toNat_natCast, hpe] at h3
  obtain ⟨c0, c1, rfl, e0, c2, c3, rfl, e1, c4, c5, rfl, e2, E, cE, rfl, hle, hC⟩ := h3
  have e0' : c0 = [.int .i64 _] := e0
  have e1' : c2 = [.int .i64 _] := e1
  have e2' : c4 = [.int .i64 _] := e2
  subst e0' e1' e2'
  refine ⟨ad, E, cE, h1, h4 0 _ rfl, ?_, ?_, ?_, hle, hC⟩
  · rw [← add_succ]; exact h4 1 _ rfl
  · have h := h4 2 _ rfl
    have e : ad.add (i * 4 + 2) = ⟨(ad.add (i * 4)).block, (ad.add (i * 4)).off + 2, none⟩ := by
      unfold Addr.add
      by_cases h : i * 4 = 0
      · simp [h]
      · simp [h]; omega
    rw [← e]; exact h
  · rw [← add_three]; exact h4 3 _ rfl
/-- a lent matrix' cells, made -/
theorem lent_M {w W1 : World} {b0 : Nat} {v : Value} {ys : List Mat} {base : Nat} {r c wd : Int} {l : List Int} {A : Option Addr} {cp : Nat} (hR : (Kd.int .i64).R 3 W1 w.heap.size (fun _ => True) (.slice A (l.length + 1) cp) (l ++ [-71])) (hl : l.length + 1 ≤ cp) (ho : lentK.R 25 w base (fun _ => True) v ys) (hb : base ≤ w.heap.size) :
    lentK.M W1 base (fun k => some k ≠ v.ownBlock) (r, c, wd, l) [.int .i64 r, .int .i64 c, .int .i64 wd, .slice A l.length cp] := by
  obtain ⟨inner, hi⟩ := Kd.R_own ho
  have h1 : lentK.M W1 w.heap.size (fun _ => True) (r, c, wd, l) [.int .i64 r, .int .i64 c, .int .i64 wd, .slice A l.length cp] := ⟨[_], [_, _, _], rfl, rfl, [_], [_, _], rfl, rfl, [_], [_], rfl, rfl, A, cp, rfl, hl, hR⟩
  exact lentK.M_lower hb (lentK.M_mono (fun _ hk => hk.2) (Kd.M_new h1 hi))

/-- how much is handed in -/
def fuelS (ms : List Mat) : Nat → Nat
  | 0 => 0
  | i + 1 => fuelS ms i + ((ms.getD i z4).2.2.2.length + 1)
theorem fuelS_ge (ms : List Mat) : ∀ i, i ≤ fuelS ms i
  | 0 => Nat.le_refl _
  | i + 1 => by have := fuelS_ge ms i; rw [fuelS]; omega
theorem fuelS_mono (ms : List Mat) {i : Nat} : ∀ {j}, i ≤ j → fuelS ms i ≤ fuelS ms j
  | 0, h => by rw [show i = 0 by omega]; exact Nat.le_refl _
  | j + 1, h => by
    by_cases he : i = j + 1
    · rw [he]; exact Nat.le_refl _
    · have := fuelS_mono ms (i := i) (j := j) (by omega); rw [fuelS]; omega
theorem fuelS_all {ms : List Mat} {B : Nat} (h : fuelS ms ms.length ≤ B) : ms.length ≤ B ∧ ∀ m ∈ ms, m.2.2.2.length ≤ B := by
  refine ⟨Nat.le_trans (fuelS_ge ms _) h, fun m hm => ?_⟩
  obtain ⟨i, hi, rfl⟩ := List.mem_iff_getElem.1 hm
  have h1 := fuelS_mono ms (i := i + 1) (j := ms.length) hi
  rw [fuelS, List.getD_eq_getElem?_getD, List.getElem?_eq_getElem hi] at h1
  have : (some ms[i]).getD z4 = ms[i] := rfl
  rw [this] at h1
  omega

theorem refGlue_all (side : Bool) (A : Option Addr) (cA : Nat) (ss : List Shp) (w : World) (hC : shK.C w A ss.length ss) (hcA : ss.length ≤ cA) (hl : ss.length ≤ 5001) (hok : ∀ x ∈ ss, ShOk x) :
    Calls Try.prog 45 #[.slice A ss.length cA, .bool side] w (GlueQ side ss w) := by
  cases ss with
  | nil => exact (refGlue_err0 side A cA w).mono fun e w' h => .inl ⟨show (1 : Int) ≠ 0 by decide, h⟩
  | cons x ss => exact refGlue_calls side A cA (x :: ss) w hC hcA hl (Nat.succ_pos _) hok
end Go.Proofs.Ytklomikdihlcgaa
