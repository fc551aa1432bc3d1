/- What joining comes to, in plain numbers: its error, its shape, its places. -/
import Derived.Test.YtklomikdihlcgaaGlueC
namespace Go.Proofs.Ytklomikdihlcgaa
open Go.RowKit PBase
open Go.Proofs.YtklomikdihlcgaaW.PrintWords Go.Proofs.YtklomikdihlcgaaW.PrintLast Go.Proofs.YtklomikdihlcgaaW.PrintMore
set_option linter.unusedVariables false

abbrev z3 : Shp := (0, 0, 0)
/-- a shape in form -/
structure ShOk (x : Shp) : Prop where
  r1 : 1 ≤ x.1
  r2 : x.1 ≤ 4096
  c1 : 1 ≤ x.2.1
  c2 : x.2.1 ≤ 4096
  a : x.1 * x.2.1 ≤ 4096

/-- how far a shape goes in the joint's line -/
def ext (side : Bool) (x : Shp) : Int := if side = true then x.2.1 else x.1
/-- how far the first j + 1 go -/
def extS (side : Bool) (ss : List Shp) : Nat → Int
  | 0 => ext side (ss.getD 0 z3)
  | j + 1 => extS side ss j + ext side (ss.getD (j + 1) z3)

theorem ext_ok {side : Bool} {x : Shp} (h : ShOk x) : 1 ≤ ext side x ∧ ext side x ≤ 4096 := by
  unfold ext
  split
  · exact ⟨h.c1, h.c2⟩
  · exact ⟨h.r1, h.r2⟩

theorem getD_ok {ss : List Shp} (h : ∀ x ∈ ss, ShOk x) {i : Nat} (hi : i < ss.length) : ShOk (ss.getD i z3) := by
  rw [List.getD_eq_getElem?_getD, List.getElem?_eq_getElem hi]
  exact h _ (List.getElem_mem hi)

theorem extS_ok {side : Bool} {ss : List Shp} (h : ∀ x ∈ ss, ShOk x) : ∀ (j : Nat), j < ss.length → 1 ≤ extS side ss j ∧ extS side ss j ≤ 4096 * ((j : Int) + 1)
  | 0, hj => by
    have := ext_ok (side := side) (getD_ok h hj)
    unfold extS
    omega
  | j + 1, hj => by
    have h1 := extS_ok (side := side) h j (by omega)
    have h2 := ext_ok (side := side) (getD_ok h hj)
    unfold extS
    omega

def glueR (side : Bool) (ss : List Shp) : Int := if side = true then (ss.getD 0 z3).1 else extS false ss (ss.length - 1)
def glueC (side : Bool) (ss : List Shp) : Int := if side = true then extS true ss (ss.length - 1) else (ss.getD 0 z3).2.1
def glueW (ss : List Shp) : Int := (ss.getD 0 z3).2.2

def badW (ss : List Shp) (x : Shp) : Bool := x.2.2 != (ss.getD 0 z3).2.2
def badS (side : Bool) (ss : List Shp) (x : Shp) : Bool := if side = true then x.1 != (ss.getD 0 z3).1 else x.2.1 != (ss.getD 0 z3).2.1

/-- the error of joining -/
def glueE (side : Bool) (ss : List Shp) : Int :=
  if ss.length = 0 then 1 else if ss.any (badW ss) = true then 3 else if ss.any (badS side ss) = true then 4 else sizedV (glueR side ss) (glueC side ss) (glueW ss)

/-- how many elements of one matrix stand in one line -/
def glueN (side : Bool) (x : Shp) : Nat := if side = true then x.2.1.toNat else (x.1 * x.2.1).toNat
def segG (r i n : Nat) : List (Int × Int) := (List.range n).map fun k => ((i : Int), ((r * n + k : Nat) : Int))
def rowG (N : Nat → Nat) (r m : Nat) : List (Int × Int) := (List.range m).flatMap fun i => segG r i (N i)
def allG (N : Nat → Nat) (R m : Nat) : List (Int × Int) := (List.range R).flatMap fun r => rowG N r m
theorem segG_succ (r i n k : Nat) : (List.range (k + 1)).map (fun k => ((i : Int), ((r * n + k : Nat) : Int))) = (List.range k).map (fun k => ((i : Int), ((r * n + k : Nat) : Int))) ++ [((i : Int), ((r * n + k : Nat) : Int))] := by simp [List.range_succ]
theorem rowG_succ (N : Nat → Nat) (r i : Nat) : rowG N r (i + 1) = rowG N r i ++ segG r i (N i) := by simp [rowG, List.range_succ]
theorem allG_succ (N : Nat → Nat) (r m : Nat) : allG N (r + 1) m = allG N r m ++ rowG N r m := by simp [allG, List.range_succ]
/-- a part of one -/
def partG (r i n k : Nat) : List (Int × Int) := (List.range k).map fun k => ((i : Int), ((r * n + k : Nat) : Int))
theorem partG_succ (r i n k : Nat) : partG r i n (k + 1) = partG r i n k ++ [((i : Int), ((r * n + k : Nat) : Int))] := by simp [partG, List.range_succ]
theorem partG_full (r i n : Nat) : partG r i n n = segG r i n := rfl
theorem partG_len (r i n k : Nat) : (partG r i n k).length = k := by simp [partG]
theorem segG_len (r i n : Nat) : (segG r i n).length = n := by simp [segG]
theorem rowG_len (N : Nat → Nat) (r : Nat) (B : Nat) : ∀ m, (∀ i, i < m → N i ≤ B) → (rowG N r m).length ≤ m * B
  | 0, _ => by simp [rowG]
  | m + 1, h => by
    rw [rowG_succ, List.length_append, segG_len]
    have h1 := rowG_len N r B m (fun i hi => h i (by omega))
    have h2 := h m (by omega)
    rw [Nat.succ_mul]
    omega
theorem allG_len (N : Nat → Nat) (m B : Nat) (h : ∀ i, i < m → N i ≤ B) : ∀ R, (allG N R m).length ≤ R * (m * B)
  | 0 => by simp [allG]
  | R + 1 => by
    rw [allG_succ, List.length_append]
    have h1 := allG_len N m B h R
    have h2 := rowG_len N R B m h
    rw [Nat.succ_mul]
    omega
theorem glue_room {N : Nat → Nat} {m R r i k : Nat} (hm : m ≤ 5001) (hR : R ≤ 4096) (hN : ∀ i, i < m → N i ≤ 4096) (hr : r < R) (hi : i < m) (hk : k < N i) : ((allG N r m ++ rowG N r i ++ partG r i (N i) k).length + 1) * 16 ≤ 140737488355328 := by
  have h1 := allG_len N m 4096 hN r
  have h2 := rowG_len N r 4096 i (fun j hj => hN j (by omega))
  have h3 := hN i hi
  have h4 : r * (m * 4096) ≤ 4096 * (5001 * 4096) := Nat.mul_le_mul (by omega) (Nat.mul_le_mul hm (Nat.le_refl _))
  have h5 : i * 4096 ≤ 5001 * 4096 := Nat.mul_le_mul (by omega) (Nat.le_refl _)
  rw [List.length_append, List.length_append, partG_len]
  omega

/-- how many lines -/
def glueT (side : Bool) (ss : List Shp) : Nat := if side = true then (glueR side ss).toNat else 1
def glueP (side : Bool) (ss : List Shp) : List (Int × Int) := allG (fun i => glueN side (ss.getD i z3)) (glueT side ss) ss.length

theorem glueN_le {side : Bool} {x : Shp} (h : ShOk x) : 1 ≤ glueN side x ∧ glueN side x ≤ 4096 := by
  unfold glueN
  split
  · have := h.c1; have := h.c2; omega
  · have := h.a
    have h1 : 1 * 1 ≤ x.1 * x.2.1 := Int.mul_le_mul h.r1 h.c1 (by decide) (by have := h.r1; omega)
    omega

end Go.Proofs.Ytklomikdihlcgaa
