/- TopNames: errors, limits, kinds: one row each. -/
import Derived.Test.YtmeepolmnfoikaaAre
import Derived.Great.BuildSlice
import Derived.RangeFuncRecord
import Derived.KernelRfl
namespace Go.Proofs.Ytmeepolmnfoikaa
open Go.RowKit
set_option linter.unusedVariables false
set_option linter.unusedSimpArgs false

def dbl : List Int → List Value
  | [] => []
  | x :: l => .int .i64 x :: .int .i64 x :: dbl l

theorem dbl_get : ∀ (l : List Int) (i : Nat) (h : i < l.length), (dbl l)[i * 2]? = some (.int .i64 l[i]) ∧ (dbl l)[i * 2 + 1]? = some (.int .i64 l[i])
  | x :: l, 0, _ => by simp [dbl]
  | x :: l, i + 1, h => by
    have := dbl_get l i (by simpa using h)
    simpa [dbl, show (i + 1) * 2 = i * 2 + 1 + 1 by omega] using this

theorem pairs_alloc (w : World) (l : List Int) (t : TypeId) (x : Array Value) (hx : x = (dbl l).toArray) : Pairs (w.alloc (.cells x t)) w.heap.size l := by
  subst hx
  intro i h
  obtain ⟨h1, h2⟩ := dbl_get l i h
  have hb : (w.alloc (.cells (dbl l).toArray t)).heap[w.heap.size]? = some (.cells (dbl l).toArray t) := World.alloc_heap_new w _
  simp only [World.cell?, hb]
  simpa using ⟨h1, h2⟩

theorem wp_sliceRows {P : Program} {o : Oper} {a : Act} {w : World} {K : Act → World → Prop} {Q : Exit → Act → World → Prop} (t e : TypeId) (len : Nat) (parts : Array (Nat × Operand)) (ho : o.op = .buildSlice t len parts)
    (cells : Array Value) (hu : P.underlying t = some (.slice e))
    (hf : ((P.info? e).bind fun ie => ie.zero.bind fun z => if len * ie.size > 2 ^ 24 ∨ len * ie.size = 0 then none else
      Instr.fill (fun i => some (i * ie.size, ie.size)) ((Array.range (len * ie.size)).map (z.cells[· % z.cells.size]!)) (parts.map fun (i, x) => (i, a.eval x)).toList) = some cells)
    (h : K (a.put o.dst (.slice (some ⟨w.heap.size, 0, none⟩) len len)) (w.alloc (.cells cells e))) : o.wp P a w K Q := by
  cases hie : P.info? e with
  | none => simp [hie] at hf
  | some ie =>
    cases hz : ie.zero with
    | none => simp [hie, hz] at hf
    | some z =>
      simp only [hie, hz, Option.bind_some] at hf
      split at hf
      · cases hf
      · next hn => exact wp_buildSlice t e len parts ho cells ie z hu hie hz (fun h' => hn (Or.inl h')) (fun h' => hn (Or.inr h')) hf h

theorem below_drewN {B : Nat} {w w' : World} (h : Below B w w') (n : Nat) : Below B w (w'.drewN n) := ⟨h.os, h.tape, h.output, h.size, h.block⟩

def row5 : List Int := [2000, 1048576, 4096, 1024, 64, 8, 4096, 256, 16, 1099511627776, 16777216, 16, 65536, 64, 32, 4194304, 65536, 64, 1048576, 20000]

set_option maxHeartbeats 4000000 in
set_option maxRecDepth 20000 in
theorem limits_calls (w : World) : Calls Try.prog 5 #[] w fun e w' => e = .returned (.bool true) ∧ Below w.heap.size w w' := by
  go_enter Try.func5, Try.ntmps5
  go_wp2_with fail
  as_aux_lemma =>
    refine (are_calls w.heap.size row5 _ (by decide) (pairs_alloc w row5 24 _ rfl)).mono ?_
    rintro e w2 ⟨rfl, n, rfl⟩
    have HB : Hid (Below w.heap.size w ((w.alloc (.cells (dbl row5).toArray 24)).drewN n)) := below_drewN ((Below.refl _ w).alloc (Nat.le_refl _) _) n
    go_wp2
    go_ret
    exact ⟨rfl, HB⟩

def row4 : List Int := [0, 1, 2, 3, 4, 5, 6, 7, 8, 9, 20, 21, 22, 23, 30, 31, 40, 41, 42, 43, 44, 45, 46, 50, 51, 52, 60, 61, 62, 63, 70, 71, 72, 100]

set_option maxHeartbeats 4000000 in
set_option maxRecDepth 20000 in
theorem errors_calls (w : World) : Calls Try.prog 4 #[] w fun e w' => e = .returned (.bool true) ∧ Below w.heap.size w w' := by
  go_enter Try.func4, Try.ntmps4
  go_wp2_with fail
  as_aux_lemma =>
    refine (are_calls w.heap.size row4 _ (by decide) (pairs_alloc w row4 24 _ rfl)).mono ?_
    rintro e w2 ⟨rfl, n, rfl⟩
    have HB : Hid (Below w.heap.size w ((w.alloc (.cells (dbl row4).toArray 24)).drewN n)) := below_drewN ((Below.refl _ w).alloc (Nat.le_refl _) _) n
    go_wp2
    go_ret
    exact ⟨rfl, HB⟩

def row6 : List Int := [9221120237041090561, 9218868437227405312, 2143289345, 2139095040, 0, 1, 2, 3, 4, 1, 2, 3, 10, 11, 12, 13, 20, 21, 22, 23, 24, 25, 26, 27, 28, 30, 31, 32, 33, 34, 35, 36, 37, 40, 41, 42, 43, 44, 50, 51, 60, 61, 1, 2, 3, 4, 5, 1, 2, 0, 1, 1, 2, 0, 1, 2, 3, 4, 5, 0, 1, 2, 3, 4, 5, 0, 1, 2, 3, 4, 5, 1, 2, 3, 4, 5, 6, 1, 2, 3, 4]

set_option maxHeartbeats 4000000 in
set_option maxRecDepth 20000 in
theorem kinds_calls (w : World) : Calls Try.prog 6 #[] w fun e w' => e = .returned (.bool true) ∧ Below w.heap.size w w' := by
  go_enter Try.func6, Try.ntmps6
  go_wp2_with fail
  refine wp_sliceRows 25 24 81 _ rfl (dbl row6).toArray (by kernel_rfl) (by kernel_rfl) ?_
  go_wp2_with fail
  as_aux_lemma =>
    refine (are_calls w.heap.size row6 _ (by decide) (pairs_alloc w row6 24 _ rfl)).mono ?_
    rintro e w2 ⟨rfl, n, rfl⟩
    have HB : Hid (Below w.heap.size w ((w.alloc (.cells (dbl row6).toArray 24)).drewN n)) := below_drewN ((Below.refl _ w).alloc (Nat.le_refl _) _) n
    go_wp2
    go_ret
    exact ⟨rfl, HB⟩

end Go.Proofs.Ytmeepolmnfoikaa
