/- What an argument of a kind is: its cells read as a list, a struct, a number. No program in sight. -/
import Derived.Test.YtpobladocccnmaaWWords
import Derived.ChangeSlices
import Derived.Lib.SmallJoins
namespace Go.Proofs.Ytpobladocccnmaa
open Go.RowKit
open Go.Proofs.YtpobladocccnmaaW.PrintWords
open Go.ChangeShapes Go.WideShapes
set_option linter.unusedVariables false

/-- a value of type t reads as one of kind k, of which p holds -/
def Opens {α : Type} (P : Program) (w : World) (t : TypeId) (k : Kd α) (p : α → Prop) : Prop :=
  ∀ (H : Type) (enc : TypeId × Value → H) (base : Nat) (spare : Nat → Bool) (held : Bool) (fuel : Nat) (cs : List Value) (y : DataW H × List MemPlace), DataW.trod enc P w base spare held fuel t cs = some y → ∃ x, k.K w x cs ∧ p x

theorem Opens.int {P : Program} {w : World} {t : TypeId} {k : IntKind} (ht : P.underlying t = some (.int k)) : Opens P w t (Kd.int k) (fun x => (Lit.int k x).wf = true) := by
  intro H enc base spare held fuel cs y h
  obtain ⟨n, rfl, _, hw⟩ := DataW.trod_int ht h
  exact ⟨n, rfl, hw⟩

theorem Opens.string {P : Program} {w : World} {t : TypeId} (ht : P.underlying t = some .string) : Opens P w t Kd.string (fun x => x.size ≤ 9223372036854775807) := by
  intro H enc base spare held fuel cs y h
  obtain ⟨s, rfl, _, hs⟩ := DataW.trod_string ht h
  exact ⟨s, rfl, by simpa only [maxLen] using hs⟩

theorem Opens.bool {P : Program} {w : World} {t : TypeId} (ht : P.underlying t = some .bool) : Opens P w t Kd.bool (fun _ => True) := by
  intro H enc base spare held fuel cs y h
  obtain ⟨b, rfl, _⟩ := DataW.trod_bool ht h
  exact ⟨b, rfl, trivial⟩

theorem Opens.imp {α : Type} {P : Program} {w : World} {t : TypeId} {k : Kd α} {p q : α → Prop} (h : Opens P w t k p) (hpq : ∀ x, p x → q x) : Opens P w t k q := by
  intro H enc base spare held fuel cs y hy
  obtain ⟨x, h1, h2⟩ := h H enc base spare held fuel cs y hy
  exact ⟨x, h1, hpq x h2⟩

theorem Opens.slice {α : Type} {P : Program} {w : World} {t e : TypeId} {k : Kd α} {p : α → Prop} (ht : P.underlying t = some (.slice e)) (hs : P.cellsOf e = k.sz) (he : Opens P w e k p) : Opens P w t (Kd.slice e k) (fun l => l.length ≤ 9223372036854775807 ∧ ∀ x ∈ l, p x) := by
  intro H enc base spare held fuel cs y h
  rcases DataW.trod_slice ht h with ⟨rfl, _⟩ | ⟨a, len, cap, elems, rest, n, _, rfl, _, hb, hl, hm, hlen, hel, _, _⟩
  · exact ⟨[], ⟨none, 0, rfl, Nat.le_refl _, ⟨rfl, by simp, fun h => absurd h (Nat.lt_irrefl 0)⟩⟩, by simp, by simp⟩
  have each : ∀ i : Fin len, ∃ x : α, p x ∧ ∃ c, c.length = k.sz ∧ k.K w x c ∧ ∀ j u, c[j]? = some u → w.cell? (a.add (i.1 * k.sz + j)) = some u := by
    intro i
    have h1 := hel i.1 i.2
    rw [List.getElem?_eq_getElem (by omega), Option.bind_eq_some_iff] at h1
    obtain ⟨c, hc, hy⟩ := h1
    obtain ⟨x, hx1, hx2⟩ := he H enc base spare held n c _ hy
    have h2 := World.cells?_some hc
    refine ⟨x, hx2, c, by rw [h2.2.1, hs], hx1, fun j u hu => ?_⟩
    have hj : j < c.length := by
      rcases Nat.lt_or_ge j c.length with h | h
      · exact h
      · rw [List.getElem?_eq_none h] at hu; cases hu
    have h3 := h2.2.2 j (by rw [← h2.2.1]; exact hj)
    rw [add_add, hs] at h3
    rw [h3]
    exact hu
  obtain ⟨f, hf⟩ := Classical.axiomOfChoice each
  refine ⟨List.ofFn f, ⟨some a, cap, by simp, by simpa using hl, ⟨rfl, by simp only [List.length_ofFn]; simp only [maxLen] at hm; omega, fun _ => ⟨a, rfl, fun j q hj => ?_⟩⟩⟩, by simp only [List.length_ofFn]; simp only [maxLen] at hm; omega, fun x hx => ?_⟩
  · rw [List.getElem?_ofFn] at hj
    split at hj
    · rename_i hlt
      injection hj with hj
      subst hj
      obtain ⟨_, c, h1, h2, h3⟩ := hf ⟨j, hlt⟩
      exact ⟨c, h1, h2, h3⟩
    · cases hj
  · rw [List.mem_ofFn] at hx
    obtain ⟨i, rfl⟩ := hx
    exact (hf i).1

/-- two fields, one behind the other -/
theorem cut_two {cs : List Value} {a b : Nat} (h : cs.length = a + b) : cs = (cs.drop 0).take a ++ (cs.drop a).take b := by
  rw [List.drop_zero, List.take_of_length_le (l := cs.drop a) (by rw [List.length_drop]; omega), List.take_append_drop]

theorem drop_take {cs : List Value} {a b c : Nat} : (cs.drop a).take (b + c) = (cs.drop a).take b ++ (cs.drop (a + b)).take c := by
  rw [List.take_add, List.drop_drop]

/-- what fields with kinds of their own say, together -/
theorem Opens.struct3 {α β γ : Type} {P : Program} {w : World} {t : TypeId} {f0 f1 f2 : Field} {a : Kd α} {b : Kd β} {c : Kd γ} {p : α → Prop} {q : β → Prop} {r : γ → Prop} (ht : P.underlying t = some (.struct #[f0, f1, f2]))
    (hc : P.cellsOf t = a.sz + (b.sz + c.sz)) (o0 : f0.offset = 0) (o1 : f1.offset = a.sz) (o2 : f2.offset = a.sz + b.sz) (s0 : P.cellsOf f0.type = a.sz) (s1 : P.cellsOf f1.type = b.sz) (s2 : P.cellsOf f2.type = c.sz)
    (h0 : Opens P w f0.type a p) (h1 : Opens P w f1.type b q) (h2 : Opens P w f2.type c r) : Opens P w t (Kd.pair a (Kd.pair b c)) (fun x => p x.1 ∧ q x.2.1 ∧ r x.2.2) := by
  intro H enc base spare held fuel cs y h
  obtain ⟨xs, n, _, _, hl, hx, hf⟩ := DataW.trod_struct ht h
  match xs, hx with
  | [y0, y1, y2], _ =>
    have g0 := hf 0 f0 rfl
    have g1 := hf 1 f1 rfl
    have g2 := hf 2 f2 rfl
    rw [o0, s0] at g0
    rw [o1, s1] at g1
    rw [o2, s2] at g2
    obtain ⟨x0, k0, p0⟩ := h0 _ _ _ _ _ _ _ _ g0
    obtain ⟨x1, k1, p1⟩ := h1 _ _ _ _ _ _ _ _ g1
    obtain ⟨x2, k2, p2⟩ := h2 _ _ _ _ _ _ _ _ g2
    refine ⟨(x0, x1, x2), ⟨_, _, ?_, k0, _, _, rfl, k1, k2⟩, p0, p1, p2⟩
    rw [← drop_take, ← cut_two (by rw [hl, hc])]

theorem Opens.struct4 {α β γ δ : Type} {P : Program} {w : World} {t : TypeId} {f0 f1 f2 f3 : Field} {a : Kd α} {b : Kd β} {c : Kd γ} {d : Kd δ} {p : α → Prop} {q : β → Prop} {r : γ → Prop} {s : δ → Prop} (ht : P.underlying t = some (.struct #[f0, f1, f2, f3]))
    (hc : P.cellsOf t = a.sz + (b.sz + (c.sz + d.sz))) (o0 : f0.offset = 0) (o1 : f1.offset = a.sz) (o2 : f2.offset = a.sz + b.sz) (o3 : f3.offset = a.sz + b.sz + c.sz) (s0 : P.cellsOf f0.type = a.sz) (s1 : P.cellsOf f1.type = b.sz) (s2 : P.cellsOf f2.type = c.sz) (s3 : P.cellsOf f3.type = d.sz)
    (h0 : Opens P w f0.type a p) (h1 : Opens P w f1.type b q) (h2 : Opens P w f2.type c r) (h3 : Opens P w f3.type d s) : Opens P w t (Kd.pair a (Kd.pair b (Kd.pair c d))) (fun x => p x.1 ∧ q x.2.1 ∧ r x.2.2.1 ∧ s x.2.2.2) := by
  intro H enc base spare held fuel cs y h
  obtain ⟨xs, n, _, _, hl, hx, hf⟩ := DataW.trod_struct ht h
  match xs, hx with
  | [y0, y1, y2, y3], _ =>
    have g0 := hf 0 f0 rfl
    have g1 := hf 1 f1 rfl
    have g2 := hf 2 f2 rfl
    have g3 := hf 3 f3 rfl
    rw [o0, s0] at g0
    rw [o1, s1] at g1
    rw [o2, s2] at g2
    rw [o3, s3] at g3
    obtain ⟨x0, k0, p0⟩ := h0 _ _ _ _ _ _ _ _ g0
    obtain ⟨x1, k1, p1⟩ := h1 _ _ _ _ _ _ _ _ g1
    obtain ⟨x2, k2, p2⟩ := h2 _ _ _ _ _ _ _ _ g2
    obtain ⟨x3, k3, p3⟩ := h3 _ _ _ _ _ _ _ _ g3
    refine ⟨(x0, x1, x2, x3), ⟨_, _, ?_, k0, _, _, rfl, k1, _, _, rfl, k2, k3⟩, p0, p1, p2, p3⟩
    rw [← drop_take, ← drop_take, ← cut_two (by rw [hl, hc])]

end Go.Proofs.Ytpobladocccnmaa
