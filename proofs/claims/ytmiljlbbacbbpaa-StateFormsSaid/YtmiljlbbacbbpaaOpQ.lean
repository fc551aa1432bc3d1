/- What an argument of a kind is, with its weights: its cells read as a list, a struct, a number. No program in sight. -/
import Derived.Test.YtmiljlbbacbbpaaWWords
import Derived.ChangeSlices
import Derived.Lib.SmallJoins
import Derived.SizedLaws
import Derived.Test.YtmiljlbbacbbpaaPlan
namespace Go.Proofs.Ytmiljlbbacbbpaa
open Go.RowKit
open Go.Proofs.YtmiljlbbacbbpaaW.PrintWords
open Go.ChangeShapes Go.WideShapes
set_option linter.unusedVariables false

/-- a value of type t reads as one of kind k, of which p holds, where its rows are no longer than memory reaches -/
def Opens {α : Type} (P : Program) (w : World) (t : TypeId) (k : Kd α) (p : α → Prop) : Prop :=
  ∀ (H : Type) (enc : TypeId × Value → H) (base : Nat) (spare : Nat → Bool) (held : Bool) (fuel : Nat) (cs : List Value) (y : DataW H × List MemPlace), DataW.trod enc P w base spare held fuel t cs = some y → (∀ n ∈ DataW.weights P t y.1, n ≤ reachBytes) → ∃ x, k.K w x cs ∧ p x

theorem Opens.int {P : Program} {w : World} {t : TypeId} {k : IntKind} (ht : P.underlying t = some (.int k)) : Opens P w t (Kd.int k) (fun x => (Lit.int k x).wf = true) := by
  intro H enc base spare held fuel cs y h _
  obtain ⟨n, rfl, _, hw⟩ := DataW.trod_int ht h
  exact ⟨n, rfl, hw⟩

theorem Opens.imp {α : Type} {P : Program} {w : World} {t : TypeId} {k : Kd α} {p q : α → Prop} (h : Opens P w t k p) (hpq : ∀ x, p x → q x) : Opens P w t k q := by
  intro H enc base spare held fuel cs y hy hz
  obtain ⟨x, h1, h2⟩ := h H enc base spare held fuel cs y hy hz
  exact ⟨x, h1, hpq x h2⟩

theorem weightsAll_mem {H : Type} {P : Program} {e : TypeId} : ∀ {ds : List (DataW H)} {j : Nat} {d : DataW H}, ds[j]? = some d → ∀ n ∈ d.weights P e, n ∈ DataW.weightsAll P e ds
  | d0 :: ds, 0, d, hd, n, hn => by
    simp only [List.getElem?_cons_zero, Option.some.injEq] at hd
    subst hd
    simp only [DataW.weightsAll, List.mem_append]
    exact Or.inl hn
  | d0 :: ds, j + 1, d, hd, n, hn => by
    simp only [List.getElem?_cons_succ] at hd
    simp only [DataW.weightsAll, List.mem_append]
    exact Or.inr (weightsAll_mem hd n hn)
  | [], _, _, hd, _, _ => by simp at hd

theorem Opens.slice {α : Type} {P : Program} {w : World} {t e : TypeId} {k : Kd α} {p : α → Prop} (ht : P.underlying t = some (.slice e)) (hs : P.cellsOf e = k.sz) (he : Opens P w e k p) : Opens P w t (Kd.slice e k) (fun l => l.length ≤ 9223372036854775807 ∧ l.length * P.bytesOf e ≤ reachBytes ∧ ∀ x ∈ l, p x) := by
  intro H enc base spare held fuel cs y h hz
  rcases DataW.trod_slice ht h with ⟨rfl, _⟩ | ⟨a, len, cap, elems, rest, n, _, rfl, rfl, hb, hl, hm, hlen, hel, _, _⟩
  · exact ⟨[], ⟨none, 0, rfl, Nat.le_refl _, ⟨rfl, by simp, fun h => absurd h (Nat.lt_irrefl 0)⟩⟩, by simp, by simp, by simp⟩
  have hzl : len * P.bytesOf e ≤ reachBytes := by
    have := hz ((elems.length + rest.length) * P.bytesOf e) (by simp [DataW.weights, ht])
    have h2 : elems.length * P.bytesOf e ≤ (elems.length + rest.length) * P.bytesOf e := Nat.mul_le_mul_right _ (Nat.le_add_right _ _)
    rw [← hlen]
    omega
  have each : ∀ i : Fin len, ∃ x : α, p x ∧ ∃ c, c.length = k.sz ∧ k.K w x c ∧ ∀ j u, c[j]? = some u → w.cell? (a.add (i.1 * k.sz + j)) = some u := by
    intro i
    have h1 := hel i.1 i.2
    have hei : elems[i.1]? = some (elems[i.1]'(by omega)) := List.getElem?_eq_getElem (by omega)
    rw [hei, Option.bind_eq_some_iff] at h1
    obtain ⟨c, hc, hy⟩ := h1
    obtain ⟨x, hx1, hx2⟩ := he H enc base spare held n c _ hy (fun m hm' => hz m (by
      simp only [DataW.weights, ht, List.mem_cons, List.mem_append]
      exact Or.inr (Or.inl (weightsAll_mem (j := i.1) (by rw [List.getElem?_map, hei]; rfl) m hm'))))
    have h2 := World.cells?_some hc
    refine ⟨x, hx2, c, by rw [h2.2.1, hs], hx1, fun j u hu => ?_⟩
    have hj : j < c.length := by
      rcases Nat.lt_or_ge j c.length with h | h
      · exact h
      · rw [List.getElem?_eq_none h] at hu; cases hu
    have h3 := h2.2.2 j (by rw [← h2.2.1]; exact hj)
    rw [add_add, hs] at h3
    rw [h3]
    exact hu
  obtain ⟨f, hf⟩ := Classical.axiomOfChoice each
  refine ⟨List.ofFn f, ⟨some a, cap, by simp, by simpa using hl, ⟨rfl, by simp only [List.length_ofFn]; simp only [maxLen] at hm; omega, fun _ => ⟨a, rfl, fun j q hj => ?_⟩⟩⟩, by simp only [List.length_ofFn]; simp only [maxLen] at hm; omega, by rw [List.length_ofFn]; exact hzl, fun x hx => ?_⟩
  · rw [List.getElem?_ofFn] at hj
    split at hj
    · rename_i hlt
      injection hj with hj
      subst hj
      obtain ⟨_, c, h1, h2, h3⟩ := hf ⟨j, hlt⟩
      exact ⟨c, h1, h2, h3⟩
    · cases hj
  · rw [List.mem_ofFn] at hx
    obtain ⟨i, rfl⟩ := hx
    exact (hf i).1

/-- two fields, one behind the other -/
theorem cut_two {cs : List Value} {a b : Nat} (h : cs.length = a + b) : cs = (cs.drop 0).take a ++ (cs.drop a).take b := by
  rw [List.drop_zero, List.take_of_length_le (l := cs.drop a) (by rw [List.length_drop]; omega), List.take_append_drop]

theorem drop_take {cs : List Value} {a b c : Nat} : (cs.drop a).take (b + c) = (cs.drop a).take b ++ (cs.drop (a + b)).take c := by
  rw [List.take_add, List.drop_drop]

theorem Opens.struct4 {α β γ δ : Type} {P : Program} {w : World} {t : TypeId} {f0 f1 f2 f3 : Field} {a : Kd α} {b : Kd β} {c : Kd γ} {d : Kd δ} {p : α → Prop} {q : β → Prop} {r : γ → Prop} {s : δ → Prop} (ht : P.underlying t = some (.struct #[f0, f1, f2, f3]))
    (hc : P.cellsOf t = a.sz + (b.sz + (c.sz + d.sz))) (o0 : f0.offset = 0) (o1 : f1.offset = a.sz) (o2 : f2.offset = a.sz + b.sz) (o3 : f3.offset = a.sz + b.sz + c.sz) (s0 : P.cellsOf f0.type = a.sz) (s1 : P.cellsOf f1.type = b.sz) (s2 : P.cellsOf f2.type = c.sz) (s3 : P.cellsOf f3.type = d.sz)
    (h0 : Opens P w f0.type a p) (h1 : Opens P w f1.type b q) (h2 : Opens P w f2.type c r) (h3 : Opens P w f3.type d s) : Opens P w t (Kd.pair a (Kd.pair b (Kd.pair c d))) (fun x => p x.1 ∧ q x.2.1 ∧ r x.2.2.1 ∧ s x.2.2.2) := by
  intro H enc base spare held fuel cs y h hz
  obtain ⟨xs, n, _, rfl, hl, hx, hf⟩ := DataW.trod_struct ht h
  match xs, hx with
  | [y0, y1, y2, y3], _ =>
    have g0 := hf 0 f0 rfl
    have g1 := hf 1 f1 rfl
    have g2 := hf 2 f2 rfl
    have g3 := hf 3 f3 rfl
    rw [o0, s0] at g0
    rw [o1, s1] at g1
    rw [o2, s2] at g2
    rw [o3, s3] at g3
    have hw : ∀ (j : Nat) (f : TypeId) (z : DataW H), [f0.type, f1.type, f2.type, f3.type][j]? = some f → [y0.1, y1.1, y2.1, y3.1][j]? = some z → ∀ m ∈ DataW.weights P f z, m ≤ reachBytes := fun j f z hf' hz' m hm => hz m (by
      simp only [DataW.weights, ht]
      exact DataW.weights_mem_each (j := j) hf' hz' m hm)
    obtain ⟨x0, k0, p0⟩ := h0 _ _ _ _ _ _ _ _ g0 (hw 0 f0.type y0.1 rfl rfl)
    obtain ⟨x1, k1, p1⟩ := h1 _ _ _ _ _ _ _ _ g1 (hw 1 f1.type y1.1 rfl rfl)
    obtain ⟨x2, k2, p2⟩ := h2 _ _ _ _ _ _ _ _ g2 (hw 2 f2.type y2.1 rfl rfl)
    obtain ⟨x3, k3, p3⟩ := h3 _ _ _ _ _ _ _ _ g3 (hw 3 f3.type y3.1 rfl rfl)
    refine ⟨(x0, x1, x2, x3), ⟨_, _, ?_, k0, _, _, rfl, k1, _, _, rfl, k2, k3⟩, p0, p1, p2, p3⟩
    rw [← drop_take, ← drop_take, ← cut_two (by rw [hl, hc])]

theorem Opens.struct7 {α β γ δ ε ζ η : Type} {P : Program} {w : World} {t : TypeId} {f0 f1 f2 f3 f4 f5 f6 : Field} {a : Kd α} {b : Kd β} {c : Kd γ} {d : Kd δ} {e : Kd ε} {z : Kd ζ} {g : Kd η} {p0 : α → Prop} {p1 : β → Prop} {p2 : γ → Prop} {p3 : δ → Prop} {p4 : ε → Prop} {p5 : ζ → Prop} {p6 : η → Prop} (ht : P.underlying t = some (.struct #[f0, f1, f2, f3, f4, f5, f6]))
    (hc : P.cellsOf t = a.sz + (b.sz + (c.sz + (d.sz + (e.sz + (z.sz + g.sz)))))) (o0 : f0.offset = 0) (o1 : f1.offset = a.sz) (o2 : f2.offset = a.sz + b.sz) (o3 : f3.offset = a.sz + b.sz + c.sz) (o4 : f4.offset = a.sz + b.sz + c.sz + d.sz) (o5 : f5.offset = a.sz + b.sz + c.sz + d.sz + e.sz) (o6 : f6.offset = a.sz + b.sz + c.sz + d.sz + e.sz + z.sz)
    (s0 : P.cellsOf f0.type = a.sz) (s1 : P.cellsOf f1.type = b.sz) (s2 : P.cellsOf f2.type = c.sz) (s3 : P.cellsOf f3.type = d.sz) (s4 : P.cellsOf f4.type = e.sz) (s5 : P.cellsOf f5.type = z.sz) (s6 : P.cellsOf f6.type = g.sz)
    (h0 : Opens P w f0.type a p0) (h1 : Opens P w f1.type b p1) (h2 : Opens P w f2.type c p2) (h3 : Opens P w f3.type d p3) (h4 : Opens P w f4.type e p4) (h5 : Opens P w f5.type z p5) (h6 : Opens P w f6.type g p6) :
    Opens P w t (Kd.pair a (Kd.pair b (Kd.pair c (Kd.pair d (Kd.pair e (Kd.pair z g)))))) (fun x => p0 x.1 ∧ p1 x.2.1 ∧ p2 x.2.2.1 ∧ p3 x.2.2.2.1 ∧ p4 x.2.2.2.2.1 ∧ p5 x.2.2.2.2.2.1 ∧ p6 x.2.2.2.2.2.2) := by
  intro H enc base spare held fuel cs y h hz
  obtain ⟨xs, n, _, rfl, hl, hx, hf⟩ := DataW.trod_struct ht h
  match xs, hx with
  | [y0, y1, y2, y3, y4, y5, y6], _ =>
    have g0 := hf 0 f0 rfl
    have g1 := hf 1 f1 rfl
    have g2 := hf 2 f2 rfl
    have g3 := hf 3 f3 rfl
    have g4 := hf 4 f4 rfl
    have g5 := hf 5 f5 rfl
    have g6 := hf 6 f6 rfl
    rw [o0, s0] at g0
    rw [o1, s1] at g1
    rw [o2, s2] at g2
    rw [o3, s3] at g3
    rw [o4, s4] at g4
    rw [o5, s5] at g5
    rw [o6, s6] at g6
    have hw : ∀ (j : Nat) (f : TypeId) (z : DataW H), [f0.type, f1.type, f2.type, f3.type, f4.type, f5.type, f6.type][j]? = some f → [y0.1, y1.1, y2.1, y3.1, y4.1, y5.1, y6.1][j]? = some z → ∀ m ∈ DataW.weights P f z, m ≤ reachBytes := fun j f z hf' hz' m hm => hz m (by
      simp only [DataW.weights, ht]
      exact DataW.weights_mem_each (j := j) hf' hz' m hm)
    obtain ⟨x0, k0, q0⟩ := h0 _ _ _ _ _ _ _ _ g0 (hw 0 f0.type y0.1 rfl rfl)
    obtain ⟨x1, k1, q1⟩ := h1 _ _ _ _ _ _ _ _ g1 (hw 1 f1.type y1.1 rfl rfl)
    obtain ⟨x2, k2, q2⟩ := h2 _ _ _ _ _ _ _ _ g2 (hw 2 f2.type y2.1 rfl rfl)
    obtain ⟨x3, k3, q3⟩ := h3 _ _ _ _ _ _ _ _ g3 (hw 3 f3.type y3.1 rfl rfl)
    obtain ⟨x4, k4, q4⟩ := h4 _ _ _ _ _ _ _ _ g4 (hw 4 f4.type y4.1 rfl rfl)
    obtain ⟨x5, k5, q5⟩ := h5 _ _ _ _ _ _ _ _ g5 (hw 5 f5.type y5.1 rfl rfl)
    obtain ⟨x6, k6, q6⟩ := h6 _ _ _ _ _ _ _ _ g6 (hw 6 f6.type y6.1 rfl rfl)
    refine ⟨(x0, x1, x2, x3, x4, x5, x6), ⟨_, _, ?_, k0, _, _, rfl, k1, _, _, rfl, k2, _, _, rfl, k3, _, _, rfl, k4, _, _, rfl, k5, k6⟩, q0, q1, q2, q3, q4, q5, q6⟩
    rw [← drop_take, ← drop_take, ← drop_take, ← drop_take, ← drop_take, ← cut_two (by rw [hl, hc])]
theorem Opens.struct2 {α β : Type} {P : Program} {w : World} {t : TypeId} {f0 f1 : Field} {a : Kd α} {b : Kd β} {p0 : α → Prop} {p1 : β → Prop} (ht : P.underlying t = some (.struct #[f0, f1])) (hc : P.cellsOf t = a.sz + b.sz) (o0 : f0.offset = 0) (o1 : f1.offset = a.sz)
    (s0 : P.cellsOf f0.type = a.sz) (s1 : P.cellsOf f1.type = b.sz) (h0 : Opens P w f0.type a p0) (h1 : Opens P w f1.type b p1) : Opens P w t (Kd.pair a b) (fun x => p0 x.1 ∧ p1 x.2) := by
  intro H enc base spare held fuel cs y h hz
  obtain ⟨xs, n, _, rfl, hl, hx, hf⟩ := DataW.trod_struct ht h
  match xs, hx with
  | [y0, y1], _ =>
    have g0 := hf 0 f0 rfl
    have g1 := hf 1 f1 rfl
    rw [o0, s0] at g0
    rw [o1, s1] at g1
    have hw : ∀ (j : Nat) (f : TypeId) (z : DataW H), [f0.type, f1.type][j]? = some f → [y0.1, y1.1][j]? = some z → ∀ m ∈ DataW.weights P f z, m ≤ reachBytes := fun j f z hf' hz' m hm => hz m (by
      simp only [DataW.weights, ht]
      exact DataW.weights_mem_each (j := j) hf' hz' m hm)
    obtain ⟨x0, k0, q0⟩ := h0 _ _ _ _ _ _ _ _ g0 (hw 0 f0.type y0.1 rfl rfl)
    obtain ⟨x1, k1, q1⟩ := h1 _ _ _ _ _ _ _ _ g1 (hw 1 f1.type y1.1 rfl rfl)
    refine ⟨(x0, x1), ⟨_, _, ?_, k0, k1⟩, q0, q1⟩
    rw [← cut_two (by rw [hl, hc])]
theorem Opens.iso {α β : Type} {P : Program} {w : World} {t : TypeId} {k : Kd α} {p : α → Prop} (f : β → α) (g : α → β) (hfg : ∀ x, f (g x) = x) (h : Opens P w t k p) : Opens P w t (Kd.iso k f) (fun x => p (f x)) := by
  intro H enc base spare held fuel cs y hy hz
  obtain ⟨x, h1, h2⟩ := h H enc base spare held fuel cs y hy hz
  exact ⟨g x, by show k.K w (f (g x)) cs; rw [hfg]; exact h1, by show p (f (g x)); rw [hfg]; exact h2⟩

/-- an argument's weights -/
theorem weights_arg {H : Type} {P : Program} {ts : List TypeId} {ds : List (DataW H)} (h : (DataW.weightsEach P ts ds).all (· ≤ reachBytes) = true) {j : Nat} {t : TypeId} {d : DataW H} (ht : ts[j]? = some t) (hd : ds[j]? = some d) : ∀ n ∈ d.weights P t, n ≤ reachBytes := fun n hn => by
  have := List.all_eq_true.1 h _ (DataW.weights_mem_each ht hd n hn)
  simpa using this
end Go.Proofs.Ytmiljlbbacbbpaa

/- What an argument of type api.State is. -/
namespace Go.Proofs.Ytmiljlbbacbbpaa
open Go.RowKit PBase
open Go.Proofs.YtmiljlbbacbbpaaW.PrintWords Go.Proofs.YtmiljlbbacbbpaaW.PrintLast Go.Proofs.YtmiljlbbacbbpaaW.PrintMore
open Go.ChangeShapes Go.WideShapes
set_option linter.unusedVariables false
theorem in_i64 {x : Int} (h : (Lit.int .i64 x).wf = true) : -9223372036854775808 ≤ x ∧ x < 9223372036854775808 := by
  simp only [Lit.wf, Bool.and_eq_true, decide_eq_true_eq] at h
  have h1 : (IntKind.i64.max : Int) = 9223372036854775807 := rfl
  have h2 : (IntKind.i64.min : Int) = -9223372036854775808 := rfl
  omega
theorem matOpen (W : World) : Opens Try.prog W 56 k56 (fun m => m.f3.length ≤ 17592186044416 ∧ ∀ x ∈ m.f3, -9223372036854775808 ≤ x ∧ x < 9223372036854775808) :=
  (Opens.iso (fun x : S56 => (x.f0, x.f1, x.f2, x.f3)) (fun y => ⟨y.1, y.2.1, y.2.2.1, y.2.2.2⟩) (fun _ => rfl) (Opens.struct4 Try.underlying56 (by kernel_rfl) rfl rfl rfl rfl (by kernel_rfl) (by kernel_rfl) (by kernel_rfl) (by kernel_rfl) (Opens.int Try.underlying3) (Opens.int Try.underlying3) (Opens.int Try.underlying3) (Opens.slice Try.underlying54 (by kernel_rfl) (Opens.int Try.underlying3)))).imp fun m h => by
    obtain ⟨_, _, _, _, h1, h2⟩ := h
    have h3 : Try.prog.bytesOf 3 = 8 := by kernel_rfl
    rw [h3] at h1
    simp only [reachBytes] at h1
    exact ⟨by omega, fun x hx => in_i64 (h2 x hx)⟩
theorem listOpen (W : World) : Opens Try.prog W 22 (Kd.slice 56 k56) (fun s => s.length ≤ 17592186044416 ∧ ∀ m ∈ s, m.f3.length ≤ 17592186044416 ∧ ∀ x ∈ m.f3, -9223372036854775808 ≤ x ∧ x < 9223372036854775808) :=
  (Opens.slice Try.underlying22 (by kernel_rfl) (matOpen W)).imp fun s h => by
    have h1 := h.2.1
    have h3 : Try.prog.bytesOf 56 = 48 := by kernel_rfl
    rw [h3] at h1
    simp only [reachBytes] at h1
    exact ⟨by omega, h.2.2⟩
/-- a state's kind -/
abbrev kSt := Kd.pair (Kd.int .i64) (Kd.pair (Kd.int .i64) (Kd.pair (Kd.int .i64) (Kd.pair (Kd.slice 56 k56) (Kd.pair (Kd.slice 22 (Kd.slice 56 k56)) (Kd.pair (Kd.int .i64) (Kd.int .i64))))))
/-- what is known of a state that came in -/
structure Came (s0 s1 s2 : Int) (ps : List S56) (ss : List (List S56)) (lo ra : Int) : Prop where
  w : Words s0 s1 s2 ps ss lo ra
  lp : ps.length ≤ 17592186044416
  ls : ss.length ≤ 17592186044416
  mp : ∀ m ∈ ps, m.f3.length ≤ 17592186044416
  ms : ∀ s ∈ ss, s.length ≤ 17592186044416 ∧ ∀ m ∈ s, m.f3.length ≤ 17592186044416
  i0 : -9223372036854775808 ≤ s0 ∧ s0 < 9223372036854775808
  i1 : -9223372036854775808 ≤ s1 ∧ s1 < 9223372036854775808
  i2 : -9223372036854775808 ≤ s2 ∧ s2 < 9223372036854775808
theorem stateOpen (W : World) : Opens Try.prog W 25 kSt (fun x => Came x.1 x.2.1 x.2.2.1 x.2.2.2.1 x.2.2.2.2.1 x.2.2.2.2.2.1 x.2.2.2.2.2.2) :=
  (Opens.struct7 Try.underlying25 (by kernel_rfl) rfl rfl rfl rfl rfl rfl rfl (by kernel_rfl) (by kernel_rfl) (by kernel_rfl) (by kernel_rfl) (by kernel_rfl) (by kernel_rfl) (by kernel_rfl) (Opens.int Try.underlying3) (Opens.int Try.underlying3) (Opens.int Try.underlying3) (listOpen W) (Opens.slice Try.underlying23 (by kernel_rfl) (listOpen W)) (Opens.int Try.underlying3) (Opens.int Try.underlying3)).imp fun x h => by
    obtain ⟨h0, h1, h2, ⟨h3, h4⟩, ⟨_, h5, h6⟩, h7, h8⟩ := h
    have h9 : Try.prog.bytesOf 22 = 24 := by kernel_rfl
    rw [h9] at h5
    simp only [reachBytes] at h5
    exact ⟨⟨fun m hm => (h4 m hm).2, fun s hs m hm => ((h6 s hs).2 m hm).2, in_i64 h7, in_i64 h8⟩, h3, by omega, fun m hm => (h4 m hm).1, fun s hs => ⟨(h6 s hs).1, fun m hm => ((h6 s hs).2 m hm).1⟩, in_i64 h0, in_i64 h1, in_i64 h2⟩
theorem bytesOpen (W : World) : Opens Try.prog W 35 (Kd.slice 5 (Kd.int .u8)) (fun l => l.length ≤ reachBytes ∧ Bytes l) :=
  (Opens.slice Try.underlying35 (by kernel_rfl) (Opens.int Try.underlying5)).imp fun l h => by
    have h3 : Try.prog.bytesOf 5 = 1 := by kernel_rfl
    have h1 := h.2.1
    rw [h3, Nat.mul_one] at h1
    refine ⟨h1, fun x hx => ?_⟩
    have h4 := h.2.2 x hx
    simp only [Lit.wf, Bool.and_eq_true, decide_eq_true_eq] at h4
    have h5 : (IntKind.u8.max : Int) = 255 := rfl
    have h6 : (IntKind.u8.min : Int) = 0 := rfl
    omega
theorem pair_int {α : Type} {b : Kd α} {W : World} {x : Int} {y : α} {cs : List Value} (h : (Kd.pair (Kd.int .i64) b).K W (x, y) cs) : ∃ c, cs = .int .i64 x :: c ∧ b.K W y c := by
  obtain ⟨c0, c1, rfl, h0, h1⟩ := h
  have h0' : c0 = [.int .i64 x] := h0
  subst h0'
  exact ⟨c1, rfl, h1⟩
theorem pair_row {α β : Type} {d : Kd β} {e : Nat} {b : Kd α} {W : World} {x : List β} {y : α} {cs : List Value} (h : (Kd.pair (Kd.slice e d) b).K W (x, y) cs) : ∃ A c k, cs = .slice A x.length k :: c ∧ x.length ≤ k ∧ d.C W A x.length x ∧ b.K W y c := by
  obtain ⟨c0, c1, rfl, ⟨A, k, h0, h2, h3⟩, h1⟩ := h
  subst h0
  exact ⟨A, c1, k, rfl, h2, h3, h1⟩
theorem st_cells {W : World} {s0 s1 s2 : Int} {ps : List S56} {ss : List (List S56)} {lo ra : Int} {cs : List Value} (h : kSt.K W (s0, s1, s2, ps, ss, lo, ra) cs) : ∃ A3 c3 A4 c4, cs = [.int .i64 s0, .int .i64 s1, .int .i64 s2, .slice A3 ps.length c3, .slice A4 ss.length c4, .int .i64 lo, .int .i64 ra] ∧
    ps.length ≤ c3 ∧ Kd.C k56 W A3 ps.length ps ∧ ss.length ≤ c4 ∧ Kd.C (Kd.slice 56 k56) W A4 ss.length ss := by
  obtain ⟨d0, e0, g0⟩ := pair_int h
  obtain ⟨d1, e1, g1⟩ := pair_int g0
  obtain ⟨d2, e2, g2⟩ := pair_int g1
  obtain ⟨A3, d3, c3, e3, h1, h2, g3⟩ := pair_row g2
  obtain ⟨A4, d4, c4, e4, h3, h4, g4⟩ := pair_row g3
  obtain ⟨d5, e5, g5⟩ := pair_int g4
  have h' : d5 = [.int .i64 ra] := g5
  exact ⟨A3, c3, A4, c4, by rw [e0, e1, e2, e3, e4, e5, h'], h1, h2, h3, h4⟩
set_option maxRecDepth 100000 in
theorem stateArg {W : World} {r : Reach} {b0 : Nat} {H : Type} {enc : TypeId × Value → H} {base : Nat} {spare : Nat → Bool} {held : Bool} {fuel : Nat} {v : Value} {y : DataW H × List MemPlace} (hok : Value.okWide Try.prog W r b0 25 v) (h : DataW.trod enc Try.prog W base spare held fuel 25 v.cells.toList = some y) (hz : ∀ n ∈ DataW.weights Try.prog 25 y.1, n ≤ reachBytes) :
    ∃ s0 s1 s2 A3 c3 ps A4 c4 ss lo ra, v = .agg #[.int .i64 s0, .int .i64 s1, .int .i64 s2, .slice A3 ps.length c3, .slice A4 ss.length c4, .int .i64 lo, .int .i64 ra] ∧ ps.length ≤ c3 ∧ Kd.C k56 W A3 ps.length ps ∧ ss.length ≤ c4 ∧ Kd.C (Kd.slice 56 k56) W A4 ss.length ss ∧ Came s0 s1 s2 ps ss lo ra := by
  obtain ⟨cs, rfl, _⟩ := okWide_struct Try.underlying25 hok
  obtain ⟨⟨s0, s1, s2, ps, ss, lo, ra⟩, hK, hp⟩ := stateOpen W _ _ _ _ _ _ _ _ h hz
  obtain ⟨A3, c3, A4, c4, hcs, h1, h2, h3, h4⟩ := st_cells hK
  have hcs' : cs.toList = _ := hcs
  refine ⟨_, _, _, A3, c3, _, A4, c4, _, _, _, ?_, h1, h2, h3, h4, hp⟩
  congr 1
  exact Array.toList_inj.1 hcs'
end Go.Proofs.Ytmiljlbbacbbpaa
