/- What an argument of type api.State is. -/
import Derived.Test.YtmiljlbbacbbpaaOpT
import Derived.Test.YtmiljlbbacbbpaaPlan
namespace Go.Proofs.Ytmiljlbbacbbpaa
open Go.RowKit PBase
open Go.Proofs.YtmiljlbbacbbpaaW.PrintWords Go.Proofs.YtmiljlbbacbbpaaW.PrintLast Go.Proofs.YtmiljlbbacbbpaaW.PrintMore
open Go.ChangeShapes Go.WideShapes
set_option linter.unusedVariables false
theorem in_i64 {x : Int} (h : (Lit.int .i64 x).wf = true) : -9223372036854775808 ≤ x ∧ x < 9223372036854775808 := by
  simp only [Lit.wf, Bool.and_eq_true, decide_eq_true_eq] at h
  have h1 : (IntKind.i64.max : Int) = 9223372036854775807 := rfl
  have h2 : (IntKind.i64.min : Int) = -9223372036854775808 := rfl
  omega
theorem matOpen (W : World) : Opens Try.prog W 56 k56 (fun m => m.f3.length ≤ 17592186044416 ∧ ∀ x ∈ m.f3, -9223372036854775808 ≤ x ∧ x < 9223372036854775808) :=
  (Opens.iso (fun x : S56 => (x.f0, x.f1, x.f2, x.f3)) (fun y => ⟨y.1, y.2.1, y.2.2.1, y.2.2.2⟩) (fun _ => rfl) (Opens.struct4 Try.underlying56 (by kernel_rfl) rfl rfl rfl rfl (by kernel_rfl) (by kernel_rfl) (by kernel_rfl) (by kernel_rfl) (Opens.int Try.underlying3) (Opens.int Try.underlying3) (Opens.int Try.underlying3) (Opens.slice Try.underlying54 (by kernel_rfl) (Opens.int Try.underlying3)))).imp fun m h => by
    obtain ⟨_, _, _, _, h1, h2⟩ := h
    have h3 : Try.prog.bytesOf 3 = 8 := by kernel_rfl
    rw [h3] at h1
    simp only [reachBytes] at h1
    exact ⟨by omega, fun x hx => in_i64 (h2 x hx)⟩
theorem listOpen (W : World) : Opens Try.prog W 22 (Kd.slice 56 k56) (fun s => s.length ≤ 17592186044416 ∧ ∀ m ∈ s, m.f3.length ≤ 17592186044416 ∧ ∀ x ∈ m.f3, -9223372036854775808 ≤ x ∧ x < 9223372036854775808) :=
  (Opens.slice Try.underlying22 (by kernel_rfl) (matOpen W)).imp fun s h => by
    have h1 := h.2.1
    have h3 : Try.prog.bytesOf 56 = 48 := by kernel_rfl
    rw [h3] at h1
    simp only [reachBytes] at h1
    exact ⟨by omega, h.2.2⟩
/-- a state's kind -/
abbrev kSt := Kd.pair (Kd.int .i64) (Kd.pair (Kd.int .i64) (Kd.pair (Kd.int .i64) (Kd.pair (Kd.slice 56 k56) (Kd.pair (Kd.slice 22 (Kd.slice 56 k56)) (Kd.pair (Kd.int .i64) (Kd.int .i64))))))
/-- what is known of a state that came in -/
structure Came (s0 s1 s2 : Int) (ps : List S56) (ss : List (List S56)) (lo ra : Int) : Prop where
  w : Words s0 s1 s2 ps ss lo ra
  lp : ps.length ≤ 17592186044416
  ls : ss.length ≤ 17592186044416
  mp : ∀ m ∈ ps, m.f3.length ≤ 17592186044416
  ms : ∀ s ∈ ss, s.length ≤ 17592186044416 ∧ ∀ m ∈ s, m.f3.length ≤ 17592186044416
  i0 : -9223372036854775808 ≤ s0 ∧ s0 < 9223372036854775808
  i1 : -9223372036854775808 ≤ s1 ∧ s1 < 9223372036854775808
  i2 : -9223372036854775808 ≤ s2 ∧ s2 < 9223372036854775808
theorem stateOpen (W : World) : Opens Try.prog W 25 kSt (fun x => Came x.1 x.2.1 x.2.2.1 x.2.2.2.1 x.2.2.2.2.1 x.2.2.2.2.2.1 x.2.2.2.2.2.2) :=
  (Opens.struct7 Try.underlying25 (by kernel_rfl) rfl rfl rfl rfl rfl rfl rfl (by kernel_rfl) (by kernel_rfl) (by kernel_rfl) (by kernel_rfl) (by kernel_rfl) (by kernel_rfl) (by kernel_rfl) (Opens.int Try.underlying3) (Opens.int Try.underlying3) (Opens.int Try.underlying3) (listOpen W) (Opens.slice Try.underlying23 (by kernel_rfl) (listOpen W)) (Opens.int Try.underlying3) (Opens.int Try.underlying3)).imp fun x h => by
    obtain ⟨h0, h1, h2, ⟨h3, h4⟩, ⟨_, h5, h6⟩, h7, h8⟩ := h
    have h9 : Try.prog.bytesOf 22 = 24 := by kernel_rfl
    rw [h9] at h5
    simp only [reachBytes] at h5
    exact ⟨⟨fun m hm => (h4 m hm).2, fun s hs m hm => ((h6 s hs).2 m hm).2, in_i64 h7, in_i64 h8⟩, h3, by omega, fun m hm => (h4 m hm).1, fun s hs => ⟨(h6 s hs).1, fun m hm => ((h6 s hs).2 m hm).1⟩, in_i64 h0, in_i64 h1, in_i64 h2⟩
theorem bytesOpen (W : World) : Opens Try.prog W 35 (Kd.slice 5 (Kd.int .u8)) (fun l => l.length ≤ reachBytes ∧ Bytes l) :=
  (Opens.slice Try.underlying35 (by kernel_rfl) (Opens.int Try.underlying5)).imp fun l h => by
    have h3 : Try.prog.bytesOf 5 = 1 := by kernel_rfl
    have h1 := h.2.1
    rw [h3, Nat.mul_one] at h1
    refine ⟨h1, fun x hx => ?_⟩
    have h4 := h.2.2 x hx
    simp only [Lit.wf, Bool.and_eq_true, decide_eq_true_eq] at h4
    have h5 : (IntKind.u8.max : Int) = 255 := rfl
    have h6 : (IntKind.u8.min : Int) = 0 := rfl
    omega
theorem pair_int {α : Type} {b : Kd α} {W : World} {x : Int} {y : α} {cs : List Value} (h : (Kd.pair (Kd.int .i64) b).K W (x, y) cs) : ∃ c, cs = .int .i64 x :: c ∧ b.K W y c := by
  obtain ⟨c0, c1, rfl, h0, h1⟩ := h
  have h0' : c0 = [.int .i64 x] := h0
  subst h0'
  exact ⟨c1, rfl, h1⟩
theorem pair_row {α β : Type} {d : Kd β} {e : Nat} {b : Kd α} {W : World} {x : List β} {y : α} {cs : List Value} (h : (Kd.pair (Kd.slice e d) b).K W (x, y) cs) : ∃ A c k, cs = .slice A x.length k :: c ∧ x.length ≤ k ∧ d.C W A x.length x ∧ b.K W y c := by
  obtain ⟨c0, c1, rfl, ⟨A, k, h0, h2, h3⟩, h1⟩ := h
  subst h0
  exact ⟨A, c1, k, rfl, h2, h3, h1⟩
theorem st_cells {W : World} {s0 s1 s2 : Int} {ps : List S56} {ss : List (List S56)} {lo ra : Int} {cs : List Value} (h : kSt.K W (s0, s1, s2, ps, ss, lo, ra) cs) : ∃ A3 c3 A4 c4, cs = [.int .i64 s0, .int .i64 s1, .int .i64 s2, .slice A3 ps.length c3, .slice A4 ss.length c4, .int .i64 lo, .int .i64 ra] ∧
    ps.length ≤ c3 ∧ Kd.C k56 W A3 ps.length ps ∧ ss.length ≤ c4 ∧ Kd.C (Kd.slice 56 k56) W A4 ss.length ss := by
  obtain ⟨d0, e0, g0⟩ := pair_int h
  obtain ⟨d1, e1, g1⟩ := pair_int g0
  obtain ⟨d2, e2, g2⟩ := pair_int g1
  obtain ⟨A3, d3, c3, e3, h1, h2, g3⟩ := pair_row g2
  obtain ⟨A4, d4, c4, e4, h3, h4, g4⟩ := pair_row g3
  obtain ⟨d5, e5, g5⟩ := pair_int g4
  have h' : d5 = [.int .i64 ra] := g5
  exact ⟨A3, c3, A4, c4, by rw [e0, e1, e2, e3, e4, e5, h'], h1, h2, h3, h4⟩
set_option maxRecDepth 100000 in
theorem stateArg {W : World} {r : Reach} {b0 : Nat} {H : Type} {enc : TypeId × Value → H} {base : Nat} {spare : Nat → Bool} {held : Bool} {fuel : Nat} {v : Value} {y : DataW H × List MemPlace} (hok : Value.okWide Try.prog W r b0 25 v) (h : DataW.trod enc Try.prog W base spare held fuel 25 v.cells.toList = some y) (hz : ∀ n ∈ DataW.weights Try.prog 25 y.1, n ≤ reachBytes) :
    ∃ s0 s1 s2 A3 c3 ps A4 c4 ss lo ra, v = .agg #[.int .i64 s0, .int .i64 s1, .int .i64 s2, .slice A3 ps.length c3, .slice A4 ss.length c4, .int .i64 lo, .int .i64 ra] ∧ ps.length ≤ c3 ∧ Kd.C k56 W A3 ps.length ps ∧ ss.length ≤ c4 ∧ Kd.C (Kd.slice 56 k56) W A4 ss.length ss ∧ Came s0 s1 s2 ps ss lo ra := by
  obtain ⟨cs, rfl, _⟩ := okWide_struct Try.underlying25 hok
  obtain ⟨⟨s0, s1, s2, ps, ss, lo, ra⟩, hK, hp⟩ := stateOpen W _ _ _ _ _ _ _ _ h hz
  obtain ⟨A3, c3, A4, c4, hcs, h1, h2, h3, h4⟩ := st_cells hK
  have hcs' : cs.toList = _ := hcs
  refine ⟨_, _, _, A3, c3, _, A4, c4, _, _, _, ?_, h1, h2, h3, h4, hp⟩
  congr 1
  exact Array.toList_inj.1 hcs'
end Go.Proofs.Ytmiljlbbacbbpaa
