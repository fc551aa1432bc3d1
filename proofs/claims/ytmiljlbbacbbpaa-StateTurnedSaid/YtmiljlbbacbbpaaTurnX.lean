/- StateTurned: the law's contract. -/
import Derived.Test.YtmiljlbbacbbpaaTurnW
import Derived.Test.YtmiljlbbacbbpaaTurnQ
import Derived.Test.YtmiljlbbacbbpaaCutX
namespace Go.Proofs.Ytmiljlbbacbbpaa
open Go.RowKit PBase
open Go.Proofs.YtmiljlbbacbbpaaW.PrintWords Go.Proofs.YtmiljlbbacbbpaaW.PrintLast Go.Proofs.YtmiljlbbacbbpaaW.PrintMore
set_option linter.unusedVariables false
theorem turn_calls {s0 s1 s2 : Int} {ps : List S56} {ss : List (List S56)} {lo ra : Int} (hc : Came s0 s1 s2 ps ss lo ra) {A3 A4 : Option Addr} {c3 c4 : Nat} {p t : Int} (hp : -9223372036854775808 ≤ p ∧ p ≤ 9223372036854775807) (ht : 0 ≤ t ∧ t < 256) (w : World) (h3 : Kd.C k56 w A3 ps.length ps) (k3 : ps.length ≤ c3) (h4 : Kd.C (Kd.slice 56 k56) w A4 ss.length ss) (k4 : ss.length ≤ c4) :
    Calls Try.prog 8 #[.agg #[.int .i64 s0, .int .i64 s1, .int .i64 s2, .slice A3 ps.length c3, .slice A4 ss.length c4, .int .i64 lo, .int .i64 ra], .int .i64 p, .int .u8 t] w fun e w' => e = .returned (.bool true) ∧ Below w.heap.size w w' := by
  obtain ⟨n, Kb, hKb⟩ := hc.bulk
  obtain ⟨Kw, hKw⟩ := write_ev s0 s1 s2 ps ss lo ra
  obtain ⟨k2, hS⟩ := same_zero.one
  have hb := hKb (Kb + Kw) (by omega)
  have hw := hKw (Kb + Kw) (by omega)
  simp only at hb hw
  by_cases hck : checkV s0 s1 s2 ps ss = 0
  · rw [if_pos hck] at hw
    have hwh := whole_of hck
    have hr := write_read hwh hc.w
    have hfar := write_far hwh lo ra
    have hpos := write_pos s0 s1 s2 ps ss lo ra
    have hB := write_bytes s0 s1 s2 ps ss lo ra
    obtain ⟨kS, hSS⟩ := (same_all s0 s1 s2 ps ss lo ra hwh.small.hp hwh.small.hl hwh.small.hs).one
    obtain ⟨m, hm, hml⟩ := within_in (x := p) (n := (writeP s0 s1 s2 ps ss lo ra).length) (by omega) (by omega) (by omega)
    have hBs : Bytes ((writeP s0 s1 s2 ps ss lo ra).set m t) := fun x hx => (List.mem_or_eq_of_mem_set hx).elim (hB x) (fun e => e ▸ ht)
    refine turn_walk s0 s1 s2 A3 c3 ps A4 c4 ss lo ra p t w ⟨k3, h3, k4, h4⟩ _ n _ 0 hb hw m k2 kS (fun _ => ⟨hm, hml, by omega, fun he => ⟨?_, hSS⟩, fun hne => ?_⟩) hS
    · have e : (writeP s0 s1 s2 ps ss lo ra).set m t = writeP s0 s1 s2 ps ss lo ra := by
        rw [he, List.getD_eq_getElem?_getD, List.getElem?_eq_getElem hml]
        exact List.set_getElem_self hml
      rw [e]
      exact read_ok hB hr
    · obtain ⟨q, pl, h1, h2, h3, h4⟩ := read_turned hwh hc.w hml ht (fun h => hne h.symm)
      exact ⟨q, pl, read_stopped hBs h1, h2, h3, h4⟩
  · rw [if_neg hck] at hw
    exact turn_walk s0 s1 s2 A3 c3 ps A4 c4 ss lo ra p t w ⟨k3, h3, k4, h4⟩ _ n _ _ hb hw 0 k2 0 (fun h => absurd h hck) hS
end Go.Proofs.Ytmiljlbbacbbpaa
