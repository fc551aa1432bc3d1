/- StateCut: the law's contract. -/
import Derived.Test.YtmiljlbbacbbpaaCutW
namespace Go.Proofs.Ytmiljlbbacbbpaa
open Go.RowKit PBase
open Go.Proofs.YtmiljlbbacbbpaaW.PrintWords Go.Proofs.YtmiljlbbacbbpaaW.PrintLast Go.Proofs.YtmiljlbbacbbpaaW.PrintMore
set_option linter.unusedVariables false
theorem Came.bulk {s0 s1 s2 : Int} {ps : List S56} {ss : List (List S56)} {lo ra : Int} (hc : Came s0 s1 s2 ps ss lo ra) : Some (fun k => pupillaw23_bulk.f k s0 s1 s2 ps ss lo ra) :=
  bulk_some s0 s1 s2 ps ss lo ra (by have := hc.lp; omega) (by have := hc.ls; omega) (fun s hs => by have := (hc.ms s hs).1; omega)
theorem same_zero : Ev (fun k => pupillaw23_same.f k 0 0 0 [] [] 0 0 0 0 0 [] [] 0 0) true := same_all 0 0 0 [] [] 0 0 ⟨by decide, by decide⟩ (by decide) (by simp)
theorem bytes_take {b : List Int} (h : Bytes b) (n : Nat) : Bytes (b.take n) := fun x hx => h x (List.mem_of_mem_take hx)
theorem bytes_zero : Bytes [0] := by
  intro x hx
  have : x = 0 := by simpa using hx
  omega
theorem cut_calls {s0 s1 s2 : Int} {ps : List S56} {ss : List (List S56)} {lo ra : Int} (hc : Came s0 s1 s2 ps ss lo ra) {A3 A4 : Option Addr} {c3 c4 : Nat} {cut : Int} (hcut : -9223372036854775808 ≤ cut ∧ cut ≤ 9223372036854775807) (w : World) (h3 : Kd.C k56 w A3 ps.length ps) (k3 : ps.length ≤ c3) (h4 : Kd.C (Kd.slice 56 k56) w A4 ss.length ss) (k4 : ss.length ≤ c4) :
    Calls Try.prog 7 #[.agg #[.int .i64 s0, .int .i64 s1, .int .i64 s2, .slice A3 ps.length c3, .slice A4 ss.length c4, .int .i64 lo, .int .i64 ra], .int .i64 cut] w fun e w' => e = .returned (.bool true) ∧ Below w.heap.size w w' := by
  obtain ⟨n, Kb, hKb⟩ := hc.bulk
  obtain ⟨Kw, hKw⟩ := write_ev s0 s1 s2 ps ss lo ra
  obtain ⟨k2, hS⟩ := same_zero.one
  have hb := hKb (Kb + Kw) (by omega)
  have hw := hKw (Kb + Kw) (by omega)
  simp only at hb hw
  by_cases hck : checkV s0 s1 s2 ps ss = 0
  · rw [if_pos hck] at hw
    have hwh := whole_of hck
    have hr := write_read hwh hc.w
    have hfar := write_far hwh lo ra
    have hpos := write_pos s0 s1 s2 ps ss lo ra
    have hB := write_bytes s0 s1 s2 ps ss lo ra
    obtain ⟨m, hm, hml⟩ := within_in (x := cut) (n := (writeP s0 s1 s2 ps ss lo ra).length) (by omega) (by omega) (by omega)
    refine cut_walk s0 s1 s2 A3 c3 ps A4 c4 ss lo ra cut w ⟨k3, h3, k4, h4⟩ _ n _ 0 hb hw m (fun _ => ⟨hm, hml, by omega, hB, ?_, ?_⟩) k2 hS
    · exact read_stopped (bytes_take hB m) (read_cut hr hml)
    · exact read_stopped (bytes_append hB bytes_zero) (read_more 0 hr (by omega))
  · rw [if_neg hck] at hw
    exact cut_walk s0 s1 s2 A3 c3 ps A4 c4 ss lo ra cut w ⟨k3, h3, k4, h4⟩ _ n _ _ hb hw 0 (fun h => absurd h hck) k2 hS
end Go.Proofs.Ytmiljlbbacbbpaa
