/- The law RngWords, walked: it comes to true, whatever the seed, the stream, the place and the numbers. -/
import Derived.Test.YtpobladocccnmaaAlive
import Derived.Outline
namespace Go.Proofs.Ytpobladocccnmaa
open Go.RowKit Mix PBase
open Go.Proofs.YtpobladocccnmaaW.PrintWords Go.Proofs.YtpobladocccnmaaW.PrintLast Go.Proofs.YtpobladocccnmaaW.PrintMore
set_option linter.unusedVariables false
set_option linter.unusedSimpArgs false

theorem rngNext_eq (s t a : Int) : rng_Next.f s t a = some (wrap64 ((wordP s t (uw a + 1) : Nat) : Int), s, t, wrap64 (a + 1)) := by
  unfold rng_Next.f
  rw [rng_Word_eq, Option.bind_some, uw_zero, Nat.add_zero]

theorem words_true (s t a i k : Int) : pupillaw6_words.f s t a i k = some true := by
  unfold pupillaw6_words.f
  rw [rngNext_eq, refNext_eq, rng_Word_eq, ref_Word_eq, rng_Split_eq, ref_Split_eq]
  generalize wrap64 ((wordP s t (uw a + 1) : Nat) : Int) = X
  generalize wrap64 ((wordP s t (uw a + uw i + 1) : Nat) : Int) = Y
  generalize splitN s t k = Z
  generalize wrap64 (a + 1) = V
  rw [Option.bind_some, Option.bind_some, Option.bind_some, Option.bind_some, if_pos rfl, if_pos rfl, if_pos (by simp), Option.bind_some, Option.bind_some]
  simp

set_option maxHeartbeats 1000000 in
set_option maxRecDepth 100000 in
theorem RngWords_calls (s t a i k : Int) (w : World) : Calls Try.prog 5 #[.agg #[.int .i64 s, .int .i64 t, .int .i64 a], .int .i64 i, .int .i64 k] w fun e w' => e = .returned (.bool true) ∧ Below w.heap.size w w' := by
  go_enter Try.func5, Try.ntmps5
  go_wp2_with fail
  refine (alive_calls _).mono ?_
  rintro e w2 ⟨rfl, hb⟩
  have HB := Aside0.mk (below_step ((Below.refl _ _).alloc (Nat.le_refl _) _) hb)
  have G1 := (IsS23.new w w s t a (Below.refl _ _)).below hb
  obtain ⟨hI0, _⟩ := G1
  have c0 := cellS23_0 hI0
  have c1 := cellS23_1 hI0
  have c2 := cellS23_2 hI0
  clear hI0 hb
  go_wp2_with fail
  refine (pupillaw6_words.calls s t a i k true _ (words_true s t a i k)).mono ?_
  rintro e w3 ⟨rfl, hb3⟩
  have HB3 := Aside0.mk (below_step HB.out hb3)
  go_wp2
  go_ret
  exact ⟨rfl, HB3.out⟩

end Go.Proofs.Ytpobladocccnmaa
