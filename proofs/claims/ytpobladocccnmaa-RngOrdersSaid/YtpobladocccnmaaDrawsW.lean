/- The walk of pupillaw6.drawn, and the law RngDraws: true, whatever the seed, the stream, the place, n and the width. -/
import Derived.Test.YtpobladocccnmaaBelowW
import Derived.Test.YtpobladocccnmaaUnifW
import Derived.Test.YtpobladocccnmaaUnifR
import Derived.Outline
namespace Go.Proofs.Ytpobladocccnmaa
open Go.RowKit Mix PBase UnifN
open Go.Proofs.YtpobladocccnmaaW.PrintWords Go.Proofs.YtpobladocccnmaaW.PrintLast Go.Proofs.YtpobladocccnmaaW.PrintMore
set_option linter.unusedVariables false
set_option linter.unusedSimpArgs false

set_option maxHeartbeats 1000000 in
set_option maxRecDepth 100000 in
theorem drawn_no_64 (s t a n : Int) (w : World) (hn : n < 1) :
    Calls Try.prog 18 #[.agg #[.int .i64 s, .int .i64 t, .int .i64 a], .int .i64 n, .int .i64 64] w fun e w' => e = .returned (.bool true) ∧ Below w.heap.size w w' := by
  have d1 : decide (n < 1) = true := decide_eq_true hn
  go_enter Try.func18, Try.ntmps18
  go_wp2_with fail
  refine (Below_no s t a n _ hn).mono ?_
  rintro e w1 ⟨rfl, hb⟩
  have HB1 := Aside0.mk (below_step ((Below.refl _ _).alloc (Nat.le_refl _) _) hb)
  have G1 := Aside0.mk ((IsS23.new w w s t a (Below.refl _ _)).below hb)
  clear hb
  obtain ⟨hI0, _⟩ := G1.out
  have c0 := cellS23_0 hI0
  have c1 := cellS23_1 hI0
  have c2 := cellS23_2 hI0
  clear hI0
  have hlt : w.heap.size < w1.heap.size := G1.out.lt
  go_wp2_with fail
  refine (Uniform64_calls s t a _).mono ?_
  rintro e w3 ⟨rfl, hb⟩
  generalize hU : (uni64 (wordP s t (uw a + 1) / 2048)) = U at *
  have HU := Aside0.mk hU
  clear hU
  have HB3 := Aside0.mk (below_step (below_alloc HB1.out _) hb)
  have G3 := Aside0.mk ((G1.out.alloc (.cells #[.int .i64 0, .int .i64 0, .int .i64 0] 23)).below hb)
  clear hb c0 c1 c2 hlt
  obtain ⟨hI0, _⟩ := G3.out
  have c0 := cellS23_0 hI0
  have c1 := cellS23_1 hI0
  have c2 := cellS23_2 hI0
  clear hI0
  have hlt : w.heap.size < w3.heap.size := G3.out.lt
  go_wp2_with fail
  refine (refUniform64_calls s t a _).mono ?_
  rintro e w4 ⟨rfl, hb⟩
  rw [HU.out]
  have HB4 := Aside0.mk (below_step (below_alloc HB3.out _) hb)
  have G4 := Aside0.mk ((IsS23.new w w3 s t (wrap64 (a + 1)) HB3.out).below hb)
  clear hb c0 c1 c2 hlt
  obtain ⟨hI0, _⟩ := G4.out
  have c0 := cellS23_0 hI0
  have c1 := cellS23_1 hI0
  have c2 := cellS23_2 hI0
  clear hI0
  have hlt : w3.heap.size < w4.heap.size := G4.out.lt
  go_wp2
  go_ret
  first | exact ⟨rfl, HB4.out⟩ | exact ⟨rfl, below_alloc HB4.out _⟩

set_option maxHeartbeats 1000000 in
set_option maxRecDepth 100000 in
theorem drawn_no_32 (s t a n : Int) (w : World) (hn : n < 1) :
    Calls Try.prog 18 #[.agg #[.int .i64 s, .int .i64 t, .int .i64 a], .int .i64 n, .int .i64 32] w fun e w' => e = .returned (.bool true) ∧ Below w.heap.size w w' := by
  have d1 : decide (n < 1) = true := decide_eq_true hn
  go_enter Try.func18, Try.ntmps18
  go_wp2_with fail
  refine (Below_no s t a n _ hn).mono ?_
  rintro e w1 ⟨rfl, hb⟩
  have HB1 := Aside0.mk (below_step ((Below.refl _ _).alloc (Nat.le_refl _) _) hb)
  have G1 := Aside0.mk ((IsS23.new w w s t a (Below.refl _ _)).below hb)
  clear hb
  obtain ⟨hI0, _⟩ := G1.out
  have c0 := cellS23_0 hI0
  have c1 := cellS23_1 hI0
  have c2 := cellS23_2 hI0
  clear hI0
  have hlt : w.heap.size < w1.heap.size := G1.out.lt
  go_wp2_with fail
  refine (Uniform32_calls s t a _).mono ?_
  rintro e w3 ⟨rfl, hb⟩
  generalize hU : (uni32 (wordP s t (uw a + 1) / 1099511627776)) = U at *
  have HU := Aside0.mk hU
  clear hU
  have HB3 := Aside0.mk (below_step (below_alloc HB1.out _) hb)
  have G3 := Aside0.mk ((G1.out.alloc (.cells #[.int .i64 0, .int .i64 0, .int .i64 0] 23)).below hb)
  clear hb c0 c1 c2 hlt
  obtain ⟨hI0, _⟩ := G3.out
  have c0 := cellS23_0 hI0
  have c1 := cellS23_1 hI0
  have c2 := cellS23_2 hI0
  clear hI0
  have hlt : w.heap.size < w3.heap.size := G3.out.lt
  go_wp2_with fail
  refine (refUniform32_calls s t a _).mono ?_
  rintro e w4 ⟨rfl, hb⟩
  rw [HU.out]
  have HB4 := Aside0.mk (below_step (below_alloc HB3.out _) hb)
  have G4 := Aside0.mk ((IsS23.new w w3 s t (wrap64 (a + 1)) HB3.out).below hb)
  clear hb c0 c1 c2 hlt
  obtain ⟨hI0, _⟩ := G4.out
  have c0 := cellS23_0 hI0
  have c1 := cellS23_1 hI0
  have c2 := cellS23_2 hI0
  clear hI0
  have hlt : w3.heap.size < w4.heap.size := G4.out.lt
  go_wp2
  go_ret
  first | exact ⟨rfl, HB4.out⟩ | exact ⟨rfl, below_alloc HB4.out _⟩

set_option maxHeartbeats 1000000 in
set_option maxRecDepth 100000 in
theorem drawn_no_no (s t a n : Int) (x : Int) (w : World) (hn : n < 1) (h1 : x ≠ 64) (h2 : x ≠ 32) :
    Calls Try.prog 18 #[.agg #[.int .i64 s, .int .i64 t, .int .i64 a], .int .i64 n, .int .i64 x] w fun e w' => e = .returned (.bool true) ∧ Below w.heap.size w w' := by
  have d1 : decide (n < 1) = true := decide_eq_true hn
  have x1 : (x == 64) = false := by simp [h1]
  have x2 : (x == 32) = false := by simp [h2]
  have x3 : (x != 64) = true := by simp [h1]
  have x4 : (x != 32) = true := by simp [h2]
  have H1 := Aside0.mk h1
  have H2 := Aside0.mk h2
  clear h1 h2
  go_enter Try.func18, Try.ntmps18
  go_wp2_with fail
  refine (Below_no s t a n _ hn).mono ?_
  rintro e w1 ⟨rfl, hb⟩
  have HB1 := Aside0.mk (below_step ((Below.refl _ _).alloc (Nat.le_refl _) _) hb)
  have G1 := Aside0.mk ((IsS23.new w w s t a (Below.refl _ _)).below hb)
  clear hb
  obtain ⟨hI0, _⟩ := G1.out
  have c0 := cellS23_0 hI0
  have c1 := cellS23_1 hI0
  have c2 := cellS23_2 hI0
  clear hI0
  have hlt : w.heap.size < w1.heap.size := G1.out.lt
  go_wp2_with fail
  refine (Uniform_no s t a x _ H1.out H2.out).mono ?_
  rintro e w3 ⟨rfl, hb⟩
  have HB3 := Aside0.mk (below_step (below_alloc HB1.out _) hb)
  have G3 := Aside0.mk ((G1.out.alloc (.cells #[.int .i64 0, .int .i64 0, .int .i64 0] 23)).below hb)
  clear hb c0 c1 c2 hlt
  obtain ⟨hI0, _⟩ := G3.out
  have c0 := cellS23_0 hI0
  have c1 := cellS23_1 hI0
  have c2 := cellS23_2 hI0
  clear hI0
  go_wp2
  go_ret
  first | exact ⟨rfl, HB3.out⟩ | exact ⟨rfl, below_alloc HB3.out _⟩

set_option maxHeartbeats 1000000 in
set_option maxRecDepth 100000 in
theorem drawn_yes_64 (s t a : Int) (n : Nat) (w : World) (hn : 0 < n) (hn2 : n ≤ 9223372036854775807) :
    Calls Try.prog 18 #[.agg #[.int .i64 s, .int .i64 t, .int .i64 a], .int .i64 (n : Int), .int .i64 64] w fun e w' => e = .returned (.bool true) ∧ Below w.heap.size w w' := by
  have d1 : decide ((n : Int) < 1) = false := decide_eq_false (by omega)
  have HN := Aside0.mk hn2
  have HN0 := Aside0.mk hn
  clear hn hn2
  go_enter Try.func18, Try.ntmps18
  go_wp2_with fail
  refine (Below_yes s t a n _ HN0.out HN.out).mono ?_
  rintro e w1 ⟨rfl, hb⟩
  obtain ⟨V, hV⟩ : ∃ V, V = belowV s t a n := ⟨_, rfl⟩
  obtain ⟨a2, ha2⟩ : ∃ x, x = belowA s t a n := ⟨_, rfl⟩
  rw [← hV, ← ha2]
  have HV := Aside0.mk hV
  have HA2 := Aside0.mk ha2
  clear hV ha2
  have HB1 := Aside0.mk (below_step ((Below.refl _ _).alloc (Nat.le_refl _) _) hb)
  have G1 := Aside0.mk ((IsS23.new w w s t a (Below.refl _ _)).below hb)
  clear hb
  obtain ⟨hI0, _⟩ := G1.out
  have c0 := cellS23_0 hI0
  have c1 := cellS23_1 hI0
  have c2 := cellS23_2 hI0
  clear hI0
  have hlt : w.heap.size < w1.heap.size := G1.out.lt
  go_wp2_with fail
  refine (refBelow_calls s t a n _ HN0.out HN.out).mono ?_
  rintro e w2 ⟨rfl, hb⟩
  rw [← HV.out, ← HA2.out]
  have HB2 := Aside0.mk (below_step (below_alloc HB1.out _) hb)
  have G2 := Aside0.mk ((G1.out.alloc (.cells #[.int .i64 s, .int .i64 t, .int .i64 a2] 23)).below hb)
  have GE := Aside0.mk ((IsS23.new w w1 s t a2 HB1.out).below hb)
  clear hb c0 c1 c2 G1 HB1 hlt
  obtain ⟨hI0, _⟩ := G2.out
  have c0 := cellS23_0 hI0
  have c1 := cellS23_1 hI0
  have c2 := cellS23_2 hI0
  clear hI0
  obtain ⟨hI0, _⟩ := GE.out
  have e0 := cellS23_0 hI0
  have e1 := cellS23_1 hI0
  have e2 := cellS23_2 hI0
  clear hI0
  have hlt : w.heap.size < w2.heap.size := G2.out.lt
  have hlt1 : w1.heap.size < w2.heap.size := GE.out.lt
  go_wp2_with fail
  refine (Uniform64_calls s t a _).mono ?_
  rintro e w3 ⟨rfl, hb⟩
  generalize hU : (uni64 (wordP s t (uw a + 1) / 2048)) = U at *
  have HU := Aside0.mk hU
  clear hU
  have HB3 := Aside0.mk (below_step (below_alloc HB2.out _) hb)
  have G3 := Aside0.mk ((G2.out.alloc (.cells #[.int .i64 s, .int .i64 t, .int .i64 a2] 23)).below hb)
  clear hb c0 c1 c2 hlt
  clear e0 e1 e2 hlt1
  obtain ⟨hI0, _⟩ := G3.out
  have c0 := cellS23_0 hI0
  have c1 := cellS23_1 hI0
  have c2 := cellS23_2 hI0
  clear hI0
  have hlt : w.heap.size < w3.heap.size := G3.out.lt
  go_wp2_with fail
  refine (refUniform64_calls s t a _).mono ?_
  rintro e w4 ⟨rfl, hb⟩
  rw [HU.out]
  have HB4 := Aside0.mk (below_step (below_alloc HB3.out _) hb)
  have G4 := Aside0.mk ((IsS23.new w w3 s t (wrap64 (a + 1)) HB3.out).below hb)
  clear hb c0 c1 c2 hlt
  obtain ⟨hI0, _⟩ := G4.out
  have c0 := cellS23_0 hI0
  have c1 := cellS23_1 hI0
  have c2 := cellS23_2 hI0
  clear hI0
  have hlt : w3.heap.size < w4.heap.size := G4.out.lt
  go_wp2
  go_ret
  first | exact ⟨rfl, HB4.out⟩ | exact ⟨rfl, below_alloc HB4.out _⟩

set_option maxHeartbeats 1000000 in
set_option maxRecDepth 100000 in
theorem drawn_yes_32 (s t a : Int) (n : Nat) (w : World) (hn : 0 < n) (hn2 : n ≤ 9223372036854775807) :
    Calls Try.prog 18 #[.agg #[.int .i64 s, .int .i64 t, .int .i64 a], .int .i64 (n : Int), .int .i64 32] w fun e w' => e = .returned (.bool true) ∧ Below w.heap.size w w' := by
  have d1 : decide ((n : Int) < 1) = false := decide_eq_false (by omega)
  have HN := Aside0.mk hn2
  have HN0 := Aside0.mk hn
  clear hn hn2
  go_enter Try.func18, Try.ntmps18
  go_wp2_with fail
  refine (Below_yes s t a n _ HN0.out HN.out).mono ?_
  rintro e w1 ⟨rfl, hb⟩
  obtain ⟨V, hV⟩ : ∃ V, V = belowV s t a n := ⟨_, rfl⟩
  obtain ⟨a2, ha2⟩ : ∃ x, x = belowA s t a n := ⟨_, rfl⟩
  rw [← hV, ← ha2]
  have HV := Aside0.mk hV
  have HA2 := Aside0.mk ha2
  clear hV ha2
  have HB1 := Aside0.mk (below_step ((Below.refl _ _).alloc (Nat.le_refl _) _) hb)
  have G1 := Aside0.mk ((IsS23.new w w s t a (Below.refl _ _)).below hb)
  clear hb
  obtain ⟨hI0, _⟩ := G1.out
  have c0 := cellS23_0 hI0
  have c1 := cellS23_1 hI0
  have c2 := cellS23_2 hI0
  clear hI0
  have hlt : w.heap.size < w1.heap.size := G1.out.lt
  go_wp2_with fail
  refine (refBelow_calls s t a n _ HN0.out HN.out).mono ?_
  rintro e w2 ⟨rfl, hb⟩
  rw [← HV.out, ← HA2.out]
  have HB2 := Aside0.mk (below_step (below_alloc HB1.out _) hb)
  have G2 := Aside0.mk ((G1.out.alloc (.cells #[.int .i64 s, .int .i64 t, .int .i64 a2] 23)).below hb)
  have GE := Aside0.mk ((IsS23.new w w1 s t a2 HB1.out).below hb)
  clear hb c0 c1 c2 G1 HB1 hlt
  obtain ⟨hI0, _⟩ := G2.out
  have c0 := cellS23_0 hI0
  have c1 := cellS23_1 hI0
  have c2 := cellS23_2 hI0
  clear hI0
  obtain ⟨hI0, _⟩ := GE.out
  have e0 := cellS23_0 hI0
  have e1 := cellS23_1 hI0
  have e2 := cellS23_2 hI0
  clear hI0
  have hlt : w.heap.size < w2.heap.size := G2.out.lt
  have hlt1 : w1.heap.size < w2.heap.size := GE.out.lt
  go_wp2_with fail
  refine (Uniform32_calls s t a _).mono ?_
  rintro e w3 ⟨rfl, hb⟩
  generalize hU : (uni32 (wordP s t (uw a + 1) / 1099511627776)) = U at *
  have HU := Aside0.mk hU
  clear hU
  have HB3 := Aside0.mk (below_step (below_alloc HB2.out _) hb)
  have G3 := Aside0.mk ((G2.out.alloc (.cells #[.int .i64 s, .int .i64 t, .int .i64 a2] 23)).below hb)
  clear hb c0 c1 c2 hlt
  clear e0 e1 e2 hlt1
  obtain ⟨hI0, _⟩ := G3.out
  have c0 := cellS23_0 hI0
  have c1 := cellS23_1 hI0
  have c2 := cellS23_2 hI0
  clear hI0
  have hlt : w.heap.size < w3.heap.size := G3.out.lt
  go_wp2_with fail
  refine (refUniform32_calls s t a _).mono ?_
  rintro e w4 ⟨rfl, hb⟩
  rw [HU.out]
  have HB4 := Aside0.mk (below_step (below_alloc HB3.out _) hb)
  have G4 := Aside0.mk ((IsS23.new w w3 s t (wrap64 (a + 1)) HB3.out).below hb)
  clear hb c0 c1 c2 hlt
  obtain ⟨hI0, _⟩ := G4.out
  have c0 := cellS23_0 hI0
  have c1 := cellS23_1 hI0
  have c2 := cellS23_2 hI0
  clear hI0
  have hlt : w3.heap.size < w4.heap.size := G4.out.lt
  go_wp2
  go_ret
  first | exact ⟨rfl, HB4.out⟩ | exact ⟨rfl, below_alloc HB4.out _⟩

set_option maxHeartbeats 1000000 in
set_option maxRecDepth 100000 in
theorem drawn_yes_no (s t a : Int) (n : Nat) (x : Int) (w : World) (hn : 0 < n) (hn2 : n ≤ 9223372036854775807) (h1 : x ≠ 64) (h2 : x ≠ 32) :
    Calls Try.prog 18 #[.agg #[.int .i64 s, .int .i64 t, .int .i64 a], .int .i64 (n : Int), .int .i64 x] w fun e w' => e = .returned (.bool true) ∧ Below w.heap.size w w' := by
  have d1 : decide ((n : Int) < 1) = false := decide_eq_false (by omega)
  have HN := Aside0.mk hn2
  have HN0 := Aside0.mk hn
  clear hn hn2
  have x1 : (x == 64) = false := by simp [h1]
  have x2 : (x == 32) = false := by simp [h2]
  have x3 : (x != 64) = true := by simp [h1]
  have x4 : (x != 32) = true := by simp [h2]
  have H1 := Aside0.mk h1
  have H2 := Aside0.mk h2
  clear h1 h2
  go_enter Try.func18, Try.ntmps18
  go_wp2_with fail
  refine (Below_yes s t a n _ HN0.out HN.out).mono ?_
  rintro e w1 ⟨rfl, hb⟩
  obtain ⟨V, hV⟩ : ∃ V, V = belowV s t a n := ⟨_, rfl⟩
  obtain ⟨a2, ha2⟩ : ∃ x, x = belowA s t a n := ⟨_, rfl⟩
  rw [← hV, ← ha2]
  have HV := Aside0.mk hV
  have HA2 := Aside0.mk ha2
  clear hV ha2
  have HB1 := Aside0.mk (below_step ((Below.refl _ _).alloc (Nat.le_refl _) _) hb)
  have G1 := Aside0.mk ((IsS23.new w w s t a (Below.refl _ _)).below hb)
  clear hb
  obtain ⟨hI0, _⟩ := G1.out
  have c0 := cellS23_0 hI0
  have c1 := cellS23_1 hI0
  have c2 := cellS23_2 hI0
  clear hI0
  have hlt : w.heap.size < w1.heap.size := G1.out.lt
  go_wp2_with fail
  refine (refBelow_calls s t a n _ HN0.out HN.out).mono ?_
  rintro e w2 ⟨rfl, hb⟩
  rw [← HV.out, ← HA2.out]
  have HB2 := Aside0.mk (below_step (below_alloc HB1.out _) hb)
  have G2 := Aside0.mk ((G1.out.alloc (.cells #[.int .i64 s, .int .i64 t, .int .i64 a2] 23)).below hb)
  have GE := Aside0.mk ((IsS23.new w w1 s t a2 HB1.out).below hb)
  clear hb c0 c1 c2 G1 HB1 hlt
  obtain ⟨hI0, _⟩ := G2.out
  have c0 := cellS23_0 hI0
  have c1 := cellS23_1 hI0
  have c2 := cellS23_2 hI0
  clear hI0
  obtain ⟨hI0, _⟩ := GE.out
  have e0 := cellS23_0 hI0
  have e1 := cellS23_1 hI0
  have e2 := cellS23_2 hI0
  clear hI0
  have hlt : w.heap.size < w2.heap.size := G2.out.lt
  have hlt1 : w1.heap.size < w2.heap.size := GE.out.lt
  go_wp2_with fail
  refine (Uniform_no s t a x _ H1.out H2.out).mono ?_
  rintro e w3 ⟨rfl, hb⟩
  have HB3 := Aside0.mk (below_step (below_alloc HB2.out _) hb)
  have G3 := Aside0.mk ((G2.out.alloc (.cells #[.int .i64 s, .int .i64 t, .int .i64 a2] 23)).below hb)
  clear hb c0 c1 c2 hlt
  clear e0 e1 e2 hlt1
  obtain ⟨hI0, _⟩ := G3.out
  have c0 := cellS23_0 hI0
  have c1 := cellS23_1 hI0
  have c2 := cellS23_2 hI0
  clear hI0
  go_wp2
  go_ret
  first | exact ⟨rfl, HB3.out⟩ | exact ⟨rfl, below_alloc HB3.out _⟩

theorem drawn_calls (s t a n x : Int) (w : World) (hn : -9223372036854775808 ≤ n ∧ n ≤ 9223372036854775807) :
    Calls Try.prog 18 #[.agg #[.int .i64 s, .int .i64 t, .int .i64 a], .int .i64 n, .int .i64 x] w fun e w' => e = .returned (.bool true) ∧ Below w.heap.size w w' := by
  by_cases h64 : x = 64
  · subst h64
    by_cases h : n < 1
    · exact drawn_no_64 s t a n w h
    · obtain ⟨m, rfl⟩ := Int.eq_ofNat_of_zero_le (show 0 ≤ n by omega)
      exact drawn_yes_64 s t a m w (by omega) (by omega)
  · by_cases h32 : x = 32
    · subst h32
      by_cases h : n < 1
      · exact drawn_no_32 s t a n w h
      · obtain ⟨m, rfl⟩ := Int.eq_ofNat_of_zero_le (show 0 ≤ n by omega)
        exact drawn_yes_32 s t a m w (by omega) (by omega)
    · by_cases h : n < 1
      · exact drawn_no_no s t a n x w h h64 h32
      · obtain ⟨m, rfl⟩ := Int.eq_ofNat_of_zero_le (show 0 ≤ n by omega)
        exact drawn_yes_no s t a m x w (by omega) (by omega) h64 h32

set_option maxHeartbeats 1000000 in
set_option maxRecDepth 100000 in
theorem RngDraws_calls (s t a n x : Int) (w : World) (hn : -9223372036854775808 ≤ n ∧ n ≤ 9223372036854775807) :
    Calls Try.prog 7 #[.agg #[.int .i64 s, .int .i64 t, .int .i64 a], .int .i64 n, .int .i64 x] w fun e w' => e = .returned (.bool true) ∧ Below w.heap.size w w' := by
  have HN := Aside0.mk hn
  clear hn
  go_enter Try.func7, Try.ntmps7
  go_wp2_with fail
  refine (alive_calls _).mono ?_
  rintro e w1 ⟨rfl, hb⟩
  have HB1 := Aside0.mk (below_step ((Below.refl _ _).alloc (Nat.le_refl _) _) hb)
  have G1 := Aside0.mk ((IsS23.new w w s t a (Below.refl _ _)).below hb)
  clear hb
  obtain ⟨hI0, _⟩ := G1.out
  have c0 := cellS23_0 hI0
  have c1 := cellS23_1 hI0
  have c2 := cellS23_2 hI0
  clear hI0
  go_wp2_with fail
  refine (drawn_calls s t a n x _ HN.out).mono ?_
  rintro e w2 ⟨rfl, hb⟩
  have HB2 := Aside0.mk (below_step HB1.out hb)
  go_wp2
  go_ret
  exact ⟨rfl, HB2.out⟩

end Go.Proofs.Ytpobladocccnmaa
