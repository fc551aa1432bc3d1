/- bits.Less, bits.FromInt, and the law RngUniform. -/
import Derived.Test.YtpobladocccnmaaUniX
import Derived.Test.YtpobladocccnmaaUnifW
namespace Go.Proofs.Ytpobladocccnmaa
open Go.RowKit Mix PBase UnifN
open Go.Proofs.YtpobladocccnmaaW.PrintWords Go.Proofs.YtpobladocccnmaaW.PrintLast Go.Proofs.YtpobladocccnmaaW.PrintMore
set_option linter.unusedVariables false
set_option linter.unusedSimpArgs false

set_option maxHeartbeats 1000000 in
set_option maxRecDepth 100000 in
theorem wide64_calls (b : Nat) (hb : b < 9223372036854775808) (w : World) :
    Calls Try.prog 45 #[.int .i64 b, .int .i64 64] w fun e w' => e = .returned (.tuple #[.float .f64 b, .bool true]) ∧ Below w.heap.size w w' := by
  have h2 := run_f64from (b : Int)
  simp only [Int.toNat_natCast] at h2
  have h3 : (b : Int) % 18446744073709551616 = (b : Int) := by omega
  clear hb
  go_enter Try.func45, Try.ntmps45
  go_wp2
  go_ret2
  exact ⟨rfl, Below.refl _ _⟩

set_option maxHeartbeats 1000000 in
set_option maxRecDepth 100000 in
theorem Float32_calls (b : Nat) (hb : b < 2147483648) (w : World) :
    Calls Try.prog 60 #[.int .i64 b] w fun e w' => e = .returned (.float .f32 b) ∧ Below w.heap.size w w' := by
  have h2 := run_f32from (b : Int)
  simp only [Int.toNat_natCast] at h2
  have h3 : (b : Int) % 4294967296 = (b : Int) := by omega
  have HV := Aside0.mk (show PParts.bits_Valid.f (b : Int) 32 = some true by
    unfold PParts.bits_Valid.f
    rw [if_neg (by decide), if_pos rfl]
    congr 1
    rw [beq_iff_eq]
    omega)
  clear hb
  go_enter Try.func60, Try.ntmps60
  go_wp2_with fail
  refine (PParts.bits_Valid.calls (b : Int) 32 true w HV.out).mono ?_
  rintro e w2 ⟨rfl, hb⟩
  have HB := Aside0.mk hb.below
  clear hb
  go_wp2
  go_ret
  exact ⟨rfl, HB.out⟩
set_option maxHeartbeats 1000000 in
set_option maxRecDepth 100000 in
theorem wide32_calls (b D : Nat) (hb : b < 2147483648) (hw : ∀ w : World, (convert 65 63 (.float .f32 b)).run Try.prog w = .ok (.float .f64 D) w) (w : World) :
    Calls Try.prog 45 #[.int .i64 b, .int .i64 32] w fun e w' => e = .returned (.tuple #[.float .f64 D, .bool true]) ∧ Below w.heap.size w w' := by
  have HF := Aside0.mk (Float32_calls b hb w)
  clear hb
  go_enter Try.func45, Try.ntmps45
  go_wp2_with fail
  refine HF.out.mono ?_
  rintro e w2 ⟨rfl, hb⟩
  have HB := Aside0.mk hb
  clear hb
  go_wp2
  go_ret2
  exact ⟨rfl, HB.out⟩

set_option maxHeartbeats 1000000 in
set_option maxRecDepth 100000 in
theorem less_calls (a b x : Int) (X Y : Nat) (hX : X < 9218868437227405312) (hY : Y < 9218868437227405312)
    (ha : ∀ w, Calls Try.prog 45 #[.int .i64 a, .int .i64 x] w fun e w' => e = .returned (.tuple #[.float .f64 X, .bool true]) ∧ Below w.heap.size w w')
    (hb : ∀ w, Calls Try.prog 45 #[.int .i64 b, .int .i64 x] w fun e w' => e = .returned (.tuple #[.float .f64 Y, .bool true]) ∧ Below w.heap.size w w') (w : World) :
    Calls Try.prog 21 #[.int .i64 a, .int .i64 b, .int .i64 x] w fun e w' => e = .returned (.bool (decide (X < Y))) ∧ Below w.heap.size w w' := by
  have d1 : (FloatKind.f64.format.order X Y == some .lt) = decide (X < Y) := by
    rw [ord_f hX hY, Bool.eq_iff_iff]
    simp [Nat.compare_eq_lt]
  have HA := Aside0.mk ha
  have HB0 := Aside0.mk hb
  clear ha hb hX hY
  generalize decide (X < Y) = t at d1 ⊢
  go_enter Try.func21, Try.ntmps21
  go_wp2_with fail
  refine (HA.out w).mono ?_
  rintro e w2 ⟨rfl, hb⟩
  have HB := Aside0.mk hb
  clear hb
  go_wp2_with fail
  refine (HB0.out w2).mono ?_
  rintro e w3 ⟨rfl, hb⟩
  replace HB := Aside0.mk (below_step HB.out hb)
  clear hb
  go_wp2
  go_ret
  exact ⟨rfl, HB.out⟩

set_option maxHeartbeats 1000000 in
set_option maxRecDepth 100000 in
theorem one64_calls (w : World) : Calls Try.prog 22 #[.int .i64 1, .int .i64 64] w fun e w' => e = .returned (.int .i64 ((4607182418800017408 : Nat) : Int)) ∧ Below w.heap.size w w' := by
  have hXX : floatOfInt .f64 1 = 4607182418800017408 := by decide +kernel
  go_enter Try.func22, Try.ntmps22
  go_wp2_with fail
  refine (Of_calls 4607182418800017408 (by decide) w).mono ?_
  rintro e w2 ⟨rfl, hb⟩
  have HB := Aside0.mk hb
  clear hb hXX
  go_wp2
  go_ret
  exact ⟨rfl, HB.out⟩
set_option maxHeartbeats 1000000 in
set_option maxRecDepth 100000 in
theorem one32_calls (w : World) : Calls Try.prog 22 #[.int .i64 1, .int .i64 32] w fun e w' => e = .returned (.int .i64 ((1065353216 : Nat) : Int)) ∧ Below w.heap.size w w' := by
  have hXX : floatOfInt .f32 1 = 1065353216 := by decide +kernel
  go_enter Try.func22, Try.ntmps22
  go_wp2_with fail
  refine (Of32_calls 1065353216 (by decide) w).mono ?_
  rintro e w2 ⟨rfl, hb⟩
  have HB := Aside0.mk hb
  clear hb hXX
  go_wp2
  go_ret
  exact ⟨rfl, HB.out⟩

theorem and_one_cases (x : Int) : bits .and .i64 x 1 = 0 ∨ bits .and .i64 x 1 = 1 := by
  have h2 : (BitVec.ofInt 64 (1 : Int)).toNat = 2 ^ 1 - 1 := by decide
  have e : bits .and .i64 x 1 = IntKind.i64.wrap ((BitVec.ofInt 64 x &&& BitVec.ofInt 64 (1 : Int)).toNat : Int) := rfl
  rw [e, BitVec.toNat_and, h2, Nat.and_two_pow_sub_one_eq_mod, IntKind.wrap_i64]
  omega

def dv (m : Nat) : Nat := if m = 0 then 0 else dbl24 m
theorem dv_lt {m : Nat} (h : m < 16777216) : dv m < 4607182418800017408 := by
  unfold dv
  split
  · decide
  · rename_i hm
    have hl := log24 h hm
    have hf := full_lt (fb := 52) (m := m) (by omega) (by omega)
    have p53 : (2 : Nat) ^ (52 + 1) = 9007199254740992 := by decide
    rw [p53] at hf
    unfold dbl24
    omega
theorem dv_wide {m : Nat} (h : m < 16777216) (w : World) : (convert 65 63 (.float .f32 (uni32 m))).run Try.prog w = .ok (.float .f64 (dv m)) w := by
  unfold dv
  split
  · rename_i hm
    subst hm
    exact run_convert_float_float w 65 63 .f32 .f64 _ _ (by kernel_rfl) Try.underlying63 (by decide)
  · rename_i hm
    exact run_convert_float_float w 65 63 .f32 .f64 _ _ (by kernel_rfl) Try.underlying63 (widen24 h hm)
theorem join64_any (m : Nat) (h : m < 9007199254740992) (w : World) :
    Calls Try.prog 20 #[.bool false, .int .i64 m, .int .i64 (-53), .int .i64 64] w fun e w' => e = .returned (.tuple #[.int .i64 (uni64 m : Nat), .bool true]) ∧ Below w.heap.size w w' := by
  by_cases hm : m = 0
  · subst hm; exact Join64_zero w
  · exact Join64_calls m (by omega) h w
theorem join32_any (m : Nat) (h : m < 16777216) (w : World) :
    Calls Try.prog 20 #[.bool false, .int .i64 m, .int .i64 (-24), .int .i64 32] w fun e w' => e = .returned (.tuple #[.int .i64 (uni32 m : Nat), .bool true]) ∧ Below w.heap.size w w' := by
  by_cases hm : m = 0
  · subst hm; exact Join32_zero w
  · exact Join32_calls m (by omega) h w

set_option maxHeartbeats 2000000 in
set_option maxRecDepth 100000 in
theorem uniform_64 (s t a x : Int) (hx : bits .and .i64 x 1 = 1) (w : World) :
    Calls Try.prog 8 #[.agg #[.int .i64 s, .int .i64 t, .int .i64 a], .int .i64 x] w fun e w' => e = .returned (.bool true) ∧ Below w.heap.size w w' := by
  obtain ⟨W, hW⟩ : ∃ W, W = wordP s t (uw a + 1) := ⟨_, rfl⟩
  have hWl : W < 18446744073709551616 := by rw [hW]; exact wordP_lt _ _ _
  have HWd := Aside0.mk (show rng_Word.f s t a 0 = some (wrap64 (W : Int)) by rw [rng_Word_eq, hW, uw_zero])
  have HU := Aside0.mk (Uniform64_calls s t a)
  rw [← hW] at HU
  clear hW
  obtain ⟨M, hM⟩ : ∃ M, M = W / 2048 := ⟨_, rfl⟩
  rw [← hM] at HU
  have hMl : M < 9007199254740992 := by omega
  have h1 : IntKind.u64.wrap (wrap64 (W : Int)) = (W : Int) := by rw [IntKind.wrap_u64]; unfold wrap64; omega
  have h2 : (W : Int) / 2048 = (M : Int) := by omega
  have HM := Aside0.mk hMl
  have hMi : (M : Int) ≤ 9007199254740992 := by omega
  clear hM hMl hWl
  obtain ⟨V, hV⟩ : ∃ V : Int, V = wrap64 (W : Int) := ⟨_, rfl⟩
  rw [← hV] at h1 HWd
  clear hV
  go_enter Try.func8, Try.ntmps8
  go_wp2_with fail
  have HI := Aside0.mk (blk_new w (Obj.cells #[.int .i64 s, .int .i64 t, .int .i64 a] 23))
  have HB := Aside0.mk (below_alloc (Below.refl w.heap.size w) (Obj.cells #[.int .i64 s, .int .i64 t, .int .i64 a] 23))
  generalize w.alloc (Obj.cells #[.int .i64 s, .int .i64 t, .int .i64 a] 23) = w1 at HI HB ⊢
  clear hx
  refine (HU.out w1).mono ?_
  rintro e w2 ⟨rfl, hb⟩
  replace HB := Aside0.mk (below_step HB.out hb)
  replace HI := Aside0.mk (blk_below HI.out hb)
  clear hb
  have c0 := (blk_cell (blk_alloc HI.out (Obj.cells #[.int .i64 s, .int .i64 t, .int .i64 (wrap64 (a + 1))] 23)) 0).trans rfl
  have c1 := (blk_cell (blk_alloc HI.out (Obj.cells #[.int .i64 s, .int .i64 t, .int .i64 (wrap64 (a + 1))] 23)) 1).trans rfl
  have c2 := (blk_cell (blk_alloc HI.out (Obj.cells #[.int .i64 s, .int .i64 t, .int .i64 (wrap64 (a + 1))] 23)) 2).trans rfl
  replace HI := Aside0.mk (blk_alloc HI.out (Obj.cells #[.int .i64 s, .int .i64 t, .int .i64 (wrap64 (a + 1))] 23))
  have HJ := Aside0.mk (blk_new w2 (Obj.cells #[.int .i64 s, .int .i64 t, .int .i64 (wrap64 (a + 1))] 23))
  replace HB := Aside0.mk (below_alloc HB.out (Obj.cells #[.int .i64 s, .int .i64 t, .int .i64 (wrap64 (a + 1))] 23))
  go_wp2_with fail
  generalize w2.alloc (Obj.cells #[.int .i64 s, .int .i64 t, .int .i64 (wrap64 (a + 1))] 23) = w3 at c0 c1 c2 HI HJ HB ⊢
  generalize w2.heap.size = g at HJ ⊢
  refine (rng_Word.calls s t a 0 V w3 HWd.out).mono ?_
  rintro e w4 ⟨rfl, hb⟩
  replace HB := Aside0.mk (below_step HB.out hb)
  replace HI := Aside0.mk (blk_below HI.out hb)
  replace HJ := Aside0.mk (blk_below HJ.out hb)
  clear hb c0 c1 c2
  go_wp2_with fail
  refine (join64_any M HM.out w4).mono ?_
  rintro e w5 ⟨rfl, hb⟩
  replace HB := Aside0.mk (below_step HB.out hb)
  replace HI := Aside0.mk (blk_below HI.out hb)
  replace HJ := Aside0.mk (blk_below HJ.out hb)
  clear hb h1 h2
  go_wp2_with fail
  refine (alive_calls w5).mono ?_
  rintro e w6 ⟨rfl, hb⟩
  replace HB := Aside0.mk (below_step HB.out hb)
  replace HI := Aside0.mk (blk_below HI.out hb)
  replace HJ := Aside0.mk (blk_below HJ.out hb)
  clear hb
  have c2 := (blk_cell HI.out 2).trans rfl
  have d2 := (blk_cell HJ.out 2).trans rfl
  go_wp2_with fail
  refine (less_calls (uni64 M : Nat) 0 64 (uni64 M) 0 (by have := uni64_lt HM.out; omega) (by decide) (wide64_calls _ (by have := uni64_lt HM.out; omega)) (wide64_calls 0 (by decide)) w6).mono ?_
  rintro e w7 ⟨rfl, hb⟩
  replace HB := Aside0.mk (below_step HB.out hb)
  clear hb c2 d2 HI HJ
  have hn0 : decide (uni64 M < 0) = false := decide_eq_false (by omega)
  rw [hn0]
  clear hn0
  go_wp2_with fail
  refine (one64_calls w7).mono ?_
  rintro e w8 ⟨rfl, hb⟩
  replace HB := Aside0.mk (below_step HB.out hb)
  clear hb
  go_wp2_with fail
  refine (less_calls (uni64 M : Nat) ((4607182418800017408 : Nat) : Int) 64 (uni64 M) 4607182418800017408 (by have := uni64_lt HM.out; omega) (by decide) (wide64_calls _ (by have := uni64_lt HM.out; omega)) (wide64_calls 4607182418800017408 (by decide)) w8).mono ?_
  rintro e w9 ⟨rfl, hb⟩
  replace HB := Aside0.mk (below_step HB.out hb)
  clear hb
  have hn1 : decide (uni64 M < 4607182418800017408) = true := decide_eq_true (uni64_lt HM.out)
  rw [hn1]
  clear hn1
  go_wp2
  go_ret
  exact ⟨rfl, HB.out⟩

set_option maxHeartbeats 2000000 in
set_option maxRecDepth 100000 in
theorem uniform_32 (s t a x : Int) (hx : bits .and .i64 x 1 = 0) (w : World) :
    Calls Try.prog 8 #[.agg #[.int .i64 s, .int .i64 t, .int .i64 a], .int .i64 x] w fun e w' => e = .returned (.bool true) ∧ Below w.heap.size w w' := by
  obtain ⟨W, hW⟩ : ∃ W, W = wordP s t (uw a + 1) := ⟨_, rfl⟩
  have hWl : W < 18446744073709551616 := by rw [hW]; exact wordP_lt _ _ _
  have HWd := Aside0.mk (show rng_Word.f s t a 0 = some (wrap64 (W : Int)) by rw [rng_Word_eq, hW, uw_zero])
  have HU := Aside0.mk (Uniform32_calls s t a)
  rw [← hW] at HU
  clear hW
  obtain ⟨M, hM⟩ : ∃ M, M = W / 1099511627776 := ⟨_, rfl⟩
  rw [← hM] at HU
  have hMl : M < 16777216 := by omega
  have h1 : IntKind.u64.wrap (wrap64 (W : Int)) = (W : Int) := by rw [IntKind.wrap_u64]; unfold wrap64; omega
  have h2 : (W : Int) / 1099511627776 = (M : Int) := by omega
  have HM := Aside0.mk hMl
  have hMi : (M : Int) ≤ 16777216 := by omega
  clear hM hMl hWl
  obtain ⟨V, hV⟩ : ∃ V : Int, V = wrap64 (W : Int) := ⟨_, rfl⟩
  rw [← hV] at h1 HWd
  clear hV
  go_enter Try.func8, Try.ntmps8
  go_wp2_with fail
  have HI := Aside0.mk (blk_new w (Obj.cells #[.int .i64 s, .int .i64 t, .int .i64 a] 23))
  have HB := Aside0.mk (below_alloc (Below.refl w.heap.size w) (Obj.cells #[.int .i64 s, .int .i64 t, .int .i64 a] 23))
  generalize w.alloc (Obj.cells #[.int .i64 s, .int .i64 t, .int .i64 a] 23) = w1 at HI HB ⊢
  clear hx
  refine (HU.out w1).mono ?_
  rintro e w2 ⟨rfl, hb⟩
  replace HB := Aside0.mk (below_step HB.out hb)
  replace HI := Aside0.mk (blk_below HI.out hb)
  clear hb
  have c0 := (blk_cell (blk_alloc HI.out (Obj.cells #[.int .i64 s, .int .i64 t, .int .i64 (wrap64 (a + 1))] 23)) 0).trans rfl
  have c1 := (blk_cell (blk_alloc HI.out (Obj.cells #[.int .i64 s, .int .i64 t, .int .i64 (wrap64 (a + 1))] 23)) 1).trans rfl
  have c2 := (blk_cell (blk_alloc HI.out (Obj.cells #[.int .i64 s, .int .i64 t, .int .i64 (wrap64 (a + 1))] 23)) 2).trans rfl
  replace HI := Aside0.mk (blk_alloc HI.out (Obj.cells #[.int .i64 s, .int .i64 t, .int .i64 (wrap64 (a + 1))] 23))
  have HJ := Aside0.mk (blk_new w2 (Obj.cells #[.int .i64 s, .int .i64 t, .int .i64 (wrap64 (a + 1))] 23))
  replace HB := Aside0.mk (below_alloc HB.out (Obj.cells #[.int .i64 s, .int .i64 t, .int .i64 (wrap64 (a + 1))] 23))
  go_wp2_with fail
  generalize w2.alloc (Obj.cells #[.int .i64 s, .int .i64 t, .int .i64 (wrap64 (a + 1))] 23) = w3 at c0 c1 c2 HI HJ HB ⊢
  generalize w2.heap.size = g at HJ ⊢
  refine (rng_Word.calls s t a 0 V w3 HWd.out).mono ?_
  rintro e w4 ⟨rfl, hb⟩
  replace HB := Aside0.mk (below_step HB.out hb)
  replace HI := Aside0.mk (blk_below HI.out hb)
  replace HJ := Aside0.mk (blk_below HJ.out hb)
  clear hb c0 c1 c2
  go_wp2_with fail
  refine (join32_any M HM.out w4).mono ?_
  rintro e w5 ⟨rfl, hb⟩
  replace HB := Aside0.mk (below_step HB.out hb)
  replace HI := Aside0.mk (blk_below HI.out hb)
  replace HJ := Aside0.mk (blk_below HJ.out hb)
  clear hb h1 h2
  go_wp2_with fail
  refine (alive_calls w5).mono ?_
  rintro e w6 ⟨rfl, hb⟩
  replace HB := Aside0.mk (below_step HB.out hb)
  replace HI := Aside0.mk (blk_below HI.out hb)
  replace HJ := Aside0.mk (blk_below HJ.out hb)
  clear hb
  have c2 := (blk_cell HI.out 2).trans rfl
  have d2 := (blk_cell HJ.out 2).trans rfl
  go_wp2_with fail
  refine (less_calls (uni32 M : Nat) 0 32 (dv M) 0 (by have := dv_lt HM.out; omega) (by decide) (wide32_calls _ _ (by have := uni32_lt HM.out; omega) (dv_wide HM.out)) (wide32_calls 0 0 (by decide) (fun w => run_convert_float_float w 65 63 .f32 .f64 _ _ (by kernel_rfl) Try.underlying63 (by decide))) w6).mono ?_
  rintro e w7 ⟨rfl, hb⟩
  replace HB := Aside0.mk (below_step HB.out hb)
  clear hb c2 d2 HI HJ
  have hn0 : decide (dv M < 0) = false := decide_eq_false (by omega)
  rw [hn0]
  clear hn0
  go_wp2_with fail
  refine (one32_calls w7).mono ?_
  rintro e w8 ⟨rfl, hb⟩
  replace HB := Aside0.mk (below_step HB.out hb)
  clear hb
  go_wp2_with fail
  refine (less_calls (uni32 M : Nat) ((1065353216 : Nat) : Int) 32 (dv M) 4607182418800017408 (by have := dv_lt HM.out; omega) (by decide) (wide32_calls _ _ (by have := uni32_lt HM.out; omega) (dv_wide HM.out)) (wide32_calls 1065353216 4607182418800017408 (by decide) (fun w => run_convert_float_float w 65 63 .f32 .f64 _ _ (by kernel_rfl) Try.underlying63 (by decide +kernel))) w8).mono ?_
  rintro e w9 ⟨rfl, hb⟩
  replace HB := Aside0.mk (below_step HB.out hb)
  clear hb
  have hn1 : decide (dv M < 4607182418800017408) = true := decide_eq_true (dv_lt HM.out)
  rw [hn1]
  clear hn1
  go_wp2
  go_ret
  exact ⟨rfl, HB.out⟩

theorem uniform_calls (s t a x : Int) (w : World) :
    Calls Try.prog 8 #[.agg #[.int .i64 s, .int .i64 t, .int .i64 a], .int .i64 x] w fun e w' => e = .returned (.bool true) ∧ Below w.heap.size w w' := by
  rcases and_one_cases x with h | h
  · exact uniform_32 s t a x h w
  · exact uniform_64 s t a x h w
end Go.Proofs.Ytpobladocccnmaa
