/- DiskPower, plainly. -/
import Derived.Test.YtnegcjgolaakcaaDN
import Derived.KernelRfl
namespace Go.Proofs.Ytnegcjgolaakcaa
set_option linter.unusedVariables false
set_option linter.unusedSimpArgs false
/-- one round -/
def rnd (s : DS) (i : Nat) : Int × DS :=
  if i % 4 = 0 then (s.Remove nNone).2.Append nA [50] else if i % 4 = 1 then (s.Remove nNone).2.Flush nA else if i % 4 = 2 then (s.Remove nNone).2.Rename nA nA else (s.Remove nNone).2.Sync
def SW : DS := { files := [⟨nA, nameless, [49], []⟩], works := [⟨3, nameless, nA, 0, 0, []⟩, ⟨1, nA, nameless, 1, 0, [49]⟩], names := 4, room := 100, off := false, left := -1 }
theorem SW_eq : (DS.new 4 100).Write nA [49] = (0, SW) := by rfl
def stP (n : Nat) : Nat → DS
  | 0 => (SW.fuse n).2
  | i + 1 => (rnd (stP n i) i).2
def chkR (n i : Nat) (r : Int × DS) : Bool := decide (r.1 = (if i < n then 0 else 63)) && (r.2.off == !decide (i + 1 < n))
def endR (s : DS) : Bool := decide ((s.read nA).2 = 63) && decide ((s.fuse 3).1 = 63) && !(((s.fuse 3).2.crash [1, 1]).off) && decide (((s.fuse 3).2.crash [1, 1]).Sync.1 = 0)
def runP (n : Nat) : Nat → Nat → DS → Bool
  | 0, i, s => endR s
  | k + 1, i, s => chkR n i (rnd s i) && runP n k (i + 1) (rnd s i).2
theorem run_all : (List.range 32).all (fun n => runP n 40 0 (stP n 0)) = true := by kernel_rfl
theorem run_get (n : Nat) : ∀ (k i : Nat), runP n k i (stP n i) = true → (∀ j, j < k → chkR n (i + j) (rnd (stP n (i + j)) (i + j)) = true) ∧ endR (stP n (i + k)) = true
  | 0, i, h => ⟨fun j hj => absurd hj (Nat.not_lt_zero _), h⟩
  | k + 1, i, h => by
    have h' : (chkR n i (rnd (stP n i) i) && runP n k (i + 1) (stP n (i + 1))) = true := h
    rw [Bool.and_eq_true] at h'
    obtain ⟨h1, h2⟩ := run_get n k (i + 1) h'.2
    refine ⟨fun j hj => ?_, by rw [show i + (k + 1) = i + 1 + k by omega]; exact h2⟩
    cases j with
    | zero => exact h'.1
    | succ j => rw [show i + (j + 1) = i + 1 + j by omega]; exact h1 j (by omega)
theorem power_step {n i : Nat} (hn : n < 32) (hi : i < 40) : (rnd (stP n i) i).1 = (if i < n then 0 else 63) ∧ (stP n (i + 1)).off = !decide (i + 1 < n) := by
  have h := (run_get n 40 0 (List.all_eq_true.1 run_all n (List.mem_range.2 hn))).1 i hi
  rw [Nat.zero_add] at h
  unfold chkR at h
  rw [Bool.and_eq_true, decide_eq_true_eq] at h
  have h2 := h.2
  rw [beq_iff_eq] at h2
  exact ⟨h.1, h2⟩
theorem power_end {n : Nat} (hn : n < 32) : ((stP n 40).read nA).2 = 63 ∧ ((stP n 40).fuse 3).1 = 63 ∧ (((stP n 40).fuse 3).2.crash [1, 1]).off = false ∧ (((stP n 40).fuse 3).2.crash [1, 1]).Sync.1 = 0 := by
  have h := (run_get n 40 0 (List.all_eq_true.1 run_all n (List.mem_range.2 hn))).2
  rw [Nat.zero_add] at h
  unfold endR at h
  simpa [Bool.and_eq_true, and_assoc] using h
end Go.Proofs.Ytnegcjgolaakcaa

/- DiskPower: the law's walk. -/
namespace Go.Proofs.Ytnegcjgolaakcaa
open Go.RowKit Go.Maps
open Go.Proofs.YtnegcjgolaakcaaW.PrintWords Go.Proofs.YtnegcjgolaakcaaW.PrintLast Go.Proofs.YtnegcjgolaakcaaW.PrintMore
set_option linter.unusedVariables false
set_option linter.unusedSimpArgs false
theorem i64_and31 (n : Int) : bits .and .i64 n 31 = n % 32 := by
  have h31 : (BitVec.ofInt 64 31).toNat = 2 ^ 5 - 1 := by decide
  have key : (BitVec.ofInt 64 n &&& BitVec.ofInt 64 31).toNat = (n % ((2 ^ 64 : Nat) : Int)).toNat % 2 ^ 5 := by
    rw [BitVec.toNat_and, BitVec.toNat_ofInt, h31, Nat.and_two_pow_sub_one_eq_mod]
  show IntKind.i64.wrap ((BitVec.ofInt 64 n &&& BitVec.ofInt 64 31).toNat : Nat) = n % 32
  rw [key, IntKind.wrap_i64]
  omega
theorem fuse_eq (n : Nat) : SW.fuse (n : Int) = (0, stP n 0) := by
  show SW.fuse (n : Int) = (0, (SW.fuse (n : Int)).2)
  have h : (SW.fuse (n : Int)).1 = 0 := by
    unfold DS.fuse
    rw [if_neg (by omega)]
    rfl
  rw [← h]
set_option maxHeartbeats 4000000 in
set_option maxRecDepth 100000 in
theorem power_walk (x : Int) (w : World) : Calls Try.prog 4 #[.int .i64 x] w fun e w' => e = .returned (.bool true) ∧ Below w.heap.size w w' := by
  go_enter Try.func4, Try.ntmps4
  go_wp2_with fail
  refine (lw_new 4 100 w (by decide)).mono ?_
  rintro e w1 ⟨g, rfl, hd, hb⟩
  have H1 := Aside0.mk hd
  have HB1 := Aside0.mk hb
  clear hd hb
  go_upto_region 5 with fail
  obtain ⟨n, hn, hx⟩ : ∃ n : Nat, n < 32 ∧ bits BinOp.and IntKind.i64 x 31 = (n : Int) := ⟨(x % 32).toNat, by omega, by rw [i64_and31]; omega⟩
  rw [hx]
  clear hx
  have HN := Aside0.mk hn
  clear hn
  have hconv := fun (W : World) => Go.Lib.run_convert_bytes_const (P := Try.prog) W 30 5 #[.int .u8 49] 1 1 Try.underlying30 Try.underlying5
  go_wp2_with fail
  have hb2 : Below w1.heap.size w1 (w1.alloc (.cells #[.int .u8 49] 5 (1, 2))) := below_alloc (Below.refl _ _) _
  refine (lw_write nA [49] (some ⟨w1.heap.size, 0, none⟩) 1 H1.out hb2 (by decide) (by decide) (by decide) (ints_C (l := [49]) (blk_new w1 (.cells #[.int .u8 49] 5 (1, 2))) (by decide)) (lit_mine (Nat.le_refl _) _)).mono ?_
  rintro e w2 ⟨rfl, hd, hf⟩
  rw [SW_eq] at hd ⊢
  have H2 := Aside0.mk hd
  have HB2 := Aside0.mk (lw_below (HB1.out.trans (hb2.mono HB1.out.size)) (Nat.le_trans HB1.out.size hb2.size) hf)
  clear hd hf hb2 hconv H1 HB1
  go_wp2_with fail
  refine (lw_fuse (n : Int) H2.out (by have := HN.out; omega)).mono ?_
  rintro e w3 ⟨rfl, hd, hf⟩
  rw [fuse_eq] at hd ⊢
  have H3 := Aside0.mk hd
  have HB3 := Aside0.mk (lw_below HB2.out HB2.out.size hf)
  clear hd hf H2 HB2
  go_wp2_with fail
  go_loopg [5, 6] 40 (fun kq v5 v6 w' => ∃ i : Nat, v6 = .int .i64 i ∧ v5 = .int .i64 (min i n : Nat) ∧ Aside0 (i + kq = 40) ∧ Aside0 (Lw w.heap.size (0 + 2 + 1 + 4 * i) w' g (stP n i)) ∧ Aside0 (Below w.heap.size w w'))
  case atStart => exact ⟨0, rfl, by simp, ⟨rfl⟩, H3, HB3⟩
  case round =>
    obtain ⟨i, rfl, rfl, HI, HL, HB⟩ := hrel
    clear H3 HB3
    by_cases hlt : i < 40
    · have d6 : decide ((i : Int) < 40) = true := decide_eq_true (by omega)
      have d7 : decide (i < 40) = true := decide_eq_true hlt
      have HLT := Aside0.mk hlt
      have HST := Aside0.mk (power_step HN.out hlt)
      clear hlt
      go_wp2_with fail
      refine (lw_remove nNone HL.out (by have := HLT.out; omega) (by decide)).mono ?_
      rintro e w4 ⟨rfl, hd, hf⟩
      have H4 := Aside0.mk hd
      have HB4 := Aside0.mk (lw_below HB.out HB.out.size hf)
      clear hd hf HL HB
      generalize hrem : ((stP n i).Remove nNone).1 = rem
      clear hrem
      rcases (show i % 4 = 0 ∨ i % 4 = 1 ∨ i % 4 = 2 ∨ i % 4 = 3 by omega) with hm | hm | hm | hm
      · have HM := Aside0.mk hm
        have hmod : Int.tmod (i : Int) 4 = 0 := by rw [Int.tmod_eq_emod_of_nonneg (by omega)]; omega
        have HR : Aside0 (rnd (stP n i) i = ((stP n i).Remove nNone).2.Append nA [50]) := ⟨by unfold rnd; rw [if_pos hm]⟩
        clear hm
        generalize ((stP n i).Remove nNone).2 = s4 at *
        have hconv := fun (W : World) => Go.Lib.run_convert_bytes_const (P := Try.prog) W 30 5 #[.int .u8 50] 1 1 Try.underlying30 Try.underlying5
        go_wp2_with fail
        have hb5 : Below w4.heap.size w4 (w4.alloc (.cells #[.int .u8 50] 5 (1, 2))) := below_alloc (Below.refl _ _) _
        refine (lw_append nA [50] (some ⟨w4.heap.size, 0, none⟩) 1 H4.out hb5 (by have := HLT.out; show 0 + 2 + 1 + 4 * i + 1 + 2 + 1 ≤ _; omega) (by decide) (by decide) (ints_C (l := [50]) (blk_new w4 (.cells #[.int .u8 50] 5 (1, 2))) (by decide)) (lit_mine (Nat.le_refl _) _)).mono ?_
        rintro e w5 ⟨rfl, hd, hf⟩
        have HB5 := Aside0.mk (lw_below (HB4.out.trans (hb5.mono HB4.out.size)) (Nat.le_trans HB4.out.size hb5.size) hf)
        clear hb5 hconv
        rw [← HR.out] at hd ⊢
        have H5 := Aside0.mk (show Lw w.heap.size (0 + 2 + 1 + 4 * (i + 1)) w5 g (stP n (i + 1)) from hd.more (by first | omega | (show 0 + 2 + 1 + 4 * i + 1 + 2 + 1 ≤ _; omega)) (by have := HLT.out; omega))
        rw [HST.out.1]
        clear hd hf H4 HB4 HR HM
        by_cases hin : i < n
        · rw [if_pos hin]
          have HW : Aside0 (min (i + 1) n = min i n + 1) := ⟨by omega⟩
          have HMI : Aside0 (min i n ≤ 40) := ⟨by have := HLT.out; omega⟩
          generalize min i n = mi at *
          clear hin
          go_wp2_with fail
          refine (lw_on H5.out).mono ?_
          rintro e w6 ⟨rfl, hw6⟩
          have hw6' := hw6.symm
          subst hw6'
          clear hw6
          rw [HST.out.2]
          by_cases hj : i + 1 < n
          · have e1 : decide (i + 1 < n) = true := decide_eq_true hj
            have e2 : decide (wrap64 ((i : Int) + 1) < (n : Int)) = true := decide_eq_true (by have := HLT.out; rw [IntWalk.wrap64_in _ (by omega)]; omega)
            rw [e1]
            clear hj
            go_wp2_with fail
            go_roundg (gk - 1)
            case measure => have := HI.out; have := HLT.out; omega
            case rel => exact ⟨i + 1, next_i6 (by have := HLT.out; omega), by rw [HW.out]; exact next_i6 (by have := HMI.out; omega), ⟨by have := HI.out; have := HLT.out; omega⟩, H5, HB5⟩
          · have e1 : decide (i + 1 < n) = false := decide_eq_false hj
            have e2 : decide (wrap64 ((i : Int) + 1) < (n : Int)) = false := decide_eq_false (by have := HLT.out; rw [IntWalk.wrap64_in _ (by omega)]; omega)
            rw [e1]
            clear hj
            go_wp2_with fail
            go_roundg (gk - 1)
            case measure => have := HI.out; have := HLT.out; omega
            case rel => exact ⟨i + 1, next_i6 (by have := HLT.out; omega), by rw [HW.out]; exact next_i6 (by have := HMI.out; omega), ⟨by have := HI.out; have := HLT.out; omega⟩, H5, HB5⟩
        · rw [if_neg hin]
          have HW : Aside0 (min (i + 1) n = min i n) := ⟨by omega⟩
          have HMI : Aside0 (min i n ≤ 40) := ⟨by have := HLT.out; omega⟩
          generalize min i n = mi at *
          clear hin
          go_wp2_with fail
          refine (lw_on H5.out).mono ?_
          rintro e w6 ⟨rfl, hw6⟩
          have hw6' := hw6.symm
          subst hw6'
          clear hw6
          rw [HST.out.2]
          by_cases hj : i + 1 < n
          · have e1 : decide (i + 1 < n) = true := decide_eq_true hj
            have e2 : decide (wrap64 ((i : Int) + 1) < (n : Int)) = true := decide_eq_true (by have := HLT.out; rw [IntWalk.wrap64_in _ (by omega)]; omega)
            rw [e1]
            clear hj
            go_wp2_with fail
            go_roundg (gk - 1)
            case measure => have := HI.out; have := HLT.out; omega
            case rel => exact ⟨i + 1, next_i6 (by have := HLT.out; omega), by rw [HW.out], ⟨by have := HI.out; have := HLT.out; omega⟩, H5, HB5⟩
          · have e1 : decide (i + 1 < n) = false := decide_eq_false hj
            have e2 : decide (wrap64 ((i : Int) + 1) < (n : Int)) = false := decide_eq_false (by have := HLT.out; rw [IntWalk.wrap64_in _ (by omega)]; omega)
            rw [e1]
            clear hj
            go_wp2_with fail
            go_roundg (gk - 1)
            case measure => have := HI.out; have := HLT.out; omega
            case rel => exact ⟨i + 1, next_i6 (by have := HLT.out; omega), by rw [HW.out], ⟨by have := HI.out; have := HLT.out; omega⟩, H5, HB5⟩
      · have HM := Aside0.mk hm
        have hmod : Int.tmod (i : Int) 4 = 1 := by rw [Int.tmod_eq_emod_of_nonneg (by omega)]; omega
        have HR : Aside0 (rnd (stP n i) i = ((stP n i).Remove nNone).2.Flush nA) := ⟨by unfold rnd; rw [if_neg (by omega), if_pos hm]⟩
        clear hm
        generalize ((stP n i).Remove nNone).2 = s4 at *
        go_wp2_with fail
        refine (lw_flush nA H4.out (by decide)).mono ?_
        rintro e w5 ⟨rfl, hd, hf⟩
        have HB5 := Aside0.mk (lw_below HB4.out HB4.out.size hf)
        rw [← HR.out] at hd ⊢
        have H5 := Aside0.mk (show Lw w.heap.size (0 + 2 + 1 + 4 * (i + 1)) w5 g (stP n (i + 1)) from hd.more (by first | omega | (show 0 + 2 + 1 + 4 * i + 1 + 2 + 1 ≤ _; omega)) (by have := HLT.out; omega))
        rw [HST.out.1]
        clear hd hf H4 HB4 HR HM
        by_cases hin : i < n
        · rw [if_pos hin]
          have HW : Aside0 (min (i + 1) n = min i n + 1) := ⟨by omega⟩
          have HMI : Aside0 (min i n ≤ 40) := ⟨by have := HLT.out; omega⟩
          generalize min i n = mi at *
          clear hin
          go_wp2_with fail
          refine (lw_on H5.out).mono ?_
          rintro e w6 ⟨rfl, hw6⟩
          have hw6' := hw6.symm
          subst hw6'
          clear hw6
          rw [HST.out.2]
          by_cases hj : i + 1 < n
          · have e1 : decide (i + 1 < n) = true := decide_eq_true hj
            have e2 : decide (wrap64 ((i : Int) + 1) < (n : Int)) = true := decide_eq_true (by have := HLT.out; rw [IntWalk.wrap64_in _ (by omega)]; omega)
            rw [e1]
            clear hj
            go_wp2_with fail
            go_roundg (gk - 1)
            case measure => have := HI.out; have := HLT.out; omega
            case rel => exact ⟨i + 1, next_i6 (by have := HLT.out; omega), by rw [HW.out]; exact next_i6 (by have := HMI.out; omega), ⟨by have := HI.out; have := HLT.out; omega⟩, H5, HB5⟩
          · have e1 : decide (i + 1 < n) = false := decide_eq_false hj
            have e2 : decide (wrap64 ((i : Int) + 1) < (n : Int)) = false := decide_eq_false (by have := HLT.out; rw [IntWalk.wrap64_in _ (by omega)]; omega)
            rw [e1]
            clear hj
            go_wp2_with fail
            go_roundg (gk - 1)
            case measure => have := HI.out; have := HLT.out; omega
            case rel => exact ⟨i + 1, next_i6 (by have := HLT.out; omega), by rw [HW.out]; exact next_i6 (by have := HMI.out; omega), ⟨by have := HI.out; have := HLT.out; omega⟩, H5, HB5⟩
        · rw [if_neg hin]
          have HW : Aside0 (min (i + 1) n = min i n) := ⟨by omega⟩
          have HMI : Aside0 (min i n ≤ 40) := ⟨by have := HLT.out; omega⟩
          generalize min i n = mi at *
          clear hin
          go_wp2_with fail
          refine (lw_on H5.out).mono ?_
          rintro e w6 ⟨rfl, hw6⟩
          have hw6' := hw6.symm
          subst hw6'
          clear hw6
          rw [HST.out.2]
          by_cases hj : i + 1 < n
          · have e1 : decide (i + 1 < n) = true := decide_eq_true hj
            have e2 : decide (wrap64 ((i : Int) + 1) < (n : Int)) = true := decide_eq_true (by have := HLT.out; rw [IntWalk.wrap64_in _ (by omega)]; omega)
            rw [e1]
            clear hj
            go_wp2_with fail
            go_roundg (gk - 1)
            case measure => have := HI.out; have := HLT.out; omega
            case rel => exact ⟨i + 1, next_i6 (by have := HLT.out; omega), by rw [HW.out], ⟨by have := HI.out; have := HLT.out; omega⟩, H5, HB5⟩
          · have e1 : decide (i + 1 < n) = false := decide_eq_false hj
            have e2 : decide (wrap64 ((i : Int) + 1) < (n : Int)) = false := decide_eq_false (by have := HLT.out; rw [IntWalk.wrap64_in _ (by omega)]; omega)
            rw [e1]
            clear hj
            go_wp2_with fail
            go_roundg (gk - 1)
            case measure => have := HI.out; have := HLT.out; omega
            case rel => exact ⟨i + 1, next_i6 (by have := HLT.out; omega), by rw [HW.out], ⟨by have := HI.out; have := HLT.out; omega⟩, H5, HB5⟩
      · have HM := Aside0.mk hm
        have hmod : Int.tmod (i : Int) 4 = 2 := by rw [Int.tmod_eq_emod_of_nonneg (by omega)]; omega
        have HR : Aside0 (rnd (stP n i) i = ((stP n i).Remove nNone).2.Rename nA nA) := ⟨by unfold rnd; rw [if_neg (by omega), if_neg (by omega), if_pos hm]⟩
        clear hm
        generalize ((stP n i).Remove nNone).2 = s4 at *
        go_wp2_with fail
        refine (lw_rename nA nA H4.out (by have := HLT.out; omega) (by decide) (by decide)).mono ?_
        rintro e w5 ⟨rfl, hd, hf⟩
        have HB5 := Aside0.mk (lw_below HB4.out HB4.out.size hf)
        rw [← HR.out] at hd ⊢
        have H5 := Aside0.mk (show Lw w.heap.size (0 + 2 + 1 + 4 * (i + 1)) w5 g (stP n (i + 1)) from hd.more (by first | omega | (show 0 + 2 + 1 + 4 * i + 1 + 2 + 1 ≤ _; omega)) (by have := HLT.out; omega))
        rw [HST.out.1]
        clear hd hf H4 HB4 HR HM
        by_cases hin : i < n
        · rw [if_pos hin]
          have HW : Aside0 (min (i + 1) n = min i n + 1) := ⟨by omega⟩
          have HMI : Aside0 (min i n ≤ 40) := ⟨by have := HLT.out; omega⟩
          generalize min i n = mi at *
          clear hin
          go_wp2_with fail
          refine (lw_on H5.out).mono ?_
          rintro e w6 ⟨rfl, hw6⟩
          have hw6' := hw6.symm
          subst hw6'
          clear hw6
          rw [HST.out.2]
          by_cases hj : i + 1 < n
          · have e1 : decide (i + 1 < n) = true := decide_eq_true hj
            have e2 : decide (wrap64 ((i : Int) + 1) < (n : Int)) = true := decide_eq_true (by have := HLT.out; rw [IntWalk.wrap64_in _ (by omega)]; omega)
            rw [e1]
            clear hj
            go_wp2_with fail
            go_roundg (gk - 1)
            case measure => have := HI.out; have := HLT.out; omega
            case rel => exact ⟨i + 1, next_i6 (by have := HLT.out; omega), by rw [HW.out]; exact next_i6 (by have := HMI.out; omega), ⟨by have := HI.out; have := HLT.out; omega⟩, H5, HB5⟩
          · have e1 : decide (i + 1 < n) = false := decide_eq_false hj
            have e2 : decide (wrap64 ((i : Int) + 1) < (n : Int)) = false := decide_eq_false (by have := HLT.out; rw [IntWalk.wrap64_in _ (by omega)]; omega)
            rw [e1]
            clear hj
            go_wp2_with fail
            go_roundg (gk - 1)
            case measure => have := HI.out; have := HLT.out; omega
            case rel => exact ⟨i + 1, next_i6 (by have := HLT.out; omega), by rw [HW.out]; exact next_i6 (by have := HMI.out; omega), ⟨by have := HI.out; have := HLT.out; omega⟩, H5, HB5⟩
        · rw [if_neg hin]
          have HW : Aside0 (min (i + 1) n = min i n) := ⟨by omega⟩
          have HMI : Aside0 (min i n ≤ 40) := ⟨by have := HLT.out; omega⟩
          generalize min i n = mi at *
          clear hin
          go_wp2_with fail
          refine (lw_on H5.out).mono ?_
          rintro e w6 ⟨rfl, hw6⟩
          have hw6' := hw6.symm
          subst hw6'
          clear hw6
          rw [HST.out.2]
          by_cases hj : i + 1 < n
          · have e1 : decide (i + 1 < n) = true := decide_eq_true hj
            have e2 : decide (wrap64 ((i : Int) + 1) < (n : Int)) = true := decide_eq_true (by have := HLT.out; rw [IntWalk.wrap64_in _ (by omega)]; omega)
            rw [e1]
            clear hj
            go_wp2_with fail
            go_roundg (gk - 1)
            case measure => have := HI.out; have := HLT.out; omega
            case rel => exact ⟨i + 1, next_i6 (by have := HLT.out; omega), by rw [HW.out], ⟨by have := HI.out; have := HLT.out; omega⟩, H5, HB5⟩
          · have e1 : decide (i + 1 < n) = false := decide_eq_false hj
            have e2 : decide (wrap64 ((i : Int) + 1) < (n : Int)) = false := decide_eq_false (by have := HLT.out; rw [IntWalk.wrap64_in _ (by omega)]; omega)
            rw [e1]
            clear hj
            go_wp2_with fail
            go_roundg (gk - 1)
            case measure => have := HI.out; have := HLT.out; omega
            case rel => exact ⟨i + 1, next_i6 (by have := HLT.out; omega), by rw [HW.out], ⟨by have := HI.out; have := HLT.out; omega⟩, H5, HB5⟩
      · have HM := Aside0.mk hm
        have hmod : Int.tmod (i : Int) 4 = 3 := by rw [Int.tmod_eq_emod_of_nonneg (by omega)]; omega
        have HR : Aside0 (rnd (stP n i) i = ((stP n i).Remove nNone).2.Sync) := ⟨by unfold rnd; rw [if_neg (by omega), if_neg (by omega), if_neg (by omega)]⟩
        clear hm
        generalize ((stP n i).Remove nNone).2 = s4 at *
        go_wp2_with fail
        refine (lw_sync H4.out).mono ?_
        rintro e w5 ⟨rfl, hd, hf⟩
        have HB5 := Aside0.mk (lw_below HB4.out HB4.out.size hf)
        rw [← HR.out] at hd ⊢
        have H5 := Aside0.mk (show Lw w.heap.size (0 + 2 + 1 + 4 * (i + 1)) w5 g (stP n (i + 1)) from hd.more (by first | omega | (show 0 + 2 + 1 + 4 * i + 1 + 2 + 1 ≤ _; omega)) (by have := HLT.out; omega))
        rw [HST.out.1]
        clear hd hf H4 HB4 HR HM
        by_cases hin : i < n
        · rw [if_pos hin]
          have HW : Aside0 (min (i + 1) n = min i n + 1) := ⟨by omega⟩
          have HMI : Aside0 (min i n ≤ 40) := ⟨by have := HLT.out; omega⟩
          generalize min i n = mi at *
          clear hin
          go_wp2_with fail
          refine (lw_on H5.out).mono ?_
          rintro e w6 ⟨rfl, hw6⟩
          have hw6' := hw6.symm
          subst hw6'
          clear hw6
          rw [HST.out.2]
          by_cases hj : i + 1 < n
          · have e1 : decide (i + 1 < n) = true := decide_eq_true hj
            have e2 : decide (wrap64 ((i : Int) + 1) < (n : Int)) = true := decide_eq_true (by have := HLT.out; rw [IntWalk.wrap64_in _ (by omega)]; omega)
            rw [e1]
            clear hj
            go_wp2_with fail
            go_roundg (gk - 1)
            case measure => have := HI.out; have := HLT.out; omega
            case rel => exact ⟨i + 1, next_i6 (by have := HLT.out; omega), by rw [HW.out]; exact next_i6 (by have := HMI.out; omega), ⟨by have := HI.out; have := HLT.out; omega⟩, H5, HB5⟩
          · have e1 : decide (i + 1 < n) = false := decide_eq_false hj
            have e2 : decide (wrap64 ((i : Int) + 1) < (n : Int)) = false := decide_eq_false (by have := HLT.out; rw [IntWalk.wrap64_in _ (by omega)]; omega)
            rw [e1]
            clear hj
            go_wp2_with fail
            go_roundg (gk - 1)
            case measure => have := HI.out; have := HLT.out; omega
            case rel => exact ⟨i + 1, next_i6 (by have := HLT.out; omega), by rw [HW.out]; exact next_i6 (by have := HMI.out; omega), ⟨by have := HI.out; have := HLT.out; omega⟩, H5, HB5⟩
        · rw [if_neg hin]
          have HW : Aside0 (min (i + 1) n = min i n) := ⟨by omega⟩
          have HMI : Aside0 (min i n ≤ 40) := ⟨by have := HLT.out; omega⟩
          generalize min i n = mi at *
          clear hin
          go_wp2_with fail
          refine (lw_on H5.out).mono ?_
          rintro e w6 ⟨rfl, hw6⟩
          have hw6' := hw6.symm
          subst hw6'
          clear hw6
          rw [HST.out.2]
          by_cases hj : i + 1 < n
          · have e1 : decide (i + 1 < n) = true := decide_eq_true hj
            have e2 : decide (wrap64 ((i : Int) + 1) < (n : Int)) = true := decide_eq_true (by have := HLT.out; rw [IntWalk.wrap64_in _ (by omega)]; omega)
            rw [e1]
            clear hj
            go_wp2_with fail
            go_roundg (gk - 1)
            case measure => have := HI.out; have := HLT.out; omega
            case rel => exact ⟨i + 1, next_i6 (by have := HLT.out; omega), by rw [HW.out], ⟨by have := HI.out; have := HLT.out; omega⟩, H5, HB5⟩
          · have e1 : decide (i + 1 < n) = false := decide_eq_false hj
            have e2 : decide (wrap64 ((i : Int) + 1) < (n : Int)) = false := decide_eq_false (by have := HLT.out; rw [IntWalk.wrap64_in _ (by omega)]; omega)
            rw [e1]
            clear hj
            go_wp2_with fail
            go_roundg (gk - 1)
            case measure => have := HI.out; have := HLT.out; omega
            case rel => exact ⟨i + 1, next_i6 (by have := HLT.out; omega), by rw [HW.out], ⟨by have := HI.out; have := HLT.out; omega⟩, H5, HB5⟩
    · have d6 : decide ((i : Int) < 40) = false := decide_eq_false (by omega)
      have d7 : decide (i < 40) = false := decide_eq_false hlt
      obtain rfl : i = 40 := by have := HI.out; omega
      have HPE := Aside0.mk (power_end HN.out)
      have HMN : Aside0 (min 40 n = n) := ⟨by have := HN.out; omega⟩
      rw [HMN.out]
      clear hlt
      go_wp2_with fail
      refine (lw_read nA HL.out (by decide)).mono ?_
      rintro e w4 ⟨vb, rfl, hR, hb⟩
      rw [HPE.out.1]
      obtain ⟨A4, c4, rfl⟩ := Kd.R_slice hR
      have H4 := Aside0.mk (HL.out.below hb)
      have HB4 := Aside0.mk (HB.out.trans (hb.mono HB.out.size))
      generalize ((stP n 40).read nA).1.length = l4
      clear hR hb HL HB
      go_wp2_with fail
      refine (lw_fuse 3 H4.out (by decide)).mono ?_
      rintro e w5 ⟨rfl, hd, hf⟩
      rw [HPE.out.2.1]
      have H5 := Aside0.mk hd
      have HB5 := Aside0.mk (lw_below HB4.out HB4.out.size hf)
      have HP2 := Aside0.mk HPE.out.2.2
      clear hd hf H4 HB4 HPE
      generalize ((stP n 40).fuse 3).2 = s5 at *
      go_wp2_with fail
      have hb6 : Below w5.heap.size w5 (w5.alloc (.cells #[.int .i64 1, .int .i64 1] 3)) := below_alloc (Below.refl _ _) _
      refine (lw_crash [1, 1] (some ⟨w5.heap.size, 0, none⟩) 2 H5.out hb6 (fun x hx => by simp at hx; omega) (ints_C (l := [1, 1]) (blk_new w5 (.cells #[.int .i64 1, .int .i64 1] 3)) (by decide)) (lit_mine (Nat.le_refl _) _)).mono ?_
      rintro e w6 ⟨rfl, hd, hf⟩
      have H6 := Aside0.mk hd
      have HB6 := Aside0.mk (lw_below (HB5.out.trans (hb6.mono HB5.out.size)) (Nat.le_trans HB5.out.size hb6.size) hf)
      clear hd hf hb6 H5 HB5
      generalize s5.crash [1, 1] = s6 at *
      go_wp2_with fail
      refine (alive_calls w6).mono ?_
      rintro e w7 ⟨rfl, hb⟩
      have H7 := Aside0.mk (H6.out.below hb)
      have HB7 := Aside0.mk (HB6.out.trans (hb.mono HB6.out.size))
      clear hb H6 HB6
      go_wp2_with fail
      refine (lw_on H7.out).mono ?_
      rintro e w8 ⟨rfl, rfl⟩
      rw [HP2.out.1]
      go_wp2_with fail
      refine (lw_sync H7.out).mono ?_
      rintro e w9 ⟨rfl, hd, hf⟩
      rw [HP2.out.2]
      have HB9 := Aside0.mk (lw_below HB7.out HB7.out.size hf)
      clear hd hf H7 HB7
      go_wp2_with fail
      go_ret
      exact ⟨rfl, HB9.out⟩
end Go.Proofs.Ytnegcjgolaakcaa
