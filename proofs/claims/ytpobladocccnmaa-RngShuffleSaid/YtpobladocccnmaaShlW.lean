/- The law RngShuffle, walked: it comes to true, whatever the seed, the stream, the place, n and k. -/
import Derived.Test.YtpobladocccnmaaPickW
import Derived.Test.YtpobladocccnmaaShufN
import Derived.Outline
import Derived.BigQuiet
import Derived.Deep.QuietTactic
namespace Go.Proofs.Ytpobladocccnmaa
open Go.RowKit Mix PBase
open Go.Proofs.YtpobladocccnmaaW.PrintWords Go.Proofs.YtpobladocccnmaaW.PrintLast Go.Proofs.YtpobladocccnmaaW.PrintMore
set_option linter.unusedVariables false
set_option linter.unusedSimpArgs false

theorem and255 (n : Int) : bits .and .i64 n 255 = n % 256 := by
  have h : bits .and .i64 n 255 = IntKind.i64.wrap ((BitVec.ofInt 64 n &&& BitVec.ofInt 64 255).toNat : Int) := rfl
  have h63 : (BitVec.ofInt 64 255).toNat = 2 ^ 8 - 1 := by decide
  rw [h, BitVec.toNat_and, h63, Nat.and_two_pow_sub_one_eq_mod, BitVec.toNat_ofInt, IntKind.wrap_i64]
  omega

theorem and65535 (n : Int) : bits .and .i64 n 65535 = n % 65536 := by
  have h : bits .and .i64 n 65535 = IntKind.i64.wrap ((BitVec.ofInt 64 n &&& BitVec.ofInt 64 65535).toNat : Int) := rfl
  have h63 : (BitVec.ofInt 64 65535).toNat = 2 ^ 16 - 1 := by decide
  rw [h, BitVec.toNat_and, h63, Nat.and_two_pow_sub_one_eq_mod, BitVec.toNat_ofInt, IntKind.wrap_i64]
  omega

set_option maxHeartbeats 1000000 in
set_option maxRecDepth 100000 in
theorem RngShuffle_calls (s t a n0 k0 : Int) (w : World) (ha : -9223372036854775808 ≤ a ∧ a ≤ 9223372036854775807) :
    Calls Try.prog 10 #[.agg #[.int .i64 s, .int .i64 t, .int .i64 a], .int .i64 n0, .int .i64 k0] w fun e w' => e = .returned (.bool true) ∧ Below w.heap.size w w' := by
  obtain ⟨n, hn⟩ : ∃ n : Nat, (n : Int) = n0 % 256 := ⟨(n0 % 256).toNat, by omega⟩
  obtain ⟨q, hq⟩ : ∃ q : Nat, (q : Int) = k0 % 65536 := ⟨(k0 % 65536).toNat, by omega⟩
  obtain ⟨k, hk⟩ : ∃ k : Nat, k = q % (n + 1) := ⟨_, rfl⟩
  have hn256 : n ≤ 255 := by omega
  have hkn : k ≤ n := by have := Nat.mod_lt q (show 0 < n + 1 from Nat.succ_pos n); rw [hk]; exact Nat.le_of_lt_succ this
  have hand : bits .and .i64 n0 255 = (n : Int) := by rw [and255, hn]
  have hand2 : bits .and .i64 k0 65535 = (q : Int) := by rw [and65535, hq]
  have hrem : ((q : Int) % ((n : Int) + 1)) = (k : Int) := by subst hk; simp
  obtain ⟨c, hc1, hc2, hc3⟩ := shuf_place s t a hn256 ha
  have hfew : n < 2 → (shuf s t a n).2 = a := shuf_few s t a
  have HE := each_shuf s t a n
  have HPick : pickL s t a n k = srt ((shuf s t a n).1.take k) := rfl
  obtain ⟨a2, ha2⟩ : ∃ x, x = (shuf s t a n).2 := ⟨_, rfl⟩
  obtain ⟨l, hl⟩ : ∃ x, x = (shuf s t a n).1 := ⟨_, rfl⟩
  have hsub : wrap64 (a2 - a) = (c : Int) := by rw [ha2, hc3]; unfold wrap64; omega
  have hlen : l.length = n := by rw [hl]; exact shuf_length s t a n
  have hfew2 : n < 2 → a2 = a := fun h => by rw [ha2]; exact hfew h
  rw [← hl] at HE HPick
  have HREM := Aside0.mk hrem
  have HFEW := Aside0.mk hfew2
  have HC := Aside0.mk hc1
  have HSUB := Aside0.mk hsub
  have HLen := Aside0.mk hlen
  have HEA := Aside0.mk HE
  have HPI := Aside0.mk HPick
  have HA2 := Aside0.mk ha2
  have HL := Aside0.mk hl
  have HKN := Aside0.mk hkn
  have HAL0 : Aside0 (atL n l 0 = List.replicate n 0) := ⟨rfl⟩
  clear hn hq hk hrem hfew hfew2 hc1 hc2 hc3 HE HPick ha2 hl hkn ha hsub hlen
  go_enter Try.func10, Try.ntmps10
  go_wp2_with fail
  refine (Shuffle_calls s t a n _ (by omega)).mono ?_
  rintro e w1 ⟨b, rfl, hL, hb, hB⟩
  rw [← HA2.out]
  rw [← HL.out] at hL
  have G1 := Aside0.mk ((IsS23.new w w s t a (Below.refl _ _)).below hB)
  have HB := Aside0.mk (below_step ((Below.refl _ _).alloc (Nat.le_refl _) _) hB)
  have HI := Aside0.mk hL
  have HG := Aside0.mk (show w.heap.size < b by simp at hb; omega)
  clear hL hb hB
  have hlt0 : w.heap.size < w1.heap.size := G1.out.lt
  obtain ⟨hI0, _⟩ := G1.out
  have c0 := cellS23_0 hI0
  have c1 := cellS23_1 hI0
  have c2 := cellS23_2 hI0
  clear hI0
  go_wp2_with fail
  have HBL := Aside0.mk (show b < w1.heap.size from blk_lt HI.out)
  have G2 := Aside0.mk (IsS23.new w w1 s t a2 HB.out)
  have HB := Aside0.mk (below_alloc HB.out (.cells #[.int .i64 s, .int .i64 t, .int .i64 a2] 23))
  have G1 := Aside0.mk (G1.out.alloc (.cells #[.int .i64 s, .int .i64 t, .int .i64 a2] 23))
  have HI := Aside0.mk (HI.out.below (below_alloc (Below.refl _ _) (.cells #[.int .i64 s, .int .i64 t, .int .i64 a2] 23)))
  refine (alive_calls _).mono ?_
  rintro e w2 ⟨rfl, hB⟩
  have G2 := Aside0.mk (G2.out.below hB)
  have G1 := Aside0.mk (G1.out.below hB)
  have HI := Aside0.mk (HI.out.below hB)
  have HB := Aside0.mk (below_step HB.out hB)
  obtain ⟨g2, hg2⟩ : ∃ g, g = w1.heap.size := ⟨_, rfl⟩
  rw [← hg2] at G2 HBL ⊢
  have HBG := Aside0.mk (show b ≠ g2 by have := HBL.out; omega)
  have HG2 := Aside0.mk (show w.heap.size < g2 by omega)
  clear hB c0 c1 c2 hlt0 HBL hg2
  go_wp2_with ((with_reducible refine gate_dst (N := 38) rfl ?_); refine make_ints rfl rfl 45 3 _ _ rfl n rfl rfl Try.underlying45 info3 (by omega) ?_; intro ba w3 hba hb1 hbw; rw [← HAL0.out] at hb1; have HA1 : Aside0 (IsInts w3 ba (atL n l 0)) := ⟨hb1⟩; have HNA := Aside0.mk (show b ≠ ba by have := blk_lt HI.out; omega); have HNG := Aside0.mk (show g2 ≠ ba by have := G2.out.lt; omega); have HNW := Aside0.mk (show w.heap.size < ba by have := G2.out.lt; have := HG2.out; omega); have HI := Aside0.mk (HI.out.below hbw); have G1 := Aside0.mk (G1.out.below hbw); have G2 := Aside0.mk (G2.out.below hbw); have HB := Aside0.mk (below_step HB.out hbw); clear hba hb1 hbw)
  go_loopg [11] n (fun kq v11 w' => ∃ i : Nat, v11 = .int .i64 i ∧ Aside0 (i + kq = n) ∧ Aside0 (IsInts w' ba (atL n l i)) ∧ Aside0 (IsInts w' b l) ∧ Aside0 (IsS23 w w' w.heap.size s t a) ∧ Aside0 (IsS23 w w' g2 s t a2) ∧ Aside0 (Below w.heap.size w w'))
  case atStart => exact ⟨0, rfl, ⟨by omega⟩, HA1, HI, G1, G2, HB⟩
  case round =>
    clear HA1 HI G1 G2 HB
    obtain ⟨i, rfl, HJ, HA, HI, G1, G2, HB⟩ := hrel
    by_cases hlt : i < n
    · as_aux_lemma =>
        have d1 : decide (i < n) = true := decide_eq_true hlt
        have ci := HI.out.cell i (by rw [HLen.out]; exact hlt)
        obtain ⟨hx0, hx1⟩ := HEA.out.2.1 i hlt
        obtain ⟨m, hm⟩ : ∃ m : Nat, l.getD i 0 = (m : Int) := ⟨(l.getD i 0).toNat, by omega⟩
        have hmn : m < n := by omega
        have ca := HA.out.cell m (by rw [atL_length]; exact hmn)
        have h0 := atL_new HEA.out i (by omega) i (Nat.le_refl _) hlt
        rw [hm, Int.toNat_natCast] at h0
        rw [h0] at ca
        have fa := HA.out.frozen m
        have hstep : Aside0 ((atL n l i).set m ((i : Int) + 1) = atL n l (i + 1)) := ⟨by rw [atL, hm, Int.toNat_natCast]⟩
        rw [hm] at ci
        have d2 : decide ((m : Int) < 0) = false := decide_eq_false (by omega)
        have d3 : decide (n ≤ m) = false := decide_eq_false (by omega)
        clear hm hx0 hx1 h0
        go_wp2
        go_roundg (gk - 1)
        case measure => have := HJ.out; omega
        case rel => exact ⟨i + 1, by go_num, ⟨by have := HJ.out; omega⟩, ⟨by rw [← hstep.out]; exact HA.out.set m _⟩, ⟨HI.out.far HNA.out _⟩, ⟨G1.out.far (Nat.ne_of_lt HNW.out) _⟩, ⟨G2.out.far HNG.out _⟩, ⟨HB.out.setCell (by show w.heap.size ≤ ba; have := HNW.out; omega) _⟩⟩
    · have d1 : decide (i < n) = false := decide_eq_false hlt
      have hj : n = i := by have := HJ.out; omega
      have HA := Aside0.mk (show IsInts wr ba (atL n l n) by have := HA.out; rw [← hj] at this; exact this)
      subst hj
      clear HJ hlt
      obtain ⟨hI0, _⟩ := G1.out
      have c0 := cellS23_0 hI0
      have c1 := cellS23_1 hI0
      have c2 := cellS23_2 hI0
      clear hI0
      have hrem := HREM.out
      go_wp2_with fail
      simp only [hrem]
      refine (Pick_calls s t a n k _ HKN.out (by omega)).mono ?_
      rintro e w4 ⟨v, rfl, hR, hB⟩
      rw [HPI.out] at hR
      rw [← HA2.out]
      have HA := Aside0.mk (HA.out.below hB)
      have G1 := Aside0.mk (G1.out.below hB)
      have G2 := Aside0.mk (G2.out.below hB)
      have hR : OwnInts w w4 v _ := Kd.R_lower hR HB.out.size
      have HB := Aside0.mk (below_step HB.out hB)
      have hplen : (srt (l.take k)).length = k := by have := HLen.out; have := HKN.out; simp [srt]; omega
      obtain ⟨pl, hpl⟩ : ∃ pl, pl = srt (l.take k) := ⟨_, rfl⟩
      rw [← hpl] at hR hplen
      obtain ⟨A, c4, rfl, hc4, _⟩ := OwnInts.C hR
      rw [hplen] at hR ⊢
      have HR := Aside0.mk hR
      have HPLen := Aside0.mk hplen
      have HPL := Aside0.mk hpl
      clear hR hB hplen hpl hc4 c0 c1 c2 hrem HREM HI
      obtain ⟨hI0, _⟩ := G1.out
      have c0 := cellS23_0 hI0
      have c1 := cellS23_1 hI0
      have c2 := cellS23_2 hI0
      have hl0 : w.heap.size < w4.heap.size := G1.out.lt
      obtain ⟨hI1, _⟩ := G2.out
      have e0 := cellS23_0 hI1
      have e1 := cellS23_1 hI1
      have e2 := cellS23_2 hI1
      have hl2 : g2 < w4.heap.size := G2.out.lt
      clear hI0 hI1
      go_wp2
      have HA := Aside0.mk (HA.out.below (below_alloc (Below.refl _ _) (.cells #[.int .i64 s, .int .i64 t, .int .i64 a2] 23)))
      have HR := Aside0.mk (Kd.R_alloc HR.out (.cells #[.int .i64 s, .int .i64 t, .int .i64 a2] 23))
      have G1 := Aside0.mk (G1.out.alloc (.cells #[.int .i64 s, .int .i64 t, .int .i64 a2] 23))
      have G2 := Aside0.mk (G2.out.alloc (.cells #[.int .i64 s, .int .i64 t, .int .i64 a2] 23))
      have HB := Aside0.mk (below_alloc HB.out (.cells #[.int .i64 s, .int .i64 t, .int .i64 a2] 23))
      clear c0 c1 c2 e0 e1 e2 hl0 hl2
      go_loopg [15] k (fun kq v15 w' => ∃ i : Nat, v15 = .int .i64 i ∧ Aside0 (i + kq = k) ∧ Aside0 (IsInts w' ba (atL n l n)) ∧ Aside0 (OwnInts w w' (.slice A k c4) pl) ∧ Aside0 (IsS23 w w' w.heap.size s t a) ∧ Aside0 (IsS23 w w' g2 s t a2) ∧ Aside0 (Below w.heap.size w w'))
      case atStart => exact ⟨0, rfl, ⟨by omega⟩, HA, HR, G1, G2, HB⟩
      case round =>
        clear HA HR G1 G2 HB
        obtain ⟨i, rfl, HJ, HA, HR, G1, G2, HB⟩ := hrel
        by_cases hlt : i < k
        · as_aux_lemma =>
            have hkn := HKN.out
            have d1 : decide (i < k) = true := decide_eq_true hlt
            obtain ⟨m, hmk, hpm⟩ := pick_at HEA.out hkn (i := i) hlt
            rw [← HPL.out] at hpm
            obtain ⟨hx0, hx1⟩ := HEA.out.2.1 m (by omega)
            have hat := atL_old HEA.out n (Nat.le_refl _) m (by omega)
            obtain ⟨x, hx⟩ : ∃ x : Nat, pl.getD i 0 = (x : Int) := ⟨(pl.getD i 0).toNat, by rw [hpm]; omega⟩
            rw [← hpm, hx, Int.toNat_natCast] at hat
            have hxn : x < n := by rw [← hpm, hx] at hx1; omega
            obtain ⟨g, cap, hv⟩ := OwnInts.form HR.out (by rw [HPLen.out]; omega)
            have hA : A = some ⟨g, 0, none⟩ := by injection hv
            subst hA
            obtain ⟨ci, _⟩ := OwnInts.cell HR.out HPLen.out.symm i (by rw [HPLen.out]; exact hlt)
            have ca := HA.out.cell x (by rw [atL_length]; exact hxn)
            rw [hat] at ca
            have d2 : decide ((x : Int) < 0) = false := decide_eq_false (by omega)
            have d3 : decide (n ≤ x) = false := decide_eq_false (by omega)
            have d4 : decide ((k : Int) < (m : Int) + 1) = false := decide_eq_false (by omega)
            rcases Nat.eq_zero_or_pos i with h0 | h0
            · subst h0
              rw [hx] at ci
              clear hv hx hpm hat hx0 hx1
              go_wp2
              go_quiet (fail)
              go_wp2
              go_roundg (gk - 1)
              case measure => have := HJ.out; omega
              case rel => exact ⟨1, rfl, ⟨by have := HJ.out; omega⟩, ⟨HA.out.drewN _⟩, ⟨Kd.R_drewN HR.out _⟩, ⟨G1.out.drewN _⟩, ⟨G2.out.drewN _⟩, ⟨pw_below_drewN HB.out _⟩⟩
            · obtain ⟨j, rfl⟩ : ∃ j, i = j + 1 := ⟨i - 1, by omega⟩
              have hr := pick_rise HEA.out hkn (i := j) hlt
              rw [← HPL.out, hx] at hr
              obtain ⟨cj, _⟩ := OwnInts.cell HR.out HPLen.out.symm j (by rw [HPLen.out]; omega)
              generalize pl.getD j 0 = y at cj hr
              have d5 : decide ((x : Int) ≤ y) = false := decide_eq_false (by omega)
              rw [hx] at ci
              clear hv hx hpm hat hx0 hx1
              go_wp2
              go_quiet (fail)
              go_wp2
              go_roundg (gk - 1)
              case measure => have := HJ.out; omega
              case rel => exact ⟨j + 2, by go_num, ⟨by have := HJ.out; omega⟩, ⟨HA.out.drewN _⟩, ⟨Kd.R_drewN HR.out _⟩, ⟨G1.out.drewN _⟩, ⟨G2.out.drewN _⟩, ⟨pw_below_drewN HB.out _⟩⟩
        · have d1 : decide (i < k) = false := decide_eq_false hlt
          obtain ⟨hI0, _⟩ := G1.out
          have c0 := cellS23_0 hI0
          have c1 := cellS23_1 hI0
          have c2 := cellS23_2 hI0
          obtain ⟨hI1, _⟩ := G2.out
          have e0 := cellS23_0 hI1
          have e1 := cellS23_1 hI1
          have e2 := cellS23_2 hI1
          clear hI0 hI1
          by_cases hn2 : n < 2
          · as_aux_lemma =>
              have haa := HFEW.out hn2
              subst haa
              have d2 : decide ((n : Int) < 2) = true := decide_eq_true (by omega)
              go_wp2
              go_ret
              exact ⟨rfl, HB.out⟩
          · as_aux_lemma =>
              have d2 : decide ((n : Int) < 2) = false := decide_eq_false (by omega)
              have d3 : decide ((2 : Int) ≤ (n : Int)) = true := decide_eq_true (by omega)
              have hc1 := HC.out
              have d4 : decide ((n : Int) - 1 ≤ (c : Int)) = true := decide_eq_true (by omega)
              have hsub := HSUB.out
              go_wp2
              go_ret
              exact ⟨rfl, HB.out⟩

end Go.Proofs.Ytpobladocccnmaa
