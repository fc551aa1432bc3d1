/- TensorGlues: the law comes to true. -/
import Derived.Test.YtklomikdihlcgaaGlK
import Derived.Test.YtklomikdihlcgaaRmW
namespace Go.Proofs.Ytklomikdihlcgaa
open Go.RowKit PBase
open Go.Proofs.YtklomikdihlcgaaW.PrintWords Go.Proofs.YtklomikdihlcgaaW.PrintLast Go.Proofs.YtklomikdihlcgaaW.PrintMore
set_option linter.unusedVariables false
set_option linter.unusedSimpArgs false

theorem info25s : (Try.prog.info? 25).map (fun i => (i.zero, i.size, i.bytes)) = some (some (.agg zero4), 4, 48) := by kernel_rfl

theorem glueQ_facts {side : Bool} {ms : List Mat} {ss : List Shp} {W w' : World} {e : Ending} (h0 : firstE ms = 0) (hs : ss = ms.map shOf) (h : GlueQ side ss W e w') :
    ∃ er r c d ps, MoveP W er r c d ps e w' ∧ (jE side ms = er ∧ (er ≠ 0 → jR side ms = 0 ∧ jC side ms = 0 ∧ jW side ms = 0 ∧ jL side ms = []) ∧ (er = 0 → jR side ms = r ∧ jC side ms = c ∧ jW side ms = d ∧ jL side ms = ps.map (fun p => cleanV d (elemAt ms p)) ∧ ps.length ≤ 1000000 ∧ (d = 32 ∨ d = 64) ∧ ∀ p ∈ ps, inMs ms p)) := by
  subst hs
  have hj : jE side ms = glueE side (ms.map shOf) := by unfold jE; rw [if_pos h0]
  rcases h with ⟨hE, hm⟩ | ⟨hE, hm⟩
  · exact ⟨_, 0, 0, 0, [], hm, hj, fun _ => jE_neg hj hE, fun he => absurd he hE⟩
  · obtain ⟨q0, q1, q2, q3, q4⟩ := jE_pos h0 hE
    have hn : 0 < ms.length := by
      rcases Nat.eq_zero_or_pos ms.length with h | h
      · rw [List.length_eq_zero_iff.1 h] at hE
        exact absurd hE (show (1 : Int) ≠ 0 by decide)
      · exact h
    exact ⟨_, _, _, _, _, hm, q0, fun he => absurd rfl he, fun _ => ⟨q1, q2, q3, q4, glueP_len h0 hE, glueW_ok h0 hn, glueP_in h0 hE⟩⟩

def F8RT25 : Bool × List (List Nat × List Nat) := (true, [([], []), ([], []), ([0, 1], [0, 1]), ([2], [2]), ([], []), ([], []), ([4, 5], [4, 5]), ([6], [6]), ([3, 7], [3, 7]), ([8, 8, 0, 1, 2, 3, 4, 5, 6, 7, 8], [8])])
def F8RB25 : List Nat := [0, 0, 3, 7, 0, 0, 48, 112, 255, 511]
theorem F8Rtab25 : rtab .any (opsOf Try.f8 25) = F8RT25 := by kernel_rfl
theorem F8Rbits25 : waitsOk F8RT25.2 F8RB25 = true := by kernel_rfl
set_option maxHeartbeats 20000000 in
set_option maxRecDepth 100000 in
theorem glues_calls (A : Option Addr) (cA : Nat) (ms : List Mat) (w : World) (hM : matK.C w A ms.length ms) (hcM : ms.length ≤ cA) (hr : ∀ m ∈ ms, InR m.2.2.2) (hL : ∀ m ∈ ms, m.2.2.2.length ≤ 1000000000000000) :
    Calls Try.prog 8 #[.slice A ms.length cA] w fun e w' => e = .returned (.bool true) ∧ Below w.heap.size w w' := by
  have HM := Aside0.mk hM
  have HCM := Aside0.mk hcM
  have HR := Aside0.mk hr
  have HL := Aside0.mk hL
  clear hM hcM hr hL
  go_enter Try.func8, Try.ntmps8
  go_wp2_with fail
  refine (alive_calls w).mono ?_
  rintro e w1 ⟨rfl, hb⟩
  have HB := Aside0.mk hb
  clear hb
  go_wp2
  go_loopg [4, 5] ms.length (fun kq v4 v5 w' => ∃ i : Nat, v5 = .int .i64 i ∧ v4 = .int .i64 (fuelS ms i : Nat) ∧ Aside0 (i + kq = ms.length) ∧ Aside0 (i = 0 ∨ fuelS ms (i - 1) ≤ 5000) ∧ Aside0 (Below w.heap.size w w'))
  case atStart => exact ⟨0, rfl, rfl, ⟨by omega⟩, ⟨.inl rfl⟩, HB⟩
  case round =>
    clear HB
    obtain ⟨i, rfl, rfl, HI, HF, HB⟩ := hrel
    have hig := fuelS_ge ms i
    have hfb : fuelS ms i ≤ 1000000000010000 := by
      rcases HF.out with h | h
      · rw [h]; show (0 : Nat) ≤ 1000000000010000; omega
      · by_cases hi0 : i = 0
        · rw [hi0]; show (0 : Nat) ≤ 1000000000010000; omega
        · obtain ⟨j, rfl⟩ : ∃ j, i = j + 1 := ⟨i - 1, by omega⟩
          rw [Nat.add_sub_cancel] at h
          have hj : j < ms.length := by have := HI.out; omega
          have := HL.out ms[j] (List.getElem_mem hj)
          rw [fuelS, List.getD_eq_getElem?_getD, List.getElem?_eq_getElem hj]
          show _ + (ms[j].2.2.2.length + 1) ≤ _
          omega
    by_cases hil : i < ms.length
    · as_aux_lemma =>
        have d1 : decide (i < ms.length) = true := decide_eq_true hil
        by_cases hf : fuelS ms i ≤ 5000
        · as_aux_lemma =>
            have d2 : decide (((fuelS ms i : Nat) : Int) ≤ 5000) = true := decide_eq_true (by omega)
            have HIL := Aside0.mk hil
            obtain ⟨ad, E, cE, hA, _, _, _, g3, hle, hCE⟩ := mat_cells4 HM.out i hil
            subst hA
            have HFN : Aside0 (fuelS ms (i + 1) = fuelS ms i + (ms[i].2.2.2.length + 1)) := ⟨by rw [fuelS, List.getD_eq_getElem?_getD, List.getElem?_eq_getElem hil]; rfl⟩
            have hlm := HL.out ms[i] (List.getElem_mem hil)
            have HF2 := Aside0.mk (show fuelS ms (i + 1 - 1) ≤ 5000 by rw [Nat.add_sub_cancel]; exact hf)
            have hi1 := eq_true hil
            generalize ms[i] = m at g3 hle hCE hlm HFN
            generalize fuelS ms i = P at hfb hf d2 HFN hig ⊢
            obtain ⟨mr, mc, mw, ml⟩ := m
            simp only at g3 hle hCE hlm
            have g3 := (HB.out.cell (World.block_lt_of_cell? w _ g3)).trans g3
            clear hle hCE
            go_wp2
            skip
            go_roundg (gk - 1)
            case measure => have := HI.out; have := HIL.out; omega
            case rel => exact ⟨i + 1, by first | go_num | exact next_i6 (by omega), by rw [HFN.out]; go_num, ⟨by have := HI.out; have := HIL.out; omega⟩, ⟨.inr HF2.out⟩, HB⟩
        · as_aux_lemma =>
            have d2 : decide (((fuelS ms i : Nat) : Int) ≤ 5000) = false := decide_eq_false (by omega)
            have d3 : decide ((5000 : Int) < ((fuelS ms i : Nat) : Int)) = true := decide_eq_true (by omega)
            generalize fuelS ms i = P at hfb hf d2 d3 hig ⊢
            go_wp2
            skip
            go_ret
            exact ⟨rfl, HB.out⟩
    · as_aux_lemma =>
        have d1 : decide (i < ms.length) = false := decide_eq_false hil
        have hin : i = ms.length := by have := HI.out; omega
        by_cases hf : fuelS ms i ≤ 5000
        · as_aux_lemma =>
            have d3 : decide ((5000 : Int) < ((fuelS ms i : Nat) : Int)) = false := decide_eq_false (by omega)
            rw [hin] at hf
            obtain ⟨hn5, hl5⟩ := fuelS_all hf
            have HN5 := Aside0.mk hn5
            have HL5 := Aside0.mk hl5
            clear hin hf HF
            generalize fuelS ms i = P at hfb d3 hig ⊢
            go_wp2
            have HPL := Aside0.mk (show lentK.R 25 wr w.heap.size (fun _ => True) (.slice none 0 0) (ms.take 0) from Kd.R_nil _ _ _ _ _)
            have HPS := Aside0.mk (show shK.R 34 wr w.heap.size (fun _ => True) (.slice none 0 0) ((ms.take 0).map shOf) from Kd.R_nil _ _ _ _ _)
            clear HI d1 hil d3 hig hfb hn5 hl5
            go_loopg [6, 7, 8, 9] ms.length (fun kq v6 v7 v8 v9 w' => ∃ q : Nat, v9 = .int .i64 q ∧ v7 = .int .i64 (firstE (ms.take q)) ∧ Aside0 (q + kq = ms.length) ∧ Aside0 (lentK.R 25 w' w.heap.size (fun _ => True) v6 (ms.take q)) ∧ Aside0 (shK.R 34 w' w.heap.size (fun _ => True) v8 ((ms.take q).map shOf)) ∧ Aside0 (Below w.heap.size w w'))
            case atStart => exact ⟨0, rfl, rfl, ⟨by omega⟩, HPL, HPS, HB⟩
            case round =>
              clear HPL HPS HB
              obtain ⟨q, rfl, rfl, HI, HPL, HPS, HB⟩ := hrel
              by_cases hil : q < ms.length
              · as_aux_lemma =>
                  have d1 : decide (q < ms.length) = true := decide_eq_true hil
                  have HIL := Aside0.mk hil
                  obtain ⟨ad, E, cE, hA, g0, g1, g2, g3, hle, hCE⟩ := mat_cells4 HM.out q hil
                  subst hA
                  have hlm := HL5.out ms[q] (List.getElem_mem hil)
                  have hrm := HR.out ms[q] (List.getElem_mem hil)
                  have HNE := Aside0.mk (firstE_next hil)
                  have HNS := Aside0.mk (shs_next hil)
                  have HNT := Aside0.mk (show ms.take (q + 1) = ms.take q ++ [ms[q]] from List.take_succ_eq_append_getElem hil)
                  have hi1 := eq_true hil
                  generalize ms[q] = m at g0 g1 g2 g3 hle hCE hlm hrm HNE HNS HNT
                  obtain ⟨mr, mc, mw, ml⟩ := m
                  simp only at g0 g1 g2 g3 hle hCE hlm
                  have HCE := Aside0.mk hCE
                  have HLE := Aside0.mk hle
                  have HLM := Aside0.mk hlm
                  have HG0 := Aside0.mk g0
                  have HG1 := Aside0.mk g1
                  have HG2 := Aside0.mk g2
                  have HG3 := Aside0.mk g3
                  have g0 := (HB.out.cell (World.block_lt_of_cell? w _ g0)).trans g0
                  have g1 := (HB.out.cell (World.block_lt_of_cell? w _ g1)).trans g1
                  have g2 := (HB.out.cell (World.block_lt_of_cell? w _ g2)).trans g2
                  have g3 := (HB.out.cell (World.block_lt_of_cell? w _ g3)).trans g3
                  clear hle hCE hlm
                  go_wp2_with fail
                  refine (lent_calls mr mc mw E cE ml wr (Kd.C_below HCE.out HB.out) HLE.out (by have := HLM.out; omega)).mono ?_
                  rintro e w2 ⟨A2, c2, rfl, hc2, hR2, hb⟩
                  have HM2 := Aside0.mk (lent_M (b0 := 0) (r := mr) (c := mc) (wd := mw) hR2 hc2 HPL.out (below_size HB.out))
                  have HPL := Aside0.mk (Kd.R_below HPL.out hb)
                  have HPS := Aside0.mk (Kd.R_below HPS.out hb)
                  have HB := Aside0.mk (below_step HB.out hb)
                  have HLN : Aside0 (((ms.take q).length + 1) * 48 ≤ 140737488355328) := ⟨by rw [List.length_take]; have := HN5.out; omega⟩
                  have HLS : Aside0 ((((ms.take q).map shOf).length + 1) * 24 ≤ 140737488355328) := ⟨by rw [List.length_map, List.length_take]; have := HN5.out; omega⟩
                  clear hc2 hR2 hb g0 g1 g2 g3
                  go_wp2_with ((with_reducible refine gate_builtin (b := .append) (xs := #[.tmp 56, .tmp 62]) rfl ?_); at_builtin; refine Kd.R_append lentK (w0 := w) w.heap.size rfl (.tmp 56) (.tmp 62) 70 25 (.agg zero4) 48 rfl Try.underlying70 info25s rfl (by decide) (by omega) u6 (ms.take q) (mr, mc, mw, ml) [.int .i64 mr, .int .i64 mc, .int .i64 mw, .slice A2 ml.length c2] (fun _ => True) (fun k => some k ≠ u6.ownBlock) rfl rfl ?aP (fun _ hk => ⟨trivial, hk⟩) ?aF ?aO ?aB ?aS ?aL ?_; (case aP => exact HM2.out); (case aB => exact HB.out); (case aF => exact (fun _ _ => trivial)); (case aO => exact HPL.out); (case aS => exact below_size HB.out); (case aL => exact HLN.out); intro v9 w7 ho hb hg hat; have HPL2 : Aside0 (lentK.R 25 w7 w.heap.size (fun _ => True) v9 (ms.take (q + 1))) := ⟨by rw [HNT.out]; exact ho⟩; have HPS2 := Aside0.mk (R_grown_types HPS.out HPL.out (by intro x hx; have h3 : x = 34 := List.mem_singleton.1 (show x ∈ [34] from hx); omega) hg); have HB2 := Aside0.mk hb; clear ho hg hat HPL HPS HB HLN HM2; have g0 := (hb.cell (World.block_lt_of_cell? w _ HG0.out)).trans HG0.out; have g1 := (hb.cell (World.block_lt_of_cell? w _ HG1.out)).trans HG1.out; have g2 := (hb.cell (World.block_lt_of_cell? w _ HG2.out)).trans HG2.out; have g3 := (hb.cell (World.block_lt_of_cell? w _ HG3.out)).trans HG3.out; clear hb)
                  refine (pupilref7_Check.calls (2 * (ml.length + 1)) mr mc mw E cE ml (checkV mr mc mw ml) _ (Kd.C_below HCE.out HB2.out) HLE.out (refCheck_eq _ mr mc mw ml (by have := HLM.out; omega) (by omega))).mono ?_
                  rintro e w3 ⟨rfl, hb⟩
                  have HPL := Aside0.mk (Kd.R_below HPL2.out hb)
                  have HPS := Aside0.mk (Kd.R_below HPS2.out hb)
                  have HB := Aside0.mk (below_step HB2.out hb)
                  clear hb HPL2 HPS2 HB2 g0 g1 g2 g3
                  have g0 := (HB.out.cell (World.block_lt_of_cell? w _ HG0.out)).trans HG0.out
                  have g1 := (HB.out.cell (World.block_lt_of_cell? w _ HG1.out)).trans HG1.out
                  have g2 := (HB.out.cell (World.block_lt_of_cell? w _ HG2.out)).trans HG2.out
                  have g3 := (HB.out.cell (World.block_lt_of_cell? w _ HG3.out)).trans HG3.out
                  have hck : ckOf (mr, mc, mw, ml) = checkV mr mc mw ml := rfl
                  rw [hck] at HNE
                  by_cases hz : firstE (ms.take q) = 0
                  · as_aux_lemma =>
                      rw [if_pos hz] at HNE
                      rw [hz]
                      clear hz
                      go_wp2_with fail
                      refine (pupilref7_Of.calls mr mc mw E cE ml mr mc mw _ (Kd.C_below HCE.out HB.out) HLE.out rfl).mono ?_
                      rintro e w4 ⟨rfl, hb⟩
                      have HPL := Aside0.mk (Kd.R_below HPL.out hb)
                      have HPS := Aside0.mk (Kd.R_below HPS.out hb)
                      have HB := Aside0.mk (below_step HB.out hb)
                      clear hb g0 g1 g2 g3
                      go_wp2_with ((with_reducible refine gate_builtin (b := .append) (xs := #[.tmp 72, .tmp 78]) rfl ?_); at_builtin; refine Kd.R_append shK (w0 := w) w.heap.size rfl (.tmp 72) (.tmp 78) 71 34 (.agg #[.int .i64 0, .int .i64 0, .int .i64 0]) 24 rfl Try.underlying71 info34s rfl (by decide) (by omega) u8 ((ms.take q).map shOf) (mr, mc, mw) [.int .i64 mr, .int .i64 mc, .int .i64 mw] (fun _ => True) (fun _ => False) rfl rfl ?aP (fun _ hk => hk.elim) ?aF ?aO ?aB ?aS ?aL ?_; (case aP => exact ⟨[_], [_, _], rfl, rfl, [_], [_], rfl, rfl, rfl⟩); (case aB => exact HB.out); (case aF => exact (fun _ _ => trivial)); (case aO => exact HPS.out); (case aS => exact below_size HB.out); (case aL => exact HLS.out); intro v10 w8 ho hb hg hat; have HPS2 : Aside0 (shK.R 34 w8 w.heap.size (fun _ => True) v10 ((ms.take (q + 1)).map shOf)) := ⟨by rw [HNS.out]; exact ho⟩; have HPL2 := Aside0.mk (R_grown_types HPL.out HPS.out (by intro x hx; have h3 : x = 25 ∨ x = 3 := (by simpa using (show x ∈ [25, 3] from hx)); omega) hg); have HB2 := Aside0.mk hb; clear ho hb hg hat HPL HPS HB HLS)
                      go_roundg (gk - 1)
                      case measure => have := HI.out; have := HIL.out; omega
                      case rel => exact ⟨q + 1, by first | go_num | exact next_i6 (by have := HN5.out; have := HIL.out; omega), by rw [HNE.out], ⟨by have := HI.out; have := HIL.out; omega⟩, HPL2, HPS2, HB2⟩
                  · as_aux_lemma =>
                      rw [if_neg hz] at HNE
                      have d2 : (firstE (ms.take q) == 0) = false := by rw [beq_eq_false_iff_ne]; exact hz
                      generalize firstE (ms.take q) = fe at HNE hz d2 ⊢
                      go_wp2_with fail
                      refine (pupilref7_Of.calls mr mc mw E cE ml mr mc mw _ (Kd.C_below HCE.out HB.out) HLE.out rfl).mono ?_
                      rintro e w4 ⟨rfl, hb⟩
                      have HPL := Aside0.mk (Kd.R_below HPL.out hb)
                      have HPS := Aside0.mk (Kd.R_below HPS.out hb)
                      have HB := Aside0.mk (below_step HB.out hb)
                      clear hb g0 g1 g2 g3
                      go_wp2_with ((with_reducible refine gate_builtin (b := .append) (xs := #[.tmp 72, .tmp 78]) rfl ?_); at_builtin; refine Kd.R_append shK (w0 := w) w.heap.size rfl (.tmp 72) (.tmp 78) 71 34 (.agg #[.int .i64 0, .int .i64 0, .int .i64 0]) 24 rfl Try.underlying71 info34s rfl (by decide) (by omega) u8 ((ms.take q).map shOf) (mr, mc, mw) [.int .i64 mr, .int .i64 mc, .int .i64 mw] (fun _ => True) (fun _ => False) rfl rfl ?aP (fun _ hk => hk.elim) ?aF ?aO ?aB ?aS ?aL ?_; (case aP => exact ⟨[_], [_, _], rfl, rfl, [_], [_], rfl, rfl, rfl⟩); (case aB => exact HB.out); (case aF => exact (fun _ _ => trivial)); (case aO => exact HPS.out); (case aS => exact below_size HB.out); (case aL => exact HLS.out); intro v10 w8 ho hb hg hat; have HPS2 : Aside0 (shK.R 34 w8 w.heap.size (fun _ => True) v10 ((ms.take (q + 1)).map shOf)) := ⟨by rw [HNS.out]; exact ho⟩; have HPL2 := Aside0.mk (R_grown_types HPL.out HPS.out (by intro x hx; have h3 : x = 25 ∨ x = 3 := (by simpa using (show x ∈ [25, 3] from hx)); omega) hg); have HB2 := Aside0.mk hb; clear ho hb hg hat HPL HPS HB HLS)
                      go_roundg (gk - 1)
                      case measure => have := HI.out; have := HIL.out; omega
                      case rel => exact ⟨q + 1, by first | go_num | exact next_i6 (by have := HN5.out; have := HIL.out; omega), by rw [HNE.out], ⟨by have := HI.out; have := HIL.out; omega⟩, HPL2, HPS2, HB2⟩
              · as_aux_lemma =>
                  have d1 : decide (q < ms.length) = false := decide_eq_false hil
                  have hin : q = ms.length := by have := HI.out; omega
                  subst hin
                  rw [List.take_length] at HPL HPS ⊢
                  clear HI d1 hil
                  obtain ⟨A6, c6, hv6, hle6, hC6⟩ := Kd.R_reads HPL.out
                  obtain ⟨ss, hss⟩ : ∃ ss, ss = ms.map shOf := ⟨_, rfl⟩
                  have hPS := HPS.out
                  rw [← hss] at hPS
                  obtain ⟨A8, c8, hv8, hle8, hC8⟩ := Kd.R_reads hPS
                  have hls : ss.length = ms.length := by rw [hss]; exact List.length_map ..
                  have HSS := Aside0.mk hss
                  have HLS := Aside0.mk hls
                  have HLE6 := Aside0.mk hle6
                  have HLE8 := Aside0.mk hle8
                  subst hv6 hv8
                  have G1 := glue_cols A6 c6 ms wr (lent_C hC6) hle6 (by have := HN5.out; omega) HL5.out
                  have HJ1 := Aside0.mk (show ∃ e r c d L, jE true ms = e ∧ jR true ms = r ∧ jC true ms = c ∧ jW true ms = d ∧ jL true ms = L from ⟨_, _, _, _, _, rfl, rfl, rfl, rfl, rfl⟩)
                  obtain ⟨e1, r1, c1, d1_, L1, j1⟩ := HJ1.out
                  rw [j1.1, j1.2.1, j1.2.2.1, j1.2.2.2.1, j1.2.2.2.2] at G1
                  have J1 := Aside0.mk j1
                  obtain ⟨e2, r2, c2, d2_, L2, j2⟩ := (show ∃ e r c d L, jE false ms = e ∧ jR false ms = r ∧ jC false ms = c ∧ jW false ms = d ∧ jL false ms = L from ⟨_, _, _, _, _, rfl, rfl, rfl, rfl, rfl⟩)
                  have J2 := Aside0.mk j2
                  have CL := Aside0.mk hC6
                  have CS := Aside0.mk hC8
                  clear HPL HPS hPS hle6 hle8 hC6 hC8 hss hls HJ1 j1 j2
                  go_wp2_with fail
                  refine G1.mono ?_
                  rintro e x1 ⟨v1, rfl, hI1, hb⟩
                  obtain ⟨A1, k1, hv1, hk1, hC1⟩ := Kd.R_reads hI1
                  subst hv1
                  have HB := Aside0.mk (below_step HB.out hb)
                  have CL := Aside0.mk (Kd.C_below CL.out hb)
                  have CS := Aside0.mk (Kd.C_below CS.out hb)
                  have C1 := Aside0.mk (And.intro hk1 hC1)
                  clear hI1 hk1 hC1 hb G1
                  go_wp2_with fail
                  have K11 := Aside0.mk (show IsB (x1.alloc (.cells (row4 r1 c1 d1_ (.slice A1 L1.length k1)) 25)) x1.heap.size (row4 r1 c1 d1_ (.slice A1 L1.length k1)) 25 from blk_new x1 (.cells (row4 r1 c1 d1_ (.slice A1 L1.length k1)) 25))
                  have hb := below_alloc (Below.refl x1.heap.size x1) (.cells (row4 r1 c1 d1_ (.slice A1 L1.length k1)) 25)
                  have HB := Aside0.mk (below_step HB.out hb)
                  have CL := Aside0.mk (Kd.C_below CL.out hb)
                  have CS := Aside0.mk (Kd.C_below CS.out hb)
                  have C1 := Aside0.mk (And.intro C1.out.1 (Kd.C_below C1.out.2 hb))
                  clear hb
                  generalize x1.heap.size = g11 at K11 ⊢
                  generalize x1.alloc (.cells (row4 r1 c1 d1_ (.slice A1 L1.length k1)) 25) = x2 at K11 HB CL CS C1 ⊢
                  have G2 := glue_rows A6 c6 ms x2 (lent_C CL.out) HLE6.out (by have := HN5.out; omega) HL5.out
                  rw [J2.out.1, J2.out.2.1, J2.out.2.2.1, J2.out.2.2.2.1, J2.out.2.2.2.2] at G2
                  refine G2.mono ?_
                  rintro e x3 ⟨v2, rfl, hI2, hb⟩
                  obtain ⟨A2, k2, hv2, hk2, hC2⟩ := Kd.R_reads hI2
                  subst hv2
                  have HB := Aside0.mk (below_step HB.out hb)
                  have CL := Aside0.mk (Kd.C_below CL.out hb)
                  have CS := Aside0.mk (Kd.C_below CS.out hb)
                  have C1 := Aside0.mk (And.intro C1.out.1 (Kd.C_below C1.out.2 hb))
                  have C2 := Aside0.mk (And.intro hk2 hC2)
                  have K11 := Aside0.mk (blk_below K11.out hb)
                  clear hI2 hk2 hC2 hb G2
                  go_wp2_with fail
                  have K13 := Aside0.mk (show IsB (x3.alloc (.cells (row4 r2 c2 d2_ (.slice A2 L2.length k2)) 25)) x3.heap.size (row4 r2 c2 d2_ (.slice A2 L2.length k2)) 25 from blk_new x3 (.cells (row4 r2 c2 d2_ (.slice A2 L2.length k2)) 25))
                  have hb := below_alloc (Below.refl x3.heap.size x3) (.cells (row4 r2 c2 d2_ (.slice A2 L2.length k2)) 25)
                  have HB4 := Aside0.mk (below_step HB.out hb)
                  have CL := Aside0.mk (Kd.C_below CL.out hb)
                  have CS := Aside0.mk (Kd.C_below CS.out hb)
                  have C1 := Aside0.mk (And.intro C1.out.1 (Kd.C_below C1.out.2 hb))
                  have C2 := Aside0.mk (And.intro C2.out.1 (Kd.C_below C2.out.2 hb))
                  have K11 := Aside0.mk (blk_below K11.out hb)
                  clear hb HB
                  generalize x3.heap.size = g13 at K13 ⊢
                  generalize x3.alloc (.cells (row4 r2 c2 d2_ (.slice A2 L2.length k2)) 25) = x4 at K11 K13 HB4 CL CS C1 C2 ⊢
                  have HS := Aside0.mk (Below.refl x4.heap.size x4)
                  go_loopg [15] ms.length (fun kq v15 w' => ∃ q : Nat, v15 = .int .i64 q ∧ Aside0 (q + kq = ms.length) ∧ Aside0 (Below x4.heap.size x4 w'))
                  case atStart => exact ⟨0, rfl, ⟨by omega⟩, HS⟩
                  case round =>
                    clear HS
                    obtain ⟨q, rfl, HI, HS⟩ := hrel
                    by_cases hil : q < ms.length
                    · as_aux_lemma =>
                        have d1 : decide (q < ms.length) = true := decide_eq_true hil
                        have HIL := Aside0.mk hil
                        obtain ⟨ad, E, cE, hA, g0, g1, g2, g3, hle, hCE⟩ := mat_cells4 HM.out q hil
                        obtain ⟨adL, F, cF, hA6, f0, f1, f2, f3, hlF, hCF⟩ := lent_cells4 CL.out q hil
                        subst hA hA6
                        have hlm := HL5.out ms[q] (List.getElem_mem hil)
                        have hi1 := eq_true hil
                        generalize ms[q] = m at g0 g1 g2 g3 f0 f1 f2 f3 hle hCE hlF hCF hlm
                        obtain ⟨mr, mc, mw, ml⟩ := m
                        simp only at g0 g1 g2 g3 f0 f1 f2 f3 hle hCE hlF hCF hlm
                        have HCE := Aside0.mk hCE
                        have HLE := Aside0.mk hle
                        have HCF := Aside0.mk hCF
                        have HLF := Aside0.mk hlF
                        have HLM := Aside0.mk hlm
                        have HG := Aside0.mk (And.intro g0 (And.intro g1 (And.intro g2 g3)))
                        have HF := Aside0.mk (And.intro f0 (And.intro f1 (And.intro f2 f3)))
                        have hb := below_step HB4.out HS.out
                        have g0 := (hb.cell (World.block_lt_of_cell? w _ g0)).trans g0
                        have g1 := (hb.cell (World.block_lt_of_cell? w _ g1)).trans g1
                        have g2 := (hb.cell (World.block_lt_of_cell? w _ g2)).trans g2
                        have g3 := (hb.cell (World.block_lt_of_cell? w _ g3)).trans g3
                        have f0 := (HS.out.cell (World.block_lt_of_cell? x4 _ f0)).trans f0
                        have f1 := (HS.out.cell (World.block_lt_of_cell? x4 _ f1)).trans f1
                        have f2 := (HS.out.cell (World.block_lt_of_cell? x4 _ f2)).trans f2
                        have f3 := (HS.out.cell (World.block_lt_of_cell? x4 _ f3)).trans f3
                        clear hle hCE hlF hCF hlm hb
                        go_wp2
                        refine start_ (n := 10) (S := fun w' => w'.cell? (adL.add (q * 4)) = some (.int .i64 mr) ∧ w'.cell? ⟨(adL.add (q * 4)).block, (adL.add (q * 4)).off + 1, none⟩ = some (.int .i64 mc) ∧ w'.cell? ⟨(adL.add (q * 4)).block, (adL.add (q * 4)).off + 2, none⟩ = some (.int .i64 mw) ∧ w'.cell? ⟨(adL.add (q * 4)).block, (adL.add (q * 4)).off + 3, none⟩ = some (.slice F ml.length cF) ∧ w'.cell? (ad.add (q * 4)) = some (.int .i64 mr) ∧ w'.cell? ⟨(ad.add (q * 4)).block, (ad.add (q * 4)).off + 1, none⟩ = some (.int .i64 mc) ∧ w'.cell? ⟨(ad.add (q * 4)).block, (ad.add (q * 4)).off + 2, none⟩ = some (.int .i64 mw) ∧ w'.cell? ⟨(ad.add (q * 4)).block, (ad.add (q * 4)).off + 3, none⟩ = some (.slice E ml.length cE)) (ds := [9]) #[false, false, false, false, false, false, false, false, false, false] (by kernel_rfl) rfl rfl ⟨f0, f1, f2, f3, g0, g1, g2, g3⟩ (fun hHeld => ?_)
                        refine with_tabW F8Rtab25 F8Rbits25 (fun HT_ HW_ => ?_)
                        refine pure_ (i := 0) (N := some 96) (v := ?_) (a' := ?_) #[true, false, false, false, false, false, false, false, false, false] rfl rfl (any_of HT_.out (by kernel_rfl)) (fun _ _ _ h => h) (Or.inl ⟨by rfl, ?_⟩) ?_ ?_
                        rotate_left
                        · intro w'
                          go_simp
                          with_reducible rfl
                        rotate_left
                        · simp only [Act.put, List.setIfInBounds_toArray, List.set_cons_zero, List.set_cons_succ, i64_w, i32_w]
                          rfl
                        refine pure_ (i := 1) (N := some 97) (v := ?_) (a' := ?_) #[true, true, false, false, false, false, false, false, false, false] rfl rfl (any_of HT_.out (by kernel_rfl)) (fun _ _ _ h => h) (Or.inl ⟨by rfl, ?_⟩) ?_ ?_
                        rotate_left
                        · intro w'
                          go_simp
                          with_reducible rfl
                        rotate_left
                        · simp only [Act.put, List.setIfInBounds_toArray, List.set_cons_zero, List.set_cons_succ, i64_w, i32_w]
                          rfl
                        refine pure_ (i := 2) (N := some 98) (v := ?_) (a' := ?_) #[true, true, true, false, false, false, false, false, false, false] rfl rfl (any_of HT_.out (by kernel_rfl)) (fun _ _ _ h => h) (Or.inl ⟨by rfl, ?_⟩) ?_ ?_
                        rotate_left
                        · intro w'
                          go_simp
                          with_reducible rfl
                        rotate_left
                        · simp only [Act.put, List.setIfInBounds_toArray, List.set_cons_zero, List.set_cons_succ, i64_w, i32_w]
                          rfl
                        refine pure_ (i := 4) (N := some 100) (v := ?_) (a' := ?_) #[true, true, true, false, true, false, false, false, false, false] rfl rfl (any_of HT_.out (by kernel_rfl)) (fun _ _ _ h => h) (Or.inl ⟨by rfl, ?_⟩) ?_ ?_
                        rotate_left
                        · intro w'
                          go_simp
                          with_reducible rfl
                        rotate_left
                        · simp only [Act.put, List.setIfInBounds_toArray, List.set_cons_zero, List.set_cons_succ, i64_w, i32_w]
                          rfl
                        refine pure_ (i := 5) (N := some 101) (v := ?_) (a' := ?_) #[true, true, true, false, true, true, false, false, false, false] rfl rfl (any_of HT_.out (by kernel_rfl)) (fun _ _ _ h => h) (Or.inl ⟨by rfl, ?_⟩) ?_ ?_
                        rotate_left
                        · intro w'
                          go_simp
                          with_reducible rfl
                        rotate_left
                        · simp only [Act.put, List.setIfInBounds_toArray, List.set_cons_zero, List.set_cons_succ, i64_w, i32_w]
                          rfl
                        refine pure_ (i := 6) (N := some 102) (v := ?_) (a' := ?_) #[true, true, true, false, true, true, true, false, false, false] rfl rfl (any_of HT_.out (by kernel_rfl)) (fun _ _ _ h => h) (Or.inl ⟨by rfl, ?_⟩) ?_ ?_
                        rotate_left
                        · intro w'
                          go_simp
                          with_reducible rfl
                        rotate_left
                        · simp only [Act.put, List.setIfInBounds_toArray, List.set_cons_zero, List.set_cons_succ, i64_w, i32_w]
                          rfl
                        refine take_ (i := 3) (N := some 99) (v := ?_) (a' := ?_) #[true, true, true, true, true, true, true, false, false, false] rfl rfl (take_ofW HT_.out HW_.out (by kernel_rfl)) (fun _ _ _ h => h) (Or.inl ⟨by rfl, ?_⟩) hHeld ?_ ?_
                        rotate_left
                        · rintro w' ⟨s0, s1, s2, s3, s4, s5, s6, s7⟩
                          go_simp
                          with_reducible rfl
                        rotate_left
                        · simp only [Act.put, List.setIfInBounds_toArray, List.set_cons_zero, List.set_cons_succ, i64_w, i32_w]
                          rfl
                        refine take_ (i := 7) (N := some 103) (v := ?_) (a' := ?_) #[true, true, true, true, true, true, true, true, false, false] rfl rfl (take_ofW HT_.out HW_.out (by kernel_rfl)) (fun _ _ _ h => h) (Or.inl ⟨by rfl, ?_⟩) hHeld ?_ ?_
                        rotate_left
                        · rintro w' ⟨s0, s1, s2, s3, s4, s5, s6, s7⟩
                          go_simp
                          with_reducible rfl
                        rotate_left
                        · simp only [Act.put, List.setIfInBounds_toArray, List.set_cons_zero, List.set_cons_succ, i64_w, i32_w]
                          rfl
                        refine one_ (i := 8) (N := some 104) #[true, true, true, true, true, true, true, true, true, false] rfl rfl (one_of HT_.out (by kernel_rfl)) (by decide) (fun K hK => ?_)
                        refine goes_ Try.func22 (by kernel_rfl) rfl #[.agg #[.int .i64 mr, .int .i64 mc, .int .i64 mw, .slice F ml.length cF], .agg #[.int .i64 mr, .int .i64 mc, .int .i64 mw, .slice E ml.length cE]] (by rfl) rfl rfl (by simp only [List.map_toArray, List.map_cons, List.map_nil]; rfl) ?_
                        with_reducible refine (stays_calls mr mc mw E F cE cF ml _ (Kd.C_below HCE.out (below_step HB4.out (Below.drew HS.out))) HLE.out (by have := HLM.out; omega) (Kd.C_below HCF.out (Below.drew HS.out)) HLF.out).mono ?_
                        rintro e z4 ⟨rfl, hb⟩
                        refine ⟨_, rfl, ?_⟩
                        have HS4 := Aside0.mk (below_step (Below.drew HS.out) hb)
                        have HB5 := Aside0.mk (below_step HB4.out HS4.out)
                        refine hK.out _ _ ⟨((HS4.out.cell (World.block_lt_of_cell? x4 _ HF.out.1)).trans HF.out.1), ((HS4.out.cell (World.block_lt_of_cell? x4 _ HF.out.2.1)).trans HF.out.2.1), ((HS4.out.cell (World.block_lt_of_cell? x4 _ HF.out.2.2.1)).trans HF.out.2.2.1), ((HS4.out.cell (World.block_lt_of_cell? x4 _ HF.out.2.2.2)).trans HF.out.2.2.2), ((HB5.out.cell (World.block_lt_of_cell? w _ HG.out.1)).trans HG.out.1), ((HB5.out.cell (World.block_lt_of_cell? w _ HG.out.2.1)).trans HG.out.2.1), ((HB5.out.cell (World.block_lt_of_cell? w _ HG.out.2.2.1)).trans HG.out.2.2.1), ((HB5.out.cell (World.block_lt_of_cell? w _ HG.out.2.2.2)).trans HG.out.2.2.2)⟩ (fun hHeld => ?_)
                        clear hK K
                        refine norm_ (a' := ?_) ?_ ?_
                        rotate_left
                        · show Act.put _ (some 104) _ = _
                          simp only [Act.put, List.setIfInBounds_toArray, List.set_cons_zero, List.set_cons_succ, i64_w, i32_w]
                          rfl
                        refine pure_ (i := 9) (N := some 16) (v := ?_) (a' := ?_) #[true, true, true, true, true, true, true, true, true, true] rfl rfl (any_of HT_.out (by kernel_rfl)) (fun _ _ _ h => h) (Or.inl ⟨by rfl, ?_⟩) ?_ ?_
                        rotate_left
                        · intro w'
                          go_simp
                          with_reducible rfl
                        rotate_left
                        · simp only [Act.put, List.setIfInBounds_toArray, List.set_cons_zero, List.set_cons_succ, i64_w, i32_w]
                          rfl
                        refine done_ (done_of HT_.out (by kernel_rfl)) ?_
                        go_wp2
                        go_roundg (gk - 1)
                        case measure => have := HI.out; have := HIL.out; omega
                        case rel => exact ⟨q + 1, by first | go_num | exact next_i6 (by have := HN5.out; have := HIL.out; omega), ⟨by have := HI.out; have := HIL.out; omega⟩, HS4⟩
                    · as_aux_lemma =>
                        have d1 : decide (q < ms.length) = false := decide_eq_false hil
                        clear HI hil
                        have n0 := blk_cell (blk_below K11.out HS.out) 0
                        have n1 := blk_cell (blk_below K11.out HS.out) 1
                        have n2 := blk_cell (blk_below K11.out HS.out) 2
                        have n3 := blk_cell (blk_below K11.out HS.out) 3
                        have m0 := blk_cell (blk_below K13.out HS.out) 0
                        have m1 := blk_cell (blk_below K13.out HS.out) 1
                        have m2 := blk_cell (blk_below K13.out HS.out) 2
                        have m3 := blk_cell (blk_below K13.out HS.out) 3
                        simp only [List.getElem?_toArray, List.getElem?_cons_zero, List.getElem?_cons_succ] at n0 n1 n2 n3 m0 m1 m2 m3
                        by_cases hfe : firstE ms = 0
                        · as_aux_lemma =>
                            rw [hfe]
                            have hok := shs_ok hfe
                            rw [← HSS.out] at hok
                            have HOK := Aside0.mk hok
                            have HFE := Aside0.mk hfe
                            clear hok n0 n1 n2 n3 m0 m1 m2 m3
                            go_wp2_with fail
                            refine (refGlue_all true A8 c8 ss _ (Kd.C_below CS.out HS.out) HLE8.out (by have := HLS.out; have := HN5.out; omega) HOK.out).mono ?_
                            rintro e y1 hQ
                            obtain ⟨er1, p0, p1, p2, ps1, ⟨v1, rfl, hP1, hb⟩, hF1⟩ := glueQ_facts HFE.out HSS.out hQ
                            obtain ⟨B1, kB1, hv1, hkB1, hCP1⟩ := Kd.R_reads hP1
                            subst hv1
                            have HF1 := Aside0.mk hF1
                            have HS := Aside0.mk (below_step HS.out hb)
                            have CP1 := Aside0.mk (And.intro hkB1 hCP1)
                            clear hQ hP1 hkB1 hCP1 hF1 hb
                            go_wp2_with fail
                            have G17 := Aside0.mk (show IsB (y1.alloc (.cells (row4 p0 p1 p2 (.slice B1 ps1.length kB1)) 60)) y1.heap.size (row4 p0 p1 p2 (.slice B1 ps1.length kB1)) 60 from blk_new y1 (.cells (row4 p0 p1 p2 (.slice B1 ps1.length kB1)) 60))
                            have hb := below_alloc (Below.refl y1.heap.size y1) (.cells (row4 p0 p1 p2 (.slice B1 ps1.length kB1)) 60)
                            have HS := Aside0.mk (below_step HS.out hb)
                            have CP1 := Aside0.mk (And.intro CP1.out.1 (Kd.C_below CP1.out.2 hb))
                            clear hb
                            generalize y1.heap.size = g17 at G17 ⊢
                            generalize y1.alloc (.cells (row4 p0 p1 p2 (.slice B1 ps1.length kB1)) 60) = y2 at G17 HS CP1 ⊢
                            refine (refGlue_all false A8 c8 ss _ (Kd.C_below CS.out HS.out) HLE8.out (by have := HLS.out; have := HN5.out; omega) HOK.out).mono ?_
                            rintro e y3 hQ
                            obtain ⟨er2, t0_, t1_, t2_, ps2, ⟨v2, rfl, hP2, hb⟩, hF2⟩ := glueQ_facts HFE.out HSS.out hQ
                            obtain ⟨B2, kB2, hv2, hkB2, hCP2⟩ := Kd.R_reads hP2
                            subst hv2
                            have HF2 := Aside0.mk hF2
                            have HS := Aside0.mk (below_step HS.out hb)
                            have CP1 := Aside0.mk (And.intro CP1.out.1 (Kd.C_below CP1.out.2 hb))
                            have CP2 := Aside0.mk (And.intro hkB2 hCP2)
                            have G17 := Aside0.mk (blk_below G17.out hb)
                            clear hQ hP2 hkB2 hCP2 hF2 hb
                            have q1 := HF1.out.1
                            have q2 := HF2.out.1
                            have j1 := J1.out.1
                            have j2 := J2.out.1
                            rw [j1] at q1
                            rw [j2] at q2
                            subst q1 q2
                            clear j1 j2
                            go_wp2_with fail
                            have G19 := Aside0.mk (show IsB (y3.alloc (.cells (row4 t0_ t1_ t2_ (.slice B2 ps2.length kB2)) 60)) y3.heap.size (row4 t0_ t1_ t2_ (.slice B2 ps2.length kB2)) 60 from blk_new y3 (.cells (row4 t0_ t1_ t2_ (.slice B2 ps2.length kB2)) 60))
                            have hb := below_alloc (Below.refl y3.heap.size y3) (.cells (row4 t0_ t1_ t2_ (.slice B2 ps2.length kB2)) 60)
                            have HS := Aside0.mk (below_step HS.out hb)
                            have CP1 := Aside0.mk (And.intro CP1.out.1 (Kd.C_below CP1.out.2 hb))
                            have CP2 := Aside0.mk (And.intro CP2.out.1 (Kd.C_below CP2.out.2 hb))
                            have G17 := Aside0.mk (blk_below G17.out hb)
                            clear hb
                            generalize y3.heap.size = g19 at G19 ⊢
                            generalize y3.alloc (.cells (row4 t0_ t1_ t2_ (.slice B2 ps2.length kB2)) 60) = y4 at G17 G19 HS CP1 CP2 ⊢
                            refine (pupillaw7_num.calls e1 e1 _ rfl).mono ?_
                            rintro e y5 ⟨rfl, hd⟩
                            have hb := hd.below
                            have HS := Aside0.mk (below_step HS.out hb)
                            have CP1 := Aside0.mk (And.intro CP1.out.1 (Kd.C_below CP1.out.2 hb))
                            have CP2 := Aside0.mk (And.intro CP2.out.1 (Kd.C_below CP2.out.2 hb))
                            have G17 := Aside0.mk (blk_below G17.out hb)
                            have G19 := Aside0.mk (blk_below G19.out hb)
                            clear hb hd
                            go_wp2_with fail
                            refine (pupillaw7_num.calls e2 e2 _ rfl).mono ?_
                            rintro e y6 ⟨rfl, hd⟩
                            have hb := hd.below
                            have HS := Aside0.mk (below_step HS.out hb)
                            have CP1 := Aside0.mk (And.intro CP1.out.1 (Kd.C_below CP1.out.2 hb))
                            have CP2 := Aside0.mk (And.intro CP2.out.1 (Kd.C_below CP2.out.2 hb))
                            have G17 := Aside0.mk (blk_below G17.out hb)
                            have G19 := Aside0.mk (blk_below G19.out hb)
                            clear hb hd
                            by_cases hz1 : e1 = 0
                            · by_cases hz2 : e2 = 0
                              · as_aux_lemma =>
                                  obtain ⟨h1, h2, h3, h4, h5, h6, h7⟩ := HF1.out.2.2 hz1
                                  rw [J1.out.2.1] at h1
                                  rw [J1.out.2.2.1] at h2
                                  rw [J1.out.2.2.2.1] at h3
                                  rw [J1.out.2.2.2.2] at h4
                                  subst h1 h2 h3
                                  have HX1 := Aside0.mk (And.intro h4 (And.intro h5 (And.intro h6 h7)))
                                  clear h4 h5 h6 h7
                                  obtain ⟨h1, h2, h3, h4, h5, h6, h7⟩ := HF2.out.2.2 hz2
                                  rw [J2.out.2.1] at h1
                                  rw [J2.out.2.2.1] at h2
                                  rw [J2.out.2.2.2.1] at h3
                                  rw [J2.out.2.2.2.2] at h4
                                  subst h1 h2 h3
                                  have HX2 := Aside0.mk (And.intro h4 (And.intro h5 (And.intro h6 h7)))
                                  clear h4 h5 h6 h7
                                  rw [hz1]
                                  clear hz1
                                  rw [hz2]
                                  clear hz2
                                  have hN : ∀ W : World, (Kd.int .i64).C W none 0 [] := fun W => ⟨rfl, by simp, fun h => absurd h (by simp)⟩
                                  have n0 := blk_cell (blk_below K11.out HS.out) 0
                                  have n1 := blk_cell (blk_below K11.out HS.out) 1
                                  have n2 := blk_cell (blk_below K11.out HS.out) 2
                                  have n3 := blk_cell (blk_below K11.out HS.out) 3
                                  simp only [List.getElem?_toArray, List.getElem?_cons_zero, List.getElem?_cons_succ] at n0 n1 n2 n3
                                  have a0 := blk_cell G17.out 0
                                  have a1 := blk_cell G17.out 1
                                  have a2 := blk_cell G17.out 2
                                  have a3 := blk_cell G17.out 3
                                  simp only [List.getElem?_toArray, List.getElem?_cons_zero, List.getElem?_cons_succ] at a0 a1 a2 a3
                                  have b0 := blk_cell G19.out 0
                                  have b1 := blk_cell G19.out 1
                                  have b2 := blk_cell G19.out 2
                                  have b3 := blk_cell G19.out 3
                                  simp only [List.getElem?_toArray, List.getElem?_cons_zero, List.getElem?_cons_succ] at b0 b1 b2 b3
                                  have hg11 := blk_lt (blk_below K11.out HS.out)
                                  have hg17 := blk_lt G17.out
                                  have hg19 := blk_lt G19.out
                                  have hg13 := blk_lt (blk_below K13.out HS.out)
                                  go_wp2_with fail
                                  have hg21 : (y6.alloc (.cells zero4 25)).heap.size = y6.heap.size + 1 := by simp
                                  have G21 := Aside0.mk (blk_alloc (show IsB (y6.alloc (.cells zero4 25)) y6.heap.size zero4 25 from blk_new y6 (.cells zero4 25)) (.cells zero4 25))
                                  have G22 := Aside0.mk (show IsB ((y6.alloc (.cells zero4 25)).alloc (.cells zero4 25)) (y6.heap.size + 1) zero4 25 by have h := blk_new (y6.alloc (.cells zero4 25)) (.cells zero4 25); rw [hg21] at h; exact h)
                                  have HS6 := Aside0.mk (below_alloc (below_alloc (Below.refl y6.heap.size y6) (.cells zero4 25)) (.cells zero4 25))
                                  clear hg21 n0 n1 n2 n3 a0 a1 a2 a3 b0 b1 b2 b3
                                  generalize (y6.alloc (.cells zero4 25)).alloc (.cells zero4 25) = z0 at G21 G22 HS6 ⊢
                                  have HP1 := Aside0.mk (show (Kd.int .i64).R 3 z0 y6.heap.size (fun _ => True) (.slice none 0 0) [] from Kd.R_nil _ _ _ _ _)
                                  have HP2 := Aside0.mk (show (Kd.int .i64).R 3 z0 y6.heap.size (fun _ => True) (.slice none 0 0) [] from Kd.R_nil _ _ _ _ _)
                                  refine (refMoved_calls r1 c1 d1_ B1 kB1 ps1 A cA ms _ HX1.out.2.2.1 (Kd.C_below CP1.out.2 HS6.out) CP1.out.1 (Kd.C_below HM.out (below_step HB4.out (below_step HS.out HS6.out))) HCM.out HX1.out.2.1 HX1.out.2.2.2 HR.out).mono ?_
                                  rintro e z1 ⟨vv, rfl, hI, hb⟩
                                  rw [← HX1.out.1] at hI
                                  have HI := Aside0.mk (Kd.R_lower hI HS6.out.size)
                                  have HP1 := Aside0.mk (Kd.R_below HP1.out hb)
                                  have HP2 := Aside0.mk (Kd.R_below HP2.out hb)
                                  have G21 := Aside0.mk (blk_below G21.out hb)
                                  have G22 := Aside0.mk (blk_below G22.out hb)
                                  have HS6 := Aside0.mk (below_step HS6.out hb)
                                  obtain ⟨Am1, cm1, hv7⟩ := Kd.R_slice hI
                                  subst hv7
                                  clear hI hb
                                  have s0 := blk_cell G21.out 0
                                  have s1 := blk_cell G21.out 1
                                  have s2 := blk_cell G21.out 2
                                  have s3 := blk_cell G21.out 3
                                  have sf0 := blk_frozen G21.out 0
                                  have sf1 := blk_frozen G21.out 1
                                  have sf2 := blk_frozen G21.out 2
                                  have sf3 := blk_frozen G21.out 3
                                  simp only [List.getElem?_toArray, List.getElem?_cons_zero, List.getElem?_cons_succ] at s0 s1 s2 s3
                                  have b0 := blk_cell (blk_below G19.out HS6.out) 0
                                  have b1 := blk_cell (blk_below G19.out HS6.out) 1
                                  have b2 := blk_cell (blk_below G19.out HS6.out) 2
                                  have b3 := blk_cell (blk_below G19.out HS6.out) 3
                                  simp only [List.getElem?_toArray, List.getElem?_cons_zero, List.getElem?_cons_succ] at b0 b1 b2 b3
                                  go_wp2_with fail
                                  have HP1 := Aside0.mk (R_set4 HI.out G21.out (show ∀ q, q ∈ (3 : Nat) :: (Kd.int .i64).E → q ≠ 25 from fun q hq => by have h3 : q = 3 := List.mem_singleton.1 (show q ∈ [3] from hq); omega) (.int .i64 r1) (.int .i64 c1) (.int .i64 d1_) (.slice Am1 L1.length cm1))
                                  have HP2 := Aside0.mk (R_set4 HP2.out G21.out (show ∀ q, q ∈ (3 : Nat) :: (Kd.int .i64).E → q ≠ 25 from fun q hq => by have h3 : q = 3 := List.mem_singleton.1 (show q ∈ [3] from hq); omega) (.int .i64 r1) (.int .i64 c1) (.int .i64 d1_) (.slice Am1 L1.length cm1))
                                  have G22 := Aside0.mk (blk_far (blk_far (blk_far (blk_far G22.out (p := ⟨y6.heap.size, 0, none⟩) (by show (y6.heap.size + 1) ≠ y6.heap.size; omega) (.int .i64 r1)) (p := ⟨y6.heap.size, 1, none⟩) (by show (y6.heap.size + 1) ≠ y6.heap.size; omega) (.int .i64 c1)) (p := ⟨y6.heap.size, 2, none⟩) (by show (y6.heap.size + 1) ≠ y6.heap.size; omega) (.int .i64 d1_)) (p := ⟨y6.heap.size, 3, none⟩) (by show (y6.heap.size + 1) ≠ y6.heap.size; omega) (.slice Am1 L1.length cm1))
                                  have G21 := Aside0.mk (isB_set4 G21.out (.int .i64 r1) (.int .i64 c1) (.int .i64 d1_) (.slice Am1 L1.length cm1))
                                  have HS6 := Aside0.mk (below_set4 HS6.out (show y6.heap.size ≤ y6.heap.size by omega) (.int .i64 r1) (.int .i64 c1) (.int .i64 d1_) (.slice Am1 L1.length cm1))
                                  clear HI s0 s1 s2 s3 sf0 sf1 sf2 sf3
                                  generalize ((((z1.setCell ⟨y6.heap.size, 0, none⟩ (.int .i64 r1)).setCell ⟨y6.heap.size, 1, none⟩ (.int .i64 c1)).setCell ⟨y6.heap.size, 2, none⟩ (.int .i64 d1_)).setCell ⟨y6.heap.size, 3, none⟩ (.slice Am1 L1.length cm1)) = z3 at HP1 HP2 G21 G22 HS6 ⊢
                                  clear b0 b1 b2 b3
                                  refine (refMoved_calls r2 c2 d2_ B2 kB2 ps2 A cA ms _ HX2.out.2.2.1 (Kd.C_below CP2.out.2 HS6.out) CP2.out.1 (Kd.C_below HM.out (below_step HB4.out (below_step HS.out HS6.out))) HCM.out HX2.out.2.1 HX2.out.2.2.2 HR.out).mono ?_
                                  rintro e z2 ⟨vv, rfl, hI, hb⟩
                                  rw [← HX2.out.1] at hI
                                  have HI := Aside0.mk (Kd.R_lower hI HS6.out.size)
                                  have HP1 := Aside0.mk (Kd.R_below HP1.out hb)
                                  have HP2 := Aside0.mk (Kd.R_below HP2.out hb)
                                  have G21 := Aside0.mk (blk_below G21.out hb)
                                  have G22 := Aside0.mk (blk_below G22.out hb)
                                  have HS6 := Aside0.mk (below_step HS6.out hb)
                                  obtain ⟨Am2, cm2, hv7⟩ := Kd.R_slice hI
                                  subst hv7
                                  clear hI hb
                                  have s0 := blk_cell G22.out 0
                                  have s1 := blk_cell G22.out 1
                                  have s2 := blk_cell G22.out 2
                                  have s3 := blk_cell G22.out 3
                                  have sf0 := blk_frozen G22.out 0
                                  have sf1 := blk_frozen G22.out 1
                                  have sf2 := blk_frozen G22.out 2
                                  have sf3 := blk_frozen G22.out 3
                                  simp only [List.getElem?_toArray, List.getElem?_cons_zero, List.getElem?_cons_succ] at s0 s1 s2 s3
                                  have n0 := blk_cell (blk_below (blk_below K11.out HS.out) HS6.out) 0
                                  have n1 := blk_cell (blk_below (blk_below K11.out HS.out) HS6.out) 1
                                  have n2 := blk_cell (blk_below (blk_below K11.out HS.out) HS6.out) 2
                                  have n3 := blk_cell (blk_below (blk_below K11.out HS.out) HS6.out) 3
                                  simp only [List.getElem?_toArray, List.getElem?_cons_zero, List.getElem?_cons_succ] at n0 n1 n2 n3
                                  have u0 := blk_cell G21.out 0
                                  have u1 := blk_cell G21.out 1
                                  have u2 := blk_cell G21.out 2
                                  have u3 := blk_cell G21.out 3
                                  simp only [List.getElem?_toArray, List.getElem?_cons_zero, List.getElem?_cons_succ] at u0 u1 u2 u3
                                  go_wp2_with fail
                                  have HP2 := Aside0.mk (R_set4 HI.out G22.out (show ∀ q, q ∈ (3 : Nat) :: (Kd.int .i64).E → q ≠ 25 from fun q hq => by have h3 : q = 3 := List.mem_singleton.1 (show q ∈ [3] from hq); omega) (.int .i64 r2) (.int .i64 c2) (.int .i64 d2_) (.slice Am2 L2.length cm2))
                                  have HP1 := Aside0.mk (R_set4 HP1.out G22.out (show ∀ q, q ∈ (3 : Nat) :: (Kd.int .i64).E → q ≠ 25 from fun q hq => by have h3 : q = 3 := List.mem_singleton.1 (show q ∈ [3] from hq); omega) (.int .i64 r2) (.int .i64 c2) (.int .i64 d2_) (.slice Am2 L2.length cm2))
                                  have G21 := Aside0.mk (blk_far (blk_far (blk_far (blk_far G21.out (p := ⟨y6.heap.size + 1, 0, none⟩) (by show y6.heap.size ≠ y6.heap.size + 1; omega) (.int .i64 r2)) (p := ⟨y6.heap.size + 1, 1, none⟩) (by show y6.heap.size ≠ y6.heap.size + 1; omega) (.int .i64 c2)) (p := ⟨y6.heap.size + 1, 2, none⟩) (by show y6.heap.size ≠ y6.heap.size + 1; omega) (.int .i64 d2_)) (p := ⟨y6.heap.size + 1, 3, none⟩) (by show y6.heap.size ≠ y6.heap.size + 1; omega) (.slice Am2 L2.length cm2))
                                  have G22 := Aside0.mk (isB_set4 G22.out (.int .i64 r2) (.int .i64 c2) (.int .i64 d2_) (.slice Am2 L2.length cm2))
                                  have HS6 := Aside0.mk (below_set4 HS6.out (show y6.heap.size ≤ y6.heap.size + 1 by omega) (.int .i64 r2) (.int .i64 c2) (.int .i64 d2_) (.slice Am2 L2.length cm2))
                                  clear HI s0 s1 s2 s3 sf0 sf1 sf2 sf3
                                  generalize ((((z2.setCell ⟨y6.heap.size + 1, 0, none⟩ (.int .i64 r2)).setCell ⟨y6.heap.size + 1, 1, none⟩ (.int .i64 c2)).setCell ⟨y6.heap.size + 1, 2, none⟩ (.int .i64 d2_)).setCell ⟨y6.heap.size + 1, 3, none⟩ (.slice Am2 L2.length cm2)) = z4 at HP1 HP2 G21 G22 HS6 ⊢
                                  clear n0 n1 n2 n3 u0 u1 u2 u3
                                  obtain ⟨AN, cN, hvN, hlN, hCN⟩ := Kd.R_reads HP1.out
                                  injection hvN with hvA _ hvC
                                  subst hvA hvC
                                  refine (pupillaw7_Exact.calls (L1.length.succ + 1) r1 c1 d1_ A1 k1 L1 r1 c1 d1_ Am1 cm1 L1 true _ (Kd.C_below C1.out.2 (below_step HS.out HS6.out)) C1.out.1 hCN hlN (exact_self L1.length.succ _ _ _ L1 (by have := HX1.out.1; have := HX1.out.2.1; rw [HX1.out.1, List.length_map]; omega) (by omega))).mono ?_
                                  rintro e z5 ⟨rfl, hb⟩
                                  have HP1 := Aside0.mk (Kd.R_below HP1.out hb)
                                  have HP2 := Aside0.mk (Kd.R_below HP2.out hb)
                                  have G22 := Aside0.mk (blk_below G22.out hb)
                                  have HS6 := Aside0.mk (below_step HS6.out hb)
                                  clear hb
                                  have m0 := blk_cell (blk_below (blk_below K13.out HS.out) HS6.out) 0
                                  have m1 := blk_cell (blk_below (blk_below K13.out HS.out) HS6.out) 1
                                  have m2 := blk_cell (blk_below (blk_below K13.out HS.out) HS6.out) 2
                                  have m3 := blk_cell (blk_below (blk_below K13.out HS.out) HS6.out) 3
                                  simp only [List.getElem?_toArray, List.getElem?_cons_zero, List.getElem?_cons_succ] at m0 m1 m2 m3
                                  have v0 := blk_cell G22.out 0
                                  have v1 := blk_cell G22.out 1
                                  have v2 := blk_cell G22.out 2
                                  have v3 := blk_cell G22.out 3
                                  simp only [List.getElem?_toArray, List.getElem?_cons_zero, List.getElem?_cons_succ] at v0 v1 v2 v3
                                  go_wp2_with fail
                                  obtain ⟨AN, cN, hvN, hlN, hCN⟩ := Kd.R_reads HP2.out
                                  injection hvN with hvA _ hvC
                                  subst hvA hvC
                                  refine (pupillaw7_Exact.calls (L2.length.succ + 1) r2 c2 d2_ A2 k2 L2 r2 c2 d2_ Am2 cm2 L2 true _ (Kd.C_below C2.out.2 (below_step HS.out HS6.out)) C2.out.1 hCN hlN (exact_self L2.length.succ _ _ _ L2 (by have := HX2.out.1; have := HX2.out.2.1; rw [HX2.out.1, List.length_map]; omega) (by omega))).mono ?_
                                  rintro e z6 ⟨rfl, hb⟩
                                  have HS6 := Aside0.mk (below_step HS6.out hb)
                                  clear hb
                                  go_wp2
                                  go_ret
                                  exact ⟨rfl, below_step HB4.out (below_step HS.out HS6.out)⟩
                              · as_aux_lemma =>
                                  obtain ⟨h1, h2, h3, h4, h5, h6, h7⟩ := HF1.out.2.2 hz1
                                  rw [J1.out.2.1] at h1
                                  rw [J1.out.2.2.1] at h2
                                  rw [J1.out.2.2.2.1] at h3
                                  rw [J1.out.2.2.2.2] at h4
                                  subst h1 h2 h3
                                  have HX1 := Aside0.mk (And.intro h4 (And.intro h5 (And.intro h6 h7)))
                                  clear h4 h5 h6 h7
                                  obtain ⟨h1, h2, h3, h4⟩ := HF2.out.2.1 hz2
                                  rw [J2.out.2.1] at h1
                                  rw [J2.out.2.2.1] at h2
                                  rw [J2.out.2.2.2.1] at h3
                                  rw [J2.out.2.2.2.2] at h4
                                  subst h1 h2 h3 h4
                                  rw [hz1]
                                  clear hz1
                                  have hd2 : (e2 == 0) = false := by rw [beq_eq_false_iff_ne]; exact hz2
                                  have hN : ∀ W : World, (Kd.int .i64).C W none 0 [] := fun W => ⟨rfl, by simp, fun h => absurd h (by simp)⟩
                                  have n0 := blk_cell (blk_below K11.out HS.out) 0
                                  have n1 := blk_cell (blk_below K11.out HS.out) 1
                                  have n2 := blk_cell (blk_below K11.out HS.out) 2
                                  have n3 := blk_cell (blk_below K11.out HS.out) 3
                                  simp only [List.getElem?_toArray, List.getElem?_cons_zero, List.getElem?_cons_succ] at n0 n1 n2 n3
                                  have a0 := blk_cell G17.out 0
                                  have a1 := blk_cell G17.out 1
                                  have a2 := blk_cell G17.out 2
                                  have a3 := blk_cell G17.out 3
                                  simp only [List.getElem?_toArray, List.getElem?_cons_zero, List.getElem?_cons_succ] at a0 a1 a2 a3
                                  have b0 := blk_cell G19.out 0
                                  have b1 := blk_cell G19.out 1
                                  have b2 := blk_cell G19.out 2
                                  have b3 := blk_cell G19.out 3
                                  simp only [List.getElem?_toArray, List.getElem?_cons_zero, List.getElem?_cons_succ] at b0 b1 b2 b3
                                  have hg11 := blk_lt (blk_below K11.out HS.out)
                                  have hg17 := blk_lt G17.out
                                  have hg19 := blk_lt G19.out
                                  have hg13 := blk_lt (blk_below K13.out HS.out)
                                  go_wp2_with fail
                                  have hg21 : (y6.alloc (.cells zero4 25)).heap.size = y6.heap.size + 1 := by simp
                                  have G21 := Aside0.mk (blk_alloc (show IsB (y6.alloc (.cells zero4 25)) y6.heap.size zero4 25 from blk_new y6 (.cells zero4 25)) (.cells zero4 25))
                                  have G22 := Aside0.mk (show IsB ((y6.alloc (.cells zero4 25)).alloc (.cells zero4 25)) (y6.heap.size + 1) zero4 25 by have h := blk_new (y6.alloc (.cells zero4 25)) (.cells zero4 25); rw [hg21] at h; exact h)
                                  have HS6 := Aside0.mk (below_alloc (below_alloc (Below.refl y6.heap.size y6) (.cells zero4 25)) (.cells zero4 25))
                                  clear hg21 n0 n1 n2 n3 a0 a1 a2 a3 b0 b1 b2 b3
                                  generalize (y6.alloc (.cells zero4 25)).alloc (.cells zero4 25) = z0 at G21 G22 HS6 ⊢
                                  have HP1 := Aside0.mk (show (Kd.int .i64).R 3 z0 y6.heap.size (fun _ => True) (.slice none 0 0) [] from Kd.R_nil _ _ _ _ _)
                                  have HP2 := Aside0.mk (show (Kd.int .i64).R 3 z0 y6.heap.size (fun _ => True) (.slice none 0 0) [] from Kd.R_nil _ _ _ _ _)
                                  refine (refMoved_calls r1 c1 d1_ B1 kB1 ps1 A cA ms _ HX1.out.2.2.1 (Kd.C_below CP1.out.2 HS6.out) CP1.out.1 (Kd.C_below HM.out (below_step HB4.out (below_step HS.out HS6.out))) HCM.out HX1.out.2.1 HX1.out.2.2.2 HR.out).mono ?_
                                  rintro e z1 ⟨vv, rfl, hI, hb⟩
                                  rw [← HX1.out.1] at hI
                                  have HI := Aside0.mk (Kd.R_lower hI HS6.out.size)
                                  have HP1 := Aside0.mk (Kd.R_below HP1.out hb)
                                  have HP2 := Aside0.mk (Kd.R_below HP2.out hb)
                                  have G21 := Aside0.mk (blk_below G21.out hb)
                                  have G22 := Aside0.mk (blk_below G22.out hb)
                                  have HS6 := Aside0.mk (below_step HS6.out hb)
                                  obtain ⟨Am1, cm1, hv7⟩ := Kd.R_slice hI
                                  subst hv7
                                  clear hI hb
                                  have s0 := blk_cell G21.out 0
                                  have s1 := blk_cell G21.out 1
                                  have s2 := blk_cell G21.out 2
                                  have s3 := blk_cell G21.out 3
                                  have sf0 := blk_frozen G21.out 0
                                  have sf1 := blk_frozen G21.out 1
                                  have sf2 := blk_frozen G21.out 2
                                  have sf3 := blk_frozen G21.out 3
                                  simp only [List.getElem?_toArray, List.getElem?_cons_zero, List.getElem?_cons_succ] at s0 s1 s2 s3
                                  have n0 := blk_cell (blk_below (blk_below K11.out HS.out) HS6.out) 0
                                  have n1 := blk_cell (blk_below (blk_below K11.out HS.out) HS6.out) 1
                                  have n2 := blk_cell (blk_below (blk_below K11.out HS.out) HS6.out) 2
                                  have n3 := blk_cell (blk_below (blk_below K11.out HS.out) HS6.out) 3
                                  simp only [List.getElem?_toArray, List.getElem?_cons_zero, List.getElem?_cons_succ] at n0 n1 n2 n3
                                  go_wp2_with fail
                                  have HP1 := Aside0.mk (R_set4 HI.out G21.out (show ∀ q, q ∈ (3 : Nat) :: (Kd.int .i64).E → q ≠ 25 from fun q hq => by have h3 : q = 3 := List.mem_singleton.1 (show q ∈ [3] from hq); omega) (.int .i64 r1) (.int .i64 c1) (.int .i64 d1_) (.slice Am1 L1.length cm1))
                                  have HP2 := Aside0.mk (R_set4 HP2.out G21.out (show ∀ q, q ∈ (3 : Nat) :: (Kd.int .i64).E → q ≠ 25 from fun q hq => by have h3 : q = 3 := List.mem_singleton.1 (show q ∈ [3] from hq); omega) (.int .i64 r1) (.int .i64 c1) (.int .i64 d1_) (.slice Am1 L1.length cm1))
                                  have G22 := Aside0.mk (blk_far (blk_far (blk_far (blk_far G22.out (p := ⟨y6.heap.size, 0, none⟩) (by show (y6.heap.size + 1) ≠ y6.heap.size; omega) (.int .i64 r1)) (p := ⟨y6.heap.size, 1, none⟩) (by show (y6.heap.size + 1) ≠ y6.heap.size; omega) (.int .i64 c1)) (p := ⟨y6.heap.size, 2, none⟩) (by show (y6.heap.size + 1) ≠ y6.heap.size; omega) (.int .i64 d1_)) (p := ⟨y6.heap.size, 3, none⟩) (by show (y6.heap.size + 1) ≠ y6.heap.size; omega) (.slice Am1 L1.length cm1))
                                  have G21 := Aside0.mk (isB_set4 G21.out (.int .i64 r1) (.int .i64 c1) (.int .i64 d1_) (.slice Am1 L1.length cm1))
                                  have HS6 := Aside0.mk (below_set4 HS6.out (show y6.heap.size ≤ y6.heap.size by omega) (.int .i64 r1) (.int .i64 c1) (.int .i64 d1_) (.slice Am1 L1.length cm1))
                                  clear HI s0 s1 s2 s3 sf0 sf1 sf2 sf3
                                  generalize ((((z1.setCell ⟨y6.heap.size, 0, none⟩ (.int .i64 r1)).setCell ⟨y6.heap.size, 1, none⟩ (.int .i64 c1)).setCell ⟨y6.heap.size, 2, none⟩ (.int .i64 d1_)).setCell ⟨y6.heap.size, 3, none⟩ (.slice Am1 L1.length cm1)) = z3 at HP1 HP2 G21 G22 HS6 ⊢
                                  clear n0 n1 n2 n3
                                  obtain ⟨AN, cN, hvN, hlN, hCN⟩ := Kd.R_reads HP1.out
                                  injection hvN with hvA _ hvC
                                  subst hvA hvC
                                  refine (pupillaw7_Exact.calls (L1.length.succ + 1) r1 c1 d1_ A1 k1 L1 r1 c1 d1_ Am1 cm1 L1 true _ (Kd.C_below C1.out.2 (below_step HS.out HS6.out)) C1.out.1 hCN hlN (exact_self L1.length.succ _ _ _ L1 (by have := HX1.out.1; have := HX1.out.2.1; rw [HX1.out.1, List.length_map]; omega) (by omega))).mono ?_
                                  rintro e z5 ⟨rfl, hb⟩
                                  have HP1 := Aside0.mk (Kd.R_below HP1.out hb)
                                  have HP2 := Aside0.mk (Kd.R_below HP2.out hb)
                                  have G22 := Aside0.mk (blk_below G22.out hb)
                                  have HS6 := Aside0.mk (below_step HS6.out hb)
                                  clear hb
                                  have m0 := blk_cell (blk_below (blk_below K13.out HS.out) HS6.out) 0
                                  have m1 := blk_cell (blk_below (blk_below K13.out HS.out) HS6.out) 1
                                  have m2 := blk_cell (blk_below (blk_below K13.out HS.out) HS6.out) 2
                                  have m3 := blk_cell (blk_below (blk_below K13.out HS.out) HS6.out) 3
                                  simp only [List.getElem?_toArray, List.getElem?_cons_zero, List.getElem?_cons_succ] at m0 m1 m2 m3
                                  have v0 := blk_cell G22.out 0
                                  have v1 := blk_cell G22.out 1
                                  have v2 := blk_cell G22.out 2
                                  have v3 := blk_cell G22.out 3
                                  simp only [List.getElem?_toArray, List.getElem?_cons_zero, List.getElem?_cons_succ] at v0 v1 v2 v3
                                  go_wp2_with fail
                                  refine (pupillaw7_Exact.calls 3 0 0 0 A2 k2 [] 0 0 0 none 0 [] true _ (Kd.C_below C2.out.2 (below_step HS.out HS6.out)) C2.out.1 (hN _) (Nat.le_refl _) (exact_self 2 0 0 0 [] (by simp) (by simp))).mono ?_
                                  rintro e z6 ⟨rfl, hb⟩
                                  have HS6 := Aside0.mk (below_step HS6.out hb)
                                  clear hb
                                  go_wp2
                                  go_ret
                                  exact ⟨rfl, below_step HB4.out (below_step HS.out HS6.out)⟩
                            · by_cases hz2 : e2 = 0
                              · as_aux_lemma =>
                                  obtain ⟨h1, h2, h3, h4⟩ := HF1.out.2.1 hz1
                                  rw [J1.out.2.1] at h1
                                  rw [J1.out.2.2.1] at h2
                                  rw [J1.out.2.2.2.1] at h3
                                  rw [J1.out.2.2.2.2] at h4
                                  subst h1 h2 h3 h4
                                  obtain ⟨h1, h2, h3, h4, h5, h6, h7⟩ := HF2.out.2.2 hz2
                                  rw [J2.out.2.1] at h1
                                  rw [J2.out.2.2.1] at h2
                                  rw [J2.out.2.2.2.1] at h3
                                  rw [J2.out.2.2.2.2] at h4
                                  subst h1 h2 h3
                                  have HX2 := Aside0.mk (And.intro h4 (And.intro h5 (And.intro h6 h7)))
                                  clear h4 h5 h6 h7
                                  have hd1 : (e1 == 0) = false := by rw [beq_eq_false_iff_ne]; exact hz1
                                  rw [hz2]
                                  clear hz2
                                  have hN : ∀ W : World, (Kd.int .i64).C W none 0 [] := fun W => ⟨rfl, by simp, fun h => absurd h (by simp)⟩
                                  have n0 := blk_cell (blk_below K11.out HS.out) 0
                                  have n1 := blk_cell (blk_below K11.out HS.out) 1
                                  have n2 := blk_cell (blk_below K11.out HS.out) 2
                                  have n3 := blk_cell (blk_below K11.out HS.out) 3
                                  simp only [List.getElem?_toArray, List.getElem?_cons_zero, List.getElem?_cons_succ] at n0 n1 n2 n3
                                  have a0 := blk_cell G17.out 0
                                  have a1 := blk_cell G17.out 1
                                  have a2 := blk_cell G17.out 2
                                  have a3 := blk_cell G17.out 3
                                  simp only [List.getElem?_toArray, List.getElem?_cons_zero, List.getElem?_cons_succ] at a0 a1 a2 a3
                                  have b0 := blk_cell G19.out 0
                                  have b1 := blk_cell G19.out 1
                                  have b2 := blk_cell G19.out 2
                                  have b3 := blk_cell G19.out 3
                                  simp only [List.getElem?_toArray, List.getElem?_cons_zero, List.getElem?_cons_succ] at b0 b1 b2 b3
                                  have hg11 := blk_lt (blk_below K11.out HS.out)
                                  have hg17 := blk_lt G17.out
                                  have hg19 := blk_lt G19.out
                                  have hg13 := blk_lt (blk_below K13.out HS.out)
                                  go_wp2_with fail
                                  have hg21 : (y6.alloc (.cells zero4 25)).heap.size = y6.heap.size + 1 := by simp
                                  have G21 := Aside0.mk (blk_alloc (show IsB (y6.alloc (.cells zero4 25)) y6.heap.size zero4 25 from blk_new y6 (.cells zero4 25)) (.cells zero4 25))
                                  have G22 := Aside0.mk (show IsB ((y6.alloc (.cells zero4 25)).alloc (.cells zero4 25)) (y6.heap.size + 1) zero4 25 by have h := blk_new (y6.alloc (.cells zero4 25)) (.cells zero4 25); rw [hg21] at h; exact h)
                                  have HS6 := Aside0.mk (below_alloc (below_alloc (Below.refl y6.heap.size y6) (.cells zero4 25)) (.cells zero4 25))
                                  clear hg21 n0 n1 n2 n3 a0 a1 a2 a3 b0 b1 b2 b3
                                  generalize (y6.alloc (.cells zero4 25)).alloc (.cells zero4 25) = z0 at G21 G22 HS6 ⊢
                                  have HP1 := Aside0.mk (show (Kd.int .i64).R 3 z0 y6.heap.size (fun _ => True) (.slice none 0 0) [] from Kd.R_nil _ _ _ _ _)
                                  have HP2 := Aside0.mk (show (Kd.int .i64).R 3 z0 y6.heap.size (fun _ => True) (.slice none 0 0) [] from Kd.R_nil _ _ _ _ _)
                                  refine (refMoved_calls r2 c2 d2_ B2 kB2 ps2 A cA ms _ HX2.out.2.2.1 (Kd.C_below CP2.out.2 HS6.out) CP2.out.1 (Kd.C_below HM.out (below_step HB4.out (below_step HS.out HS6.out))) HCM.out HX2.out.2.1 HX2.out.2.2.2 HR.out).mono ?_
                                  rintro e z2 ⟨vv, rfl, hI, hb⟩
                                  rw [← HX2.out.1] at hI
                                  have HI := Aside0.mk (Kd.R_lower hI HS6.out.size)
                                  have HP1 := Aside0.mk (Kd.R_below HP1.out hb)
                                  have HP2 := Aside0.mk (Kd.R_below HP2.out hb)
                                  have G21 := Aside0.mk (blk_below G21.out hb)
                                  have G22 := Aside0.mk (blk_below G22.out hb)
                                  have HS6 := Aside0.mk (below_step HS6.out hb)
                                  obtain ⟨Am2, cm2, hv7⟩ := Kd.R_slice hI
                                  subst hv7
                                  clear hI hb
                                  have s0 := blk_cell G22.out 0
                                  have s1 := blk_cell G22.out 1
                                  have s2 := blk_cell G22.out 2
                                  have s3 := blk_cell G22.out 3
                                  have sf0 := blk_frozen G22.out 0
                                  have sf1 := blk_frozen G22.out 1
                                  have sf2 := blk_frozen G22.out 2
                                  have sf3 := blk_frozen G22.out 3
                                  simp only [List.getElem?_toArray, List.getElem?_cons_zero, List.getElem?_cons_succ] at s0 s1 s2 s3
                                  have n0 := blk_cell (blk_below (blk_below K11.out HS.out) HS6.out) 0
                                  have n1 := blk_cell (blk_below (blk_below K11.out HS.out) HS6.out) 1
                                  have n2 := blk_cell (blk_below (blk_below K11.out HS.out) HS6.out) 2
                                  have n3 := blk_cell (blk_below (blk_below K11.out HS.out) HS6.out) 3
                                  simp only [List.getElem?_toArray, List.getElem?_cons_zero, List.getElem?_cons_succ] at n0 n1 n2 n3
                                  have u0 := blk_cell G21.out 0
                                  have u1 := blk_cell G21.out 1
                                  have u2 := blk_cell G21.out 2
                                  have u3 := blk_cell G21.out 3
                                  simp only [List.getElem?_toArray, List.getElem?_cons_zero, List.getElem?_cons_succ] at u0 u1 u2 u3
                                  go_wp2_with fail
                                  have HP2 := Aside0.mk (R_set4 HI.out G22.out (show ∀ q, q ∈ (3 : Nat) :: (Kd.int .i64).E → q ≠ 25 from fun q hq => by have h3 : q = 3 := List.mem_singleton.1 (show q ∈ [3] from hq); omega) (.int .i64 r2) (.int .i64 c2) (.int .i64 d2_) (.slice Am2 L2.length cm2))
                                  have HP1 := Aside0.mk (R_set4 HP1.out G22.out (show ∀ q, q ∈ (3 : Nat) :: (Kd.int .i64).E → q ≠ 25 from fun q hq => by have h3 : q = 3 := List.mem_singleton.1 (show q ∈ [3] from hq); omega) (.int .i64 r2) (.int .i64 c2) (.int .i64 d2_) (.slice Am2 L2.length cm2))
                                  have G21 := Aside0.mk (blk_far (blk_far (blk_far (blk_far G21.out (p := ⟨y6.heap.size + 1, 0, none⟩) (by show y6.heap.size ≠ y6.heap.size + 1; omega) (.int .i64 r2)) (p := ⟨y6.heap.size + 1, 1, none⟩) (by show y6.heap.size ≠ y6.heap.size + 1; omega) (.int .i64 c2)) (p := ⟨y6.heap.size + 1, 2, none⟩) (by show y6.heap.size ≠ y6.heap.size + 1; omega) (.int .i64 d2_)) (p := ⟨y6.heap.size + 1, 3, none⟩) (by show y6.heap.size ≠ y6.heap.size + 1; omega) (.slice Am2 L2.length cm2))
                                  have G22 := Aside0.mk (isB_set4 G22.out (.int .i64 r2) (.int .i64 c2) (.int .i64 d2_) (.slice Am2 L2.length cm2))
                                  have HS6 := Aside0.mk (below_set4 HS6.out (show y6.heap.size ≤ y6.heap.size + 1 by omega) (.int .i64 r2) (.int .i64 c2) (.int .i64 d2_) (.slice Am2 L2.length cm2))
                                  clear HI s0 s1 s2 s3 sf0 sf1 sf2 sf3
                                  generalize ((((z2.setCell ⟨y6.heap.size + 1, 0, none⟩ (.int .i64 r2)).setCell ⟨y6.heap.size + 1, 1, none⟩ (.int .i64 c2)).setCell ⟨y6.heap.size + 1, 2, none⟩ (.int .i64 d2_)).setCell ⟨y6.heap.size + 1, 3, none⟩ (.slice Am2 L2.length cm2)) = z4 at HP1 HP2 G21 G22 HS6 ⊢
                                  clear n0 n1 n2 n3 u0 u1 u2 u3
                                  refine (pupillaw7_Exact.calls 3 0 0 0 A1 k1 [] 0 0 0 none 0 [] true _ (Kd.C_below C1.out.2 (below_step HS.out HS6.out)) C1.out.1 (hN _) (Nat.le_refl _) (exact_self 2 0 0 0 [] (by simp) (by simp))).mono ?_
                                  rintro e z5 ⟨rfl, hb⟩
                                  have HP1 := Aside0.mk (Kd.R_below HP1.out hb)
                                  have HP2 := Aside0.mk (Kd.R_below HP2.out hb)
                                  have G22 := Aside0.mk (blk_below G22.out hb)
                                  have HS6 := Aside0.mk (below_step HS6.out hb)
                                  clear hb
                                  have m0 := blk_cell (blk_below (blk_below K13.out HS.out) HS6.out) 0
                                  have m1 := blk_cell (blk_below (blk_below K13.out HS.out) HS6.out) 1
                                  have m2 := blk_cell (blk_below (blk_below K13.out HS.out) HS6.out) 2
                                  have m3 := blk_cell (blk_below (blk_below K13.out HS.out) HS6.out) 3
                                  simp only [List.getElem?_toArray, List.getElem?_cons_zero, List.getElem?_cons_succ] at m0 m1 m2 m3
                                  have v0 := blk_cell G22.out 0
                                  have v1 := blk_cell G22.out 1
                                  have v2 := blk_cell G22.out 2
                                  have v3 := blk_cell G22.out 3
                                  simp only [List.getElem?_toArray, List.getElem?_cons_zero, List.getElem?_cons_succ] at v0 v1 v2 v3
                                  go_wp2_with fail
                                  obtain ⟨AN, cN, hvN, hlN, hCN⟩ := Kd.R_reads HP2.out
                                  injection hvN with hvA _ hvC
                                  subst hvA hvC
                                  refine (pupillaw7_Exact.calls (L2.length.succ + 1) r2 c2 d2_ A2 k2 L2 r2 c2 d2_ Am2 cm2 L2 true _ (Kd.C_below C2.out.2 (below_step HS.out HS6.out)) C2.out.1 hCN hlN (exact_self L2.length.succ _ _ _ L2 (by have := HX2.out.1; have := HX2.out.2.1; rw [HX2.out.1, List.length_map]; omega) (by omega))).mono ?_
                                  rintro e z6 ⟨rfl, hb⟩
                                  have HS6 := Aside0.mk (below_step HS6.out hb)
                                  clear hb
                                  go_wp2
                                  go_ret
                                  exact ⟨rfl, below_step HB4.out (below_step HS.out HS6.out)⟩
                              · as_aux_lemma =>
                                  obtain ⟨h1, h2, h3, h4⟩ := HF1.out.2.1 hz1
                                  rw [J1.out.2.1] at h1
                                  rw [J1.out.2.2.1] at h2
                                  rw [J1.out.2.2.2.1] at h3
                                  rw [J1.out.2.2.2.2] at h4
                                  subst h1 h2 h3 h4
                                  obtain ⟨h1, h2, h3, h4⟩ := HF2.out.2.1 hz2
                                  rw [J2.out.2.1] at h1
                                  rw [J2.out.2.2.1] at h2
                                  rw [J2.out.2.2.2.1] at h3
                                  rw [J2.out.2.2.2.2] at h4
                                  subst h1 h2 h3 h4
                                  have hd1 : (e1 == 0) = false := by rw [beq_eq_false_iff_ne]; exact hz1
                                  have hd2 : (e2 == 0) = false := by rw [beq_eq_false_iff_ne]; exact hz2
                                  have hN : ∀ W : World, (Kd.int .i64).C W none 0 [] := fun W => ⟨rfl, by simp, fun h => absurd h (by simp)⟩
                                  have n0 := blk_cell (blk_below K11.out HS.out) 0
                                  have n1 := blk_cell (blk_below K11.out HS.out) 1
                                  have n2 := blk_cell (blk_below K11.out HS.out) 2
                                  have n3 := blk_cell (blk_below K11.out HS.out) 3
                                  simp only [List.getElem?_toArray, List.getElem?_cons_zero, List.getElem?_cons_succ] at n0 n1 n2 n3
                                  have a0 := blk_cell G17.out 0
                                  have a1 := blk_cell G17.out 1
                                  have a2 := blk_cell G17.out 2
                                  have a3 := blk_cell G17.out 3
                                  simp only [List.getElem?_toArray, List.getElem?_cons_zero, List.getElem?_cons_succ] at a0 a1 a2 a3
                                  have b0 := blk_cell G19.out 0
                                  have b1 := blk_cell G19.out 1
                                  have b2 := blk_cell G19.out 2
                                  have b3 := blk_cell G19.out 3
                                  simp only [List.getElem?_toArray, List.getElem?_cons_zero, List.getElem?_cons_succ] at b0 b1 b2 b3
                                  have hg11 := blk_lt (blk_below K11.out HS.out)
                                  have hg17 := blk_lt G17.out
                                  have hg19 := blk_lt G19.out
                                  have hg13 := blk_lt (blk_below K13.out HS.out)
                                  go_wp2_with fail
                                  have hg21 : (y6.alloc (.cells zero4 25)).heap.size = y6.heap.size + 1 := by simp
                                  have G21 := Aside0.mk (blk_alloc (show IsB (y6.alloc (.cells zero4 25)) y6.heap.size zero4 25 from blk_new y6 (.cells zero4 25)) (.cells zero4 25))
                                  have G22 := Aside0.mk (show IsB ((y6.alloc (.cells zero4 25)).alloc (.cells zero4 25)) (y6.heap.size + 1) zero4 25 by have h := blk_new (y6.alloc (.cells zero4 25)) (.cells zero4 25); rw [hg21] at h; exact h)
                                  have HS6 := Aside0.mk (below_alloc (below_alloc (Below.refl y6.heap.size y6) (.cells zero4 25)) (.cells zero4 25))
                                  clear hg21 n0 n1 n2 n3 a0 a1 a2 a3 b0 b1 b2 b3
                                  generalize (y6.alloc (.cells zero4 25)).alloc (.cells zero4 25) = z0 at G21 G22 HS6 ⊢
                                  have HP1 := Aside0.mk (show (Kd.int .i64).R 3 z0 y6.heap.size (fun _ => True) (.slice none 0 0) [] from Kd.R_nil _ _ _ _ _)
                                  have HP2 := Aside0.mk (show (Kd.int .i64).R 3 z0 y6.heap.size (fun _ => True) (.slice none 0 0) [] from Kd.R_nil _ _ _ _ _)
                                  refine (pupillaw7_Exact.calls 3 0 0 0 A1 k1 [] 0 0 0 none 0 [] true _ (Kd.C_below C1.out.2 (below_step HS.out HS6.out)) C1.out.1 (hN _) (Nat.le_refl _) (exact_self 2 0 0 0 [] (by simp) (by simp))).mono ?_
                                  rintro e z5 ⟨rfl, hb⟩
                                  have HP1 := Aside0.mk (Kd.R_below HP1.out hb)
                                  have HP2 := Aside0.mk (Kd.R_below HP2.out hb)
                                  have G22 := Aside0.mk (blk_below G22.out hb)
                                  have HS6 := Aside0.mk (below_step HS6.out hb)
                                  clear hb
                                  have m0 := blk_cell (blk_below (blk_below K13.out HS.out) HS6.out) 0
                                  have m1 := blk_cell (blk_below (blk_below K13.out HS.out) HS6.out) 1
                                  have m2 := blk_cell (blk_below (blk_below K13.out HS.out) HS6.out) 2
                                  have m3 := blk_cell (blk_below (blk_below K13.out HS.out) HS6.out) 3
                                  simp only [List.getElem?_toArray, List.getElem?_cons_zero, List.getElem?_cons_succ] at m0 m1 m2 m3
                                  have v0 := blk_cell G22.out 0
                                  have v1 := blk_cell G22.out 1
                                  have v2 := blk_cell G22.out 2
                                  have v3 := blk_cell G22.out 3
                                  simp only [List.getElem?_toArray, List.getElem?_cons_zero, List.getElem?_cons_succ] at v0 v1 v2 v3
                                  go_wp2_with fail
                                  refine (pupillaw7_Exact.calls 3 0 0 0 A2 k2 [] 0 0 0 none 0 [] true _ (Kd.C_below C2.out.2 (below_step HS.out HS6.out)) C2.out.1 (hN _) (Nat.le_refl _) (exact_self 2 0 0 0 [] (by simp) (by simp))).mono ?_
                                  rintro e z6 ⟨rfl, hb⟩
                                  have HS6 := Aside0.mk (below_step HS6.out hb)
                                  clear hb
                                  go_wp2
                                  go_ret
                                  exact ⟨rfl, below_step HB4.out (below_step HS.out HS6.out)⟩
                        · as_aux_lemma =>
                            have d2 : (firstE ms != 0) = true := by simpa using hfe
                            have q1 : jE true ms = firstE ms := by unfold jE; rw [if_neg hfe]
                            have q2 : jE false ms = firstE ms := by unfold jE; rw [if_neg hfe]
                            obtain ⟨a1, a2, a3, a4⟩ := jE_neg q1 hfe
                            obtain ⟨b1, b2, b3, b4⟩ := jE_neg q2 hfe
                            obtain ⟨j1, j2, j3, j4, j5⟩ := J1.out
                            obtain ⟨i1, i2, i3, i4, i5⟩ := J2.out
                            rw [q1] at j1
                            rw [q2] at i1
                            rw [a1] at j2
                            rw [a2] at j3
                            rw [a3] at j4
                            rw [a4] at j5
                            rw [b1] at i2
                            rw [b2] at i3
                            rw [b3] at i4
                            rw [b4] at i5
                            subst j1 j2 j3 j4 j5 i1 i2 i3 i4 i5
                            generalize firstE ms = fe at hfe d2 ⊢
                            clear q1 q2 a1 a2 a3 a4 b1 b2 b3 b4
                            have hN : ∀ W : World, (Kd.int .i64).C W none 0 [] := fun W => ⟨rfl, by simp, fun h => absurd h (by simp)⟩
                            go_wp2_with fail
                            refine (pupillaw7_num.calls fe fe _ rfl).mono ?_
                            rintro e y1 ⟨rfl, hd⟩
                            have hb := hd.below
                            have HS := Aside0.mk (below_step HS.out hb)
                            clear hb hd n0 n1 n2 n3 m0 m1 m2 m3
                            have n0 := blk_cell (blk_below K11.out HS.out) 0
                            have n1 := blk_cell (blk_below K11.out HS.out) 1
                            have n2 := blk_cell (blk_below K11.out HS.out) 2
                            have n3 := blk_cell (blk_below K11.out HS.out) 3
                            simp only [List.getElem?_toArray, List.getElem?_cons_zero, List.getElem?_cons_succ] at n0 n1 n2 n3
                            go_wp2_with fail
                            refine (pupillaw7_num.calls fe fe _ rfl).mono ?_
                            rintro e y2 ⟨rfl, hd⟩
                            have hb := hd.below
                            have HS := Aside0.mk (below_step HS.out hb)
                            clear hb hd n0 n1 n2 n3
                            have n0 := blk_cell (blk_below K11.out HS.out) 0
                            have n1 := blk_cell (blk_below K11.out HS.out) 1
                            have n2 := blk_cell (blk_below K11.out HS.out) 2
                            have n3 := blk_cell (blk_below K11.out HS.out) 3
                            simp only [List.getElem?_toArray, List.getElem?_cons_zero, List.getElem?_cons_succ] at n0 n1 n2 n3
                            go_wp2_with fail
                            refine (pupillaw7_Exact.calls 3 0 0 0 A1 k1 [] 0 0 0 none 0 [] true _ (Kd.C_below C1.out.2 HS.out) C1.out.1 (hN _) (Nat.le_refl _) (exact_self 2 0 0 0 [] (by simp) (by simp))).mono ?_
                            rintro e y3 ⟨rfl, hb⟩
                            have HS := Aside0.mk (below_step HS.out hb)
                            clear hb n0 n1 n2 n3
                            have m0 := blk_cell (blk_below K13.out HS.out) 0
                            have m1 := blk_cell (blk_below K13.out HS.out) 1
                            have m2 := blk_cell (blk_below K13.out HS.out) 2
                            have m3 := blk_cell (blk_below K13.out HS.out) 3
                            simp only [List.getElem?_toArray, List.getElem?_cons_zero, List.getElem?_cons_succ] at m0 m1 m2 m3
                            go_wp2_with fail
                            refine (pupillaw7_Exact.calls 3 0 0 0 A2 k2 [] 0 0 0 none 0 [] true _ (Kd.C_below C2.out.2 HS.out) C2.out.1 (hN _) (Nat.le_refl _) (exact_self 2 0 0 0 [] (by simp) (by simp))).mono ?_
                            rintro e y4 ⟨rfl, hb⟩
                            have HS := Aside0.mk (below_step HS.out hb)
                            clear hb
                            go_wp2
                            go_ret
                            exact ⟨rfl, below_step HB4.out HS.out⟩
        · as_aux_lemma =>
            have d3 : decide ((5000 : Int) < ((fuelS ms i : Nat) : Int)) = true := decide_eq_true (by omega)
            generalize fuelS ms i = P at hfb hf d3 hig ⊢
            go_wp2
            go_ret
            exact ⟨rfl, HB.out⟩
end Go.Proofs.Ytklomikdihlcgaa
