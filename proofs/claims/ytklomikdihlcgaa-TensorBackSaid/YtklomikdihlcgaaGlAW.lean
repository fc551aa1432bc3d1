/- The walk of tensor.glue: joining matrices. -/
import Derived.Test.YtklomikdihlcgaaGlAP
namespace Go.Proofs.Ytklomikdihlcgaa
open Go.RowKit PBase
open Go.Proofs.YtklomikdihlcgaaW.PrintWords Go.Proofs.YtklomikdihlcgaaW.PrintLast Go.Proofs.YtklomikdihlcgaaW.PrintMore
set_option linter.unusedVariables false
set_option linter.unusedSimpArgs false

theorem info34s : (Try.prog.info? 34).map (fun i => (i.zero, i.size, i.bytes)) = some (some (.agg #[.int .i64 0, .int .i64 0, .int .i64 0]), 3, 24) := by kernel_rfl
abbrev zero4 : Array Value := #[.int .i64 0, .int .i64 0, .int .i64 0, .slice none 0 0]
theorem shp_E (q : Nat) (hq : q ≠ 34) : ∀ x, x ∈ (34 : Nat) :: shK.E → x ≠ q := by
  intro x hx
  have : x = 34 := List.mem_singleton.1 (show x ∈ [34] from hx)
  omega

set_option maxHeartbeats 4000000 in
set_option maxRecDepth 100000 in
theorem glue_nil (side : Bool) (A : Option Addr) (cA : Nat) (w : World) :
    Calls Try.prog 79 #[.slice A 0 cA, .bool side] w (AnsP w 1 0 0 0 []) := by
  go_enter Try.func79, Try.ntmps79
  go_wp2
  refine bodyPost_ret (v := .tuple #[.agg (row4 0 0 0 (.slice none 0 0)), .int .i64 1]) (by simp [results, Try.results79, go_sem, row4]) rfl ⟨_, rfl, Kd.R_nil _ _ _ _ _, ?_⟩
  exact below_alloc (Below.refl _ _) _

set_option maxHeartbeats 8000000 in
set_option maxRecDepth 100000 in
theorem glue_calls (side : Bool) (A : Option Addr) (cA : Nat) (ms : List Mat) (w : World) (hM : matK.C w A ms.length ms) (hcM : ms.length ≤ cA) (hl : ms.length ≤ 5001) (h0 : 0 < ms.length) (hL : ∀ m ∈ ms, m.2.2.2.length ≤ 5000) :
    Calls Try.prog 79 #[.slice A ms.length cA, .bool side] w (AnsP w (jE side ms) (jR side ms) (jC side ms) (jW side ms) (jL side ms)) := by
  have HM := Aside0.mk hM
  have HCM := Aside0.mk hcM
  have HL := Aside0.mk hl
  have HL5 := Aside0.mk hL
  have H0 := Aside0.mk h0
  have d0 : ((ms.length : Int) == 0) = false := by rw [beq_eq_false_iff_ne]; omega
  have hn0 : ¬ ms = [] := fun e => by rw [e] at h0; exact absurd h0 (by decide)
  clear hM hcM hl hL h0
  go_enter Try.func79, Try.ntmps79
  go_wp2
  skip
  have H4 := Aside0.mk (show IsB (w.alloc (.cells zero4 25)) w.heap.size zero4 25 from blk_new w (.cells zero4 25))
  have HB := Aside0.mk (below_alloc (Below.refl w.heap.size w) (.cells zero4 25))
  generalize w.alloc (.cells zero4 25) = w1 at H4 HB ⊢
  have HP := Aside0.mk (show shK.R 34 w1 w.heap.size (fun _ => True) (.slice none 0 0) ((ms.take 0).map shOf) from Kd.R_nil _ _ _ _ _)
  go_loopg [6, 18] ms.length (fun kq v6 v18 w' => ∃ i : Nat, v18 = .int .i64 i ∧ Aside0 (i + kq = ms.length) ∧ Aside0 (firstE (ms.take i) = 0) ∧ Aside0 (IsB w' w.heap.size zero4 25) ∧ Aside0 (shK.R 34 w' w.heap.size (fun _ => True) v6 ((ms.take i).map shOf)) ∧ Aside0 (Below w.heap.size w w'))
  case atStart => exact ⟨0, rfl, ⟨by omega⟩, ⟨rfl⟩, H4, HP, HB⟩
  case round =>
    clear H4 HP HB
    obtain ⟨i, rfl, HI, HE, H4, HP, HB⟩ := hrel
    by_cases hil : i < ms.length
    · as_aux_lemma =>
        have d1 : decide (i < ms.length) = true := decide_eq_true hil
        have HIL := Aside0.mk hil
        obtain ⟨ad, E, cE, hA, g0, g1, g2, g3, hle, hCE⟩ := mat_cells4 HM.out i hil
        subst hA
        have hlm := HL5.out ms[i] (List.getElem_mem hil)
        have HNE := Aside0.mk (firstE_next hil)
        have HNS := Aside0.mk (shs_next hil)
        have HAT := Aside0.mk (firstE_at hil HE.out)
        have hi1 := eq_true hil
        generalize ms[i] = m at g0 g1 g2 g3 hle hCE hlm HNE HNS HAT
        obtain ⟨mr, mc, mw, ml⟩ := m
        simp only at g0 g1 g2 g3 hle hCE hlm
        have HCE := Aside0.mk hCE
        have HLE := Aside0.mk hle
        have HLM := Aside0.mk hlm
        have g0 := (HB.out.cell (World.block_lt_of_cell? w _ g0)).trans g0
        have g1 := (HB.out.cell (World.block_lt_of_cell? w _ g1)).trans g1
        have g2 := (HB.out.cell (World.block_lt_of_cell? w _ g2)).trans g2
        have g3 := (HB.out.cell (World.block_lt_of_cell? w _ g3)).trans g3
        clear hle hCE hlm
        go_wp2_with fail
        have H8 := Aside0.mk (show IsB (wr.alloc (.cells (row4 mr mc mw (.slice E ml.length cE)) 25)) wr.heap.size (row4 mr mc mw (.slice E ml.length cE)) 25 from blk_new wr (.cells (row4 mr mc mw (.slice E ml.length cE)) 25))
        have H4 := Aside0.mk (blk_alloc H4.out (.cells (row4 mr mc mw (.slice E ml.length cE)) 25))
        have HP := Aside0.mk (Kd.R_alloc HP.out (.cells (row4 mr mc mw (.slice E ml.length cE)) 25))
        have HB := Aside0.mk (below_alloc HB.out (.cells (row4 mr mc mw (.slice E ml.length cE)) 25))
        have HGB := Aside0.mk (blk_lt H4.out)
        obtain ⟨g8, hg8⟩ : ∃ g, g = wr.heap.size := ⟨_, rfl⟩
        rw [← hg8] at H8 ⊢
        generalize wr.alloc (.cells (row4 mr mc mw (.slice E ml.length cE)) 25) = w2 at H4 H8 HP HB HGB ⊢
        clear hg8 g0 g1 g2 g3
        refine (tensor_Check.calls (ml.length + 3) mr mc mw E cE ml (checkV mr mc mw ml) w2 (Kd.C_below HCE.out HB.out) HLE.out (check_eq _ mr mc mw ml (by have := HLM.out; omega) (by omega))).mono ?_
        rintro e w3 ⟨rfl, hb⟩
        have H4 := Aside0.mk (blk_below H4.out hb)
        have H8 := Aside0.mk (blk_below H8.out hb)
        have HP := Aside0.mk (Kd.R_below HP.out hb)
        have HB := Aside0.mk (below_step HB.out hb)
        clear hb
        have a0 := blk_cell H8.out 0
        have a1 := blk_cell H8.out 1
        have a2 := blk_cell H8.out 2
        have a3 := blk_cell H8.out 3
        have z0 := blk_cell H4.out 0
        have z1 := blk_cell H4.out 1
        have z2 := blk_cell H4.out 2
        have z3_ := blk_cell H4.out 3
        have zf0 := blk_frozen H4.out 0
        have zf1 := blk_frozen H4.out 1
        have zf2 := blk_frozen H4.out 2
        have zf3 := blk_frozen H4.out 3
        simp only [List.getElem?_toArray, List.getElem?_cons_zero, List.getElem?_cons_succ] at a0 a1 a2 a3 z0 z1 z2 z3_
        have hck : ckOf (mr, mc, mw, ml) = checkV mr mc mw ml := rfl
        rw [hck] at HNE HAT
        by_cases hz : checkV mr mc mw ml = 0
        · as_aux_lemma =>
            have HE2 := Aside0.mk (show firstE (ms.take (i + 1)) = 0 by rw [HNE.out, if_pos HE.out, hz])
            clear HNE HAT
            rw [hz]
            go_wp2_with fail
            refine (tensor_Shape.calls mr mc mw E cE ml mr mc mw _ (Kd.C_below HCE.out HB.out) HLE.out rfl).mono ?_
            rintro e w4 ⟨rfl, hb⟩
            have H4 := Aside0.mk (blk_below H4.out hb)
            have HP := Aside0.mk (Kd.R_below HP.out hb)
            have HB := Aside0.mk (below_step HB.out hb)
            clear hb a0 a1 a2 a3 z0 z1 z2 z3_ zf0 zf1 zf2 zf3 H8
            have HLN : Aside0 ((((ms.take i).map shOf).length + 1) * 24 ≤ 140737488355328) := ⟨by rw [List.length_map, List.length_take]; have := HL.out; omega⟩
            go_wp2_with ((with_reducible refine gate_builtin (b := .append) (xs := #[.tmp 28, .tmp 31]) rfl ?_); at_builtin; refine Kd.R_append shK (w0 := w) w.heap.size rfl (.tmp 28) (.tmp 31) 71 34 (.agg #[.int .i64 0, .int .i64 0, .int .i64 0]) 24 rfl Try.underlying71 info34s rfl (by decide) (by omega) u6 ((ms.take i).map shOf) (mr, mc, mw) [.int .i64 mr, .int .i64 mc, .int .i64 mw] (fun _ => True) (fun _ => False) rfl rfl ?aP (fun _ hk => hk.elim) ?aF ?aO ?aB ?aS ?aL ?_; (case aP => exact ⟨[_], [_, _], rfl, rfl, [_], [_], rfl, rfl, rfl⟩); (case aB => exact HB.out); (case aF => exact (fun _ _ => trivial)); (case aO => exact HP.out); (case aS => exact below_size HB.out); (case aL => exact HLN.out); intro v9 w7 ho hb hg hat; have HP2 : Aside0 (shK.R 34 w7 w.heap.size (fun _ => True) v9 ((ms.take (i + 1)).map shOf)) := ⟨by rw [HNS.out]; exact ho⟩; have HH4 := Aside0.mk (blk_grown H4.out hg (Kd.R_ne HP.out H4.out (by decide))); have HB2 := Aside0.mk hb; clear ho hb hg hat HP H4 HB HLN)
            go_roundg (gk - 1)
            case measure => have := HI.out; have := HIL.out; omega
            case rel => exact ⟨i + 1, by first | go_num | exact next_i6 (by have := HL.out; have := HIL.out; omega), ⟨by have := HI.out; have := HIL.out; omega⟩, HE2, HH4, HP2, HB2⟩
        · as_aux_lemma =>
            have hE : jE side ms = checkV mr mc mw ml := by
              have h1 := HAT.out hz
              unfold jE
              rw [h1, if_neg hz]
            have hJ := Aside0.mk (jE_neg hE hz)
            have HJE := Aside0.mk hE
            have HZ := Aside0.mk hz
            have d2 : (checkV mr mc mw ml != 0) = true := by simpa using hz
            generalize checkV mr mc mw ml = er at HJE HZ d2 ⊢
            clear HNE HAT hz hE
            go_wp2
            refine bodyPost_ret (v := .tuple #[.agg zero4, .int .i64 er]) (by simp [results, Try.results79, go_sem, z0, z1, z2, z3_]) rfl ?_
            rw [hJ.out.1, hJ.out.2.1, hJ.out.2.2.1, hJ.out.2.2.2, HJE.out]
            exact ⟨_, rfl, Kd.R_nil _ _ _ _ _, below_set4 HB.out (by omega) _ _ _ _⟩
    · as_aux_lemma =>
        have d1 : decide (i < ms.length) = false := decide_eq_false hil
        have hin : i = ms.length := by have := HI.out; omega
        have HE := Aside0.mk (show firstE ms = 0 by have := HE.out; rwa [hin, List.take_length] at this)
        have HP := Aside0.mk (show shK.R 34 wr w.heap.size (fun _ => True) u6 (ms.map shOf) by have := HP.out; rwa [hin, List.take_length] at this)
        clear HI hin
        obtain ⟨ss, hss⟩ : ∃ ss, ss = ms.map shOf := ⟨_, rfl⟩
        have HSS := Aside0.mk hss
        have hls : ss.length = ms.length := by rw [hss]; exact List.length_map ..
        have hok := shs_ok HE.out
        have hP := HP.out
        rw [← hss] at hok hP
        obtain ⟨A9, c9, hv9, hle9, hC9⟩ := Kd.R_reads hP
        subst hv9
        have HLE9 := Aside0.mk hle9
        have HC9 := Aside0.mk hC9
        have HLS := Aside0.mk hls
        have HOK := Aside0.mk hok
        clear hle9 hC9 hls HP hP hok hss
        have HGB := Aside0.mk (blk_lt H4.out)
        go_wp2_with fail
        refine (Gluing_calls side A9 c9 ss _ HC9.out HLE9.out (by rw [HLS.out]; exact HL.out) (by rw [HLS.out]; exact H0.out) HOK.out).mono ?_
        rintro e w5 hQ
        rw [HSS.out] at hQ
        clear HOK HLS HC9 HLE9
        rcases hQ with ⟨hE5, v5, rfl, hP5, hb⟩ | ⟨hE5, v5, rfl, hP5, hb⟩
        · as_aux_lemma =>
            have hE : jE side ms = glueE side (ms.map shOf) := by unfold jE; rw [if_pos HE.out]
            have hJ := Aside0.mk (jE_neg hE hE5)
            have HJE := Aside0.mk hE
            have HZ := Aside0.mk hE5
            have H4 := Aside0.mk (blk_below H4.out hb)
            have HB := Aside0.mk (below_step HB.out hb)
            obtain ⟨A8, c8, hv8⟩ := Kd.R_slice hP5
            subst hv8
            clear hb hP5
            generalize glueE side (ms.map shOf) = er at HJE HZ ⊢
            have d2 : (er != 0) = true := by simpa using HZ.out
            clear hE hE5
            have hgb : w.heap.size < w5.heap.size := blk_lt H4.out
            have z0 := blk_cell H4.out 0
            have z1 := blk_cell H4.out 1
            have z2 := blk_cell H4.out 2
            have z3_ := blk_cell H4.out 3
            have zf0 := blk_frozen H4.out 0
            have zf1 := blk_frozen H4.out 1
            have zf2 := blk_frozen H4.out 2
            have zf3 := blk_frozen H4.out 3
            simp only [List.getElem?_toArray, List.getElem?_cons_zero, List.getElem?_cons_succ] at z0 z1 z2 z3_
            go_wp2
            have HE4 := blk_alloc (isB_set4 H4.out (.int .i64 0) (.int .i64 0) (.int .i64 0) (.slice none 0 0)) (.cells #[.int .i64 0, .int .i64 0, .int .i64 0, .slice A8 0 c8] 93)
            have e0 := blk_cell HE4 0
            have e1 := blk_cell HE4 1
            have e2 := blk_cell HE4 2
            have e3 := blk_cell HE4 3
            simp only [List.getElem?_toArray, List.getElem?_cons_zero, List.getElem?_cons_succ] at e0 e1 e2 e3
            refine bodyPost_ret (v := .tuple #[.agg zero4, .int .i64 er]) (by simp [results, Try.results79, go_sem, e0, e1, e2, e3]) rfl ?_
            rw [hJ.out.1, hJ.out.2.1, hJ.out.2.2.1, hJ.out.2.2.2, HJE.out]
            exact ⟨_, rfl, Kd.R_nil _ _ _ _ _, below_alloc (below_set4 HB.out (by omega) _ _ _ _) _⟩
        · as_aux_lemma =>
            have HQ := Aside0.mk (jE_pos HE.out hE5)
            have hin := glueP_in HE.out hE5
            have hln := glueP_len HE.out hE5
            have HIN := Aside0.mk hin
            have HLN := Aside0.mk hln
            have H4 := Aside0.mk (blk_below H4.out hb)
            have HB := Aside0.mk (below_step HB.out hb)
            have HS5 := Aside0.mk hb.size
            obtain ⟨A8, c8, hv8, hle8, hC8⟩ := Kd.R_reads hP5
            subst hv8
            have HLE8 := Aside0.mk hle8
            have HC8 := Aside0.mk hC8
            have hwd := glueW_ok HE.out H0.out
            have HWD := Aside0.mk hwd
            generalize glueW (ms.map shOf) = wd at HWD HQ ⊢
            generalize glueR side (ms.map shOf) = gr at HQ ⊢
            generalize glueC side (ms.map shOf) = gc at HQ ⊢
            generalize glueP side (ms.map shOf) = ps at HIN HLN HLE8 HC8 HQ ⊢
            clear hb hP5 hin hln hE5 hle8 hC8 hwd
            have hgb : w.heap.size < w5.heap.size := blk_lt H4.out
            go_wp2_with fail
            have H4 := Aside0.mk (blk_alloc H4.out (.cells #[.int .i64 gr, .int .i64 gc, .int .i64 wd, .slice A8 ps.length c8] 93))
            have HB5 := HB
            have HB := Aside0.mk (below_alloc HB.out (.cells #[.int .i64 gr, .int .i64 gc, .int .i64 wd, .slice A8 ps.length c8] 93))
            have HC8 := Aside0.mk (Kd.C_below HC8.out (below_alloc (Below.refl w5.heap.size w5) (.cells #[.int .i64 gr, .int .i64 gc, .int .i64 wd, .slice A8 ps.length c8] 93)))
            clear HB5
            generalize w5.alloc (.cells #[.int .i64 gr, .int .i64 gc, .int .i64 wd, .slice A8 ps.length c8] 93) = w6 at H4 HB HC8 ⊢
            refine (Moved_calls 8 gr gc wd A8 c8 ps A cA ms (cleanV wd) _ HC8.out HLE8.out (Kd.C_below HM.out HB.out) HCM.out HLN.out HIN.out (fun x => clean_at 7 x HWD.out)).mono ?_
            rintro e w7 ⟨v7, rfl, hI, hb⟩
            have H4 := Aside0.mk (blk_below H4.out hb)
            have HI7 := Aside0.mk (Kd.R_lower hI (below_size HB.out))
            have HB := Aside0.mk (below_step HB.out hb)
            obtain ⟨A7, c7, hv7⟩ := Kd.R_slice hI
            generalize hln7 : (ps.map fun p => cleanV wd (elemAt ms p)).length = ln7 at hv7
            have HLN7 := Aside0.mk hln7
            subst hv7
            clear hb hI hln7 hgb
            have z0 := blk_cell H4.out 0
            have z1 := blk_cell H4.out 1
            have z2 := blk_cell H4.out 2
            have z3_ := blk_cell H4.out 3
            have zf0 := blk_frozen H4.out 0
            have zf1 := blk_frozen H4.out 1
            have zf2 := blk_frozen H4.out 2
            have zf3 := blk_frozen H4.out 3
            simp only [List.getElem?_toArray, List.getElem?_cons_zero, List.getElem?_cons_succ] at z0 z1 z2 z3_
            go_wp2
            have HE4 := isB_set4 H4.out (.int .i64 gr) (.int .i64 gc) (.int .i64 wd) (.slice A7 ln7 c7)
            have e0 := blk_cell HE4 0
            have e1 := blk_cell HE4 1
            have e2 := blk_cell HE4 2
            have e3 := blk_cell HE4 3
            simp only [List.getElem?_toArray, List.getElem?_cons_zero, List.getElem?_cons_succ] at e0 e1 e2 e3
            refine bodyPost_ret (v := .tuple #[.agg #[.int .i64 gr, .int .i64 gc, .int .i64 wd, .slice A7 ln7 c7], .int .i64 0]) (by simp [results, Try.results79, go_sem, e0, e1, e2, e3]) rfl ?_
            rw [HQ.out.1, HQ.out.2.1, HQ.out.2.2.1, HQ.out.2.2.2.1, HQ.out.2.2.2.2]
            exact ⟨_, rfl, R_set4 HI7.out H4.out (show ∀ q, q ∈ (3 : Nat) :: (Kd.int .i64).E → q ≠ 25 from fun q hq => by have h3 : q = 3 := List.mem_singleton.1 (show q ∈ [3] from hq); omega) _ _ _ _, below_set4 HB.out (by omega) _ _ _ _⟩

theorem jE_nil (side : Bool) : jE side [] = 1 ∧ jR side [] = 0 ∧ jC side [] = 0 ∧ jW side [] = 0 ∧ jL side [] = [] := by
  have h : jE side [] = 1 := rfl
  exact ⟨h, jE_neg h (by decide)⟩
theorem glue_all (side : Bool) (A : Option Addr) (cA : Nat) (ms : List Mat) (w : World) (hM : matK.C w A ms.length ms) (hcM : ms.length ≤ cA) (hl : ms.length ≤ 5001) (hL : ∀ m ∈ ms, m.2.2.2.length ≤ 5000) :
    Calls Try.prog 79 #[.slice A ms.length cA, .bool side] w (AnsP w (jE side ms) (jR side ms) (jC side ms) (jW side ms) (jL side ms)) := by
  cases ms with
  | nil =>
    obtain ⟨h0, h1, h2, h3, h4⟩ := jE_nil side
    rw [h0, h1, h2, h3, h4]
    exact glue_nil side A cA w
  | cons m ms => exact glue_calls side A cA (m :: ms) w hM hcM hl (Nat.succ_pos _) hL

set_option maxHeartbeats 4000000 in
set_option maxRecDepth 100000 in
theorem glue_cols (A : Option Addr) (cA : Nat) (ms : List Mat) (w : World) (hM : matK.C w A ms.length ms) (hcM : ms.length ≤ cA) (hl : ms.length ≤ 5001) (hL : ∀ m ∈ ms, m.2.2.2.length ≤ 5000) :
    Calls Try.prog 43 #[.slice A ms.length cA] w (AnsP w (jE true ms) (jR true ms) (jC true ms) (jW true ms) (jL true ms)) := by
  have HM := Aside0.mk hM
  have HCM := Aside0.mk hcM
  have HL := Aside0.mk hl
  have HL5 := Aside0.mk hL
  clear hM hcM hl hL
  go_enter Try.func43, Try.ntmps43
  go_wp2_with fail
  have H4 := Aside0.mk (show IsB (w.alloc (.cells zero4 25)) w.heap.size zero4 25 from blk_new w (.cells zero4 25))
  have HB := Aside0.mk (below_alloc (Below.refl w.heap.size w) (.cells zero4 25))
  generalize w.alloc (.cells zero4 25) = w1 at H4 HB ⊢
  refine (glue_all true A cA ms w1 (Kd.C_below HM.out HB.out) HCM.out HL.out HL5.out).mono ?_
  rintro e w2 ⟨v, rfl, hI, hb⟩
  have H4 := Aside0.mk (blk_below H4.out hb)
  have HI := Aside0.mk (Kd.R_lower hI (below_size HB.out))
  have HB := Aside0.mk (below_step HB.out hb)
  obtain ⟨A7, c7, hv7⟩ := Kd.R_slice hI
  generalize (jL true ms).length = ln7 at hv7
  subst hv7
  clear hb hI
  have z0 := blk_cell H4.out 0
  have z1 := blk_cell H4.out 1
  have z2 := blk_cell H4.out 2
  have z3_ := blk_cell H4.out 3
  have zf0 := blk_frozen H4.out 0
  have zf1 := blk_frozen H4.out 1
  have zf2 := blk_frozen H4.out 2
  have zf3 := blk_frozen H4.out 3
  simp only [List.getElem?_toArray, List.getElem?_cons_zero, List.getElem?_cons_succ] at z0 z1 z2 z3_
  go_wp2
  have HE4 := isB_set4 H4.out (.int .i64 (jR true ms)) (.int .i64 (jC true ms)) (.int .i64 (jW true ms)) (.slice A7 ln7 c7)
  have e0 := blk_cell HE4 0
  have e1 := blk_cell HE4 1
  have e2 := blk_cell HE4 2
  have e3 := blk_cell HE4 3
  simp only [List.getElem?_toArray, List.getElem?_cons_zero, List.getElem?_cons_succ] at e0 e1 e2 e3
  refine bodyPost_ret (v := .tuple #[.agg #[.int .i64 (jR true ms), .int .i64 (jC true ms), .int .i64 (jW true ms), .slice A7 ln7 c7], .int .i64 (jE true ms)]) (by simp [results, Try.results43, go_sem, e0, e1, e2, e3]) rfl ?_
  exact ⟨_, rfl, R_set4 HI.out H4.out (show ∀ q, q ∈ (3 : Nat) :: (Kd.int .i64).E → q ≠ 25 from fun q hq => by have h3 : q = 3 := List.mem_singleton.1 (show q ∈ [3] from hq); omega) _ _ _ _, below_set4 HB.out (by omega) _ _ _ _⟩

set_option maxHeartbeats 4000000 in
set_option maxRecDepth 100000 in
theorem glue_rows (A : Option Addr) (cA : Nat) (ms : List Mat) (w : World) (hM : matK.C w A ms.length ms) (hcM : ms.length ≤ cA) (hl : ms.length ≤ 5001) (hL : ∀ m ∈ ms, m.2.2.2.length ≤ 5000) :
    Calls Try.prog 44 #[.slice A ms.length cA] w (AnsP w (jE false ms) (jR false ms) (jC false ms) (jW false ms) (jL false ms)) := by
  have HM := Aside0.mk hM
  have HCM := Aside0.mk hcM
  have HL := Aside0.mk hl
  have HL5 := Aside0.mk hL
  clear hM hcM hl hL
  go_enter Try.func44, Try.ntmps44
  go_wp2_with fail
  have H4 := Aside0.mk (show IsB (w.alloc (.cells zero4 25)) w.heap.size zero4 25 from blk_new w (.cells zero4 25))
  have HB := Aside0.mk (below_alloc (Below.refl w.heap.size w) (.cells zero4 25))
  generalize w.alloc (.cells zero4 25) = w1 at H4 HB ⊢
  refine (glue_all false A cA ms w1 (Kd.C_below HM.out HB.out) HCM.out HL.out HL5.out).mono ?_
  rintro e w2 ⟨v, rfl, hI, hb⟩
  have H4 := Aside0.mk (blk_below H4.out hb)
  have HI := Aside0.mk (Kd.R_lower hI (below_size HB.out))
  have HB := Aside0.mk (below_step HB.out hb)
  obtain ⟨A7, c7, hv7⟩ := Kd.R_slice hI
  generalize (jL false ms).length = ln7 at hv7
  subst hv7
  clear hb hI
  have z0 := blk_cell H4.out 0
  have z1 := blk_cell H4.out 1
  have z2 := blk_cell H4.out 2
  have z3_ := blk_cell H4.out 3
  have zf0 := blk_frozen H4.out 0
  have zf1 := blk_frozen H4.out 1
  have zf2 := blk_frozen H4.out 2
  have zf3 := blk_frozen H4.out 3
  simp only [List.getElem?_toArray, List.getElem?_cons_zero, List.getElem?_cons_succ] at z0 z1 z2 z3_
  go_wp2
  have HE4 := isB_set4 H4.out (.int .i64 (jR false ms)) (.int .i64 (jC false ms)) (.int .i64 (jW false ms)) (.slice A7 ln7 c7)
  have e0 := blk_cell HE4 0
  have e1 := blk_cell HE4 1
  have e2 := blk_cell HE4 2
  have e3 := blk_cell HE4 3
  simp only [List.getElem?_toArray, List.getElem?_cons_zero, List.getElem?_cons_succ] at e0 e1 e2 e3
  refine bodyPost_ret (v := .tuple #[.agg #[.int .i64 (jR false ms), .int .i64 (jC false ms), .int .i64 (jW false ms), .slice A7 ln7 c7], .int .i64 (jE false ms)]) (by simp [results, Try.results44, go_sem, e0, e1, e2, e3]) rfl ?_
  exact ⟨_, rfl, R_set4 HI.out H4.out (show ∀ q, q ∈ (3 : Nat) :: (Kd.int .i64).E → q ≠ 25 from fun q hq => by have h3 : q = 3 := List.mem_singleton.1 (show q ∈ [3] from hq); omega) _ _ _ _, below_set4 HB.out (by omega) _ _ _ _⟩

end Go.Proofs.Ytklomikdihlcgaa
