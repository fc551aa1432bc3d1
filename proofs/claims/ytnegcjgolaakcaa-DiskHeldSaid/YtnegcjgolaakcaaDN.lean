/- pupillaw24.alive. -/
import Derived.Test.YtnegcjgolaakcaaDC
namespace Go.Proofs.Ytnegcjgolaakcaa
open Go.RowKit Go.Maps
open Go.Proofs.YtnegcjgolaakcaaW.PrintWords Go.Proofs.YtnegcjgolaakcaaW.PrintLast Go.Proofs.YtnegcjgolaakcaaW.PrintMore
set_option linter.unusedVariables false
set_option linter.unusedSimpArgs false
/-- a literal's row: what the law has written itself -/
theorem lit_mine {w : World} {B lo : Nat} (h : lo ≤ w.heap.size) (o : Obj) (a : Addr) (e : some (⟨w.heap.size, 0, none⟩ : Addr) = some a) : ¬ Mine B lo (w.alloc o).heap.size a.block := by
  injection e with e
  subst e
  rintro ⟨_, h2⟩
  rw [World.size_alloc] at h2
  show False
  simp only at h2
  omega
theorem nil_mine {B lo hi : Nat} (a : Addr) (e : (none : Option Addr) = some a) : ¬ Mine B lo hi a.block := by cases e
set_option maxHeartbeats 4000000 in
set_option maxRecDepth 100000 in
theorem alive_calls (w : World) : Calls Try.prog 15 #[] w fun e w' => e = .returned (.bool true) ∧ Below w.heap.size w w' := by
  go_enter Try.func15, Try.ntmps15
  go_wp2_with fail
  refine (lw_new 2 10 w (by decide)).mono ?_
  rintro e w1 ⟨g, rfl, hd, hb⟩
  have H1 := Aside0.mk hd
  have HB1 := Aside0.mk hb
  clear hd hb
  have hconv := fun (W : World) => Go.Lib.run_convert_bytes_const (P := Try.prog) W 30 5 #[.int .u8 120, .int .u8 121, .int .u8 122] 3 3 Try.underlying30 Try.underlying5
  go_wp2_with fail
  have hb2 : Below w1.heap.size w1 (w1.alloc (.cells #[.int .u8 120, .int .u8 121, .int .u8 122] 5 (3, 4))) := below_alloc (Below.refl _ _) _
  refine (lw_write nA [120, 121, 122] (some ⟨w1.heap.size, 0, none⟩) 3 H1.out hb2 (by decide) (by decide) (by decide) (ints_C (l := [120, 121, 122]) (blk_new w1 (.cells #[.int .u8 120, .int .u8 121, .int .u8 122] 5 (3, 4))) (by decide)) (lit_mine (Nat.le_refl _) _)).mono ?_
  rintro e w2 ⟨rfl, hd, hf⟩
  rw [S1_eq] at hd ⊢
  have H2 := Aside0.mk hd
  have HB2 := Aside0.mk (lw_below (HB1.out.trans (hb2.mono HB1.out.size)) (Nat.le_trans HB1.out.size hb2.size) hf)
  clear hd hf hb2 hconv H1 HB1
  go_wp2_with fail
  refine (lw_flush nA H2.out (by decide)).mono ?_
  rintro e w3 ⟨rfl, hd, hf⟩
  rw [S2_eq] at hd ⊢
  have H3 := Aside0.mk hd
  have HB3 := Aside0.mk (lw_below HB2.out HB2.out.size hf)
  clear hd hf H2 HB2
  go_wp2_with fail
  refine (lw_sync H3.out).mono ?_
  rintro e w4 ⟨rfl, hd, hf⟩
  rw [S3_eq] at hd ⊢
  have H4 := Aside0.mk hd
  have HB4 := Aside0.mk (lw_below HB3.out HB3.out.size hf)
  clear hd hf H3 HB3
  go_wp2_with fail
  refine (lw_crash [] none 0 H4.out (Below.refl _ _) (fun x hx => by cases hx) ⟨rfl, by decide, fun h => absurd h (Nat.lt_irrefl 0)⟩ nil_mine).mono ?_
  rintro e w5 ⟨rfl, hd, hf⟩
  rw [S4_eq] at hd
  have H5 := Aside0.mk hd
  have HB5 := Aside0.mk (lw_below HB4.out HB4.out.size hf)
  clear hd hf H4 HB4
  go_wp2_with fail
  refine (lw_read nA H5.out (by decide)).mono ?_
  rintro e w6 ⟨vb, rfl, hR, hb⟩
  rw [S5_eq] at hR ⊢
  obtain ⟨A, c, rfl⟩ := Kd.R_slice hR
  have hstr := bytes_str hR
  have e3 : ([120, 121, 122] : List Int).length = 3 := rfl
  rw [show (([120, 121, 122], (0 : Int)) : List Int × Int).1.length = 3 from rfl] at hstr ⊢
  have e4 : strOfNums [120, 121, 122] = ⟨#[120, 121, 122]⟩ := rfl
  rw [show (([120, 121, 122], (0 : Int)) : List Int × Int).1 = [120, 121, 122] from rfl, e4] at hstr
  have H6 := Aside0.mk (H5.out.below hb)
  have HB6 := Aside0.mk (HB5.out.trans (hb.mono HB5.out.size))
  clear hR hb H5 HB5 e3 e4
  go_wp2_with fail
  refine (lw_pend H6.out).mono ?_
  rintro e w7 ⟨A7, c7, rfl, _, hb⟩
  have HB7 := Aside0.mk (HB6.out.trans (hb.mono HB6.out.size))
  clear hb hstr
  go_wp2_with fail
  go_ret
  exact ⟨rfl, HB7.out⟩
end Go.Proofs.Ytnegcjgolaakcaa

/- DiskNames, plainly. -/
namespace Go.Proofs.Ytnegcjgolaakcaa
set_option linter.unusedVariables false
set_option linter.unusedSimpArgs false
abbrev nQ : ByteArray := ⟨#[113]⟩
abbrev nP : ByteArray := ⟨#[112]⟩
abbrev nNone : ByteArray := ⟨#[110, 111, 110, 101]⟩
def SQ : DS := { files := [⟨nQ, nameless, [], []⟩], works := [⟨3, nameless, nQ, 0, 0, []⟩, ⟨1, nQ, nameless, 0, 0, []⟩], names := 3, room := 100, off := false, left := -1 }
theorem SQ_eq : (DS.new 3 100).Write nQ [] = (0, SQ) := by rfl
section
variable {s : DS} {n a b : ByteArray}
theorem bad_step {ns : List ByteArray} (h : ns.all namedV = false) (act : DS → Int × DS) : s.step ns act = (61, s) := by unfold DS.step; rw [h]; rfl
/-- power, and no fuse -/
def Live (s : DS) : Prop := s.off = false ∧ s.left = -1
theorem good_step {ns : List ByteArray} (h : ns.all namedV = true) (hl : Live s) {act : DS → Int × DS} (h1 : (act s).1 = 0) (h2 : (act s).2.left = -1) : s.step ns act = (0, (act s).2) := by
  unfold DS.step
  rw [h, hl.1, h1]
  show (0, (act s).2.tick) = _
  unfold DS.tick
  rw [if_neg (by rw [h2]; decide)]
theorem find_mem (h : n ∈ s.nmL) : ∃ i, s.find n = some i := by
  cases hf : s.find n with
  | none => rw [DS.find_L, idxL_none] at hf; exact absurd h hf
  | some i => exact ⟨i, rfl⟩
theorem put_ok (kind : Int) (b : List Int) (h1 : s.wantN n ≤ s.names) (h2 : s.wantB kind n b ≤ s.room) : (s.put kind n b).1 = 0 ∧ n ∈ (s.put kind n b).2.nmL ∧ (s.put kind n b).2.off = s.off := by
  unfold DS.put
  rw [if_neg (by omega)]
  refine ⟨rfl, ?_, ?_⟩
  · show n ∈ (((s.fresh n).setNow (s.spot n) _).add _).nmL
    show n ∈ ((s.fresh n).setNow (s.spot n) _).nmL
    rw [setNow_nm]
    unfold DS.fresh
    cases hf : s.find n with
    | none => simp [DS.nmL]
    | some i => exact List.mem_of_getElem? (idxL_some (by rw [← DS.find_L]; exact hf))
  · show (s.fresh n).off = s.off
    unfold DS.fresh
    split <;> rfl
theorem rename_ok (hl : Live s) (ha : namedV a = true) (hb : namedV b = true) (hm : a ∈ s.nmL) : (s.Rename a b).1 = 0 ∧ Live (s.Rename a b).2 ∧ b ∈ (s.Rename a b).2.nmL := by
  obtain ⟨i, hi⟩ := find_mem hm
  have e0 : s.rename a b = if a = b then (0, s) else (0, (s.give i b).add ⟨3, a, b, 0, i, []⟩) := by unfold DS.rename; rw [hi]; rfl
  have h1 : (s.rename a b).1 = 0 := by rw [e0]; split <;> rfl
  have h2 : (s.rename a b).2.left = -1 := by rw [rename_left]; exact hl.2
  have e : s.Rename a b = (0, (s.rename a b).2) := good_step (by simp [ha, hb]) hl h1 h2
  rw [e]
  refine ⟨rfl, ⟨?_, h2⟩, ?_⟩
  · rw [e0]
    split
    · exact hl.1
    · show (s.give i b).off = false
      rw [DS.give_head]; exact hl.1
  · rw [e0]
    split
    · rename_i hab; rw [← hab]; exact hm
    · show b ∈ (s.give i b).nmL
      rw [DS.give_nm]
      have hil := (List.getElem?_eq_some_iff.1 (idxL_some (by rw [← DS.find_L]; exact hi) : s.nmL[i]? = some a)).1
      refine List.mem_of_getElem? (i := i) ?_
      rw [give_get, if_pos rfl, if_pos hil]
theorem remove_ok (hl : Live s) (ha : namedV a = true) (hm : a ∈ s.nmL) : (s.Remove a).1 = 0 := by
  obtain ⟨i, hi⟩ := find_mem hm
  have e0 : s.remove a = (0, (s.setName i nameless).add ⟨4, a, nameless, 0, i, []⟩) := by unfold DS.remove; rw [hi]
  have e : s.Remove a = (0, (s.remove a).2) := good_step (by simp [ha]) hl (by rw [e0]) (by rw [remove_left]; exact hl.2)
  rw [e]
end
section
variable {n : ByteArray}
/-- a name that may be -/
theorem names_good (h : namedV n = true) : (SQ.Write n []).1 = 0 ∧ (((SQ.Write n []).2).Rename n nP).1 = 0 ∧ ((((SQ.Write n []).2).Rename n nP).2.Rename nP n).1 = 0 ∧ (((((SQ.Write n []).2).Rename n nP).2.Rename nP n).2.Remove n).1 = 0 := by
  have hp : namedV nP = true := by decide
  have h1 : SQ.wantN n ≤ SQ.names := by
    unfold DS.wantN
    have : (SQ.count : Int) = 1 := rfl
    rw [this]
    show _ ≤ (3 : Int)
    split <;> decide
  have h2 : SQ.wantB 1 n [] ≤ SQ.room := by
    unfold DS.wantB
    have : (SQ.used : Int) = 0 := rfl
    rw [this]
    show _ ≤ (100 : Int)
    split
    · split <;> simp <;> omega
    · simp
  obtain ⟨p1, p2, p3⟩ := put_ok 1 [] h1 h2
  have e : SQ.Write n [] = (0, (SQ.put 1 n []).2) := good_step (by simp [h]) ⟨rfl, rfl⟩ p1 (by rw [put_left]; rfl)
  rw [e]
  have l1 : Live (SQ.put 1 n []).2 := ⟨p3, by rw [put_left]; rfl⟩
  obtain ⟨r1, r2, r3⟩ := rename_ok l1 h hp p2
  obtain ⟨q1, q2, q3⟩ := rename_ok r2 hp h r3
  exact ⟨rfl, r1, q1, remove_ok q2 h q3⟩
/-- a name that may not be -/
theorem names_bad (h : namedV n = false) (s : DS) (a : ByteArray) (b : List Int) : s.Write n b = (61, s) ∧ s.Append n b = (61, s) ∧ s.Flush n = (61, s) ∧ s.Rename n a = (61, s) ∧ s.Rename a n = (61, s) ∧ s.Remove n = (61, s) ∧ s.read n = ([], 61) := by
  refine ⟨bad_step (by simp [h]) _, bad_step (by simp [h]) _, bad_step (by simp [h]) _, bad_step (by simp [h]) _, bad_step (by simp [h]) _, bad_step (by simp [h]) _, ?_⟩
  unfold DS.read
  rw [h]
  rfl
end
end Go.Proofs.Ytnegcjgolaakcaa

/- DiskNames: the law's walk. -/
namespace Go.Proofs.Ytnegcjgolaakcaa
open Go.RowKit Go.Maps
open Go.Proofs.YtnegcjgolaakcaaW.PrintWords Go.Proofs.YtnegcjgolaakcaaW.PrintLast Go.Proofs.YtnegcjgolaakcaaW.PrintMore
set_option linter.unusedVariables false
set_option linter.unusedSimpArgs false
theorem next_i7 {i : Nat} (h : (i : Int) + 1 ≤ 9223372036854775807) : Value.int .i64 (wrap64 ((i : Int) + 1)) = .int .i64 ((i + 1 : Nat) : Int) := by
  rw [IntWalk.wrap64_in _ (by omega)]
  rfl
theorem nil_C (w : World) : bK.C w none ([] : List Int).length [] := ⟨rfl, by decide, fun h => absurd h (Nat.lt_irrefl 0)⟩
set_option maxHeartbeats 4000000 in
set_option maxRecDepth 100000 in
theorem names_walk (n : ByteArray) (hs : n.size ≤ maxLen) (w : World) : Calls Try.prog 3 #[.string n] w fun e w' => e = .returned (.bool true) ∧ Below w.heap.size w w' := by
  have HS := Aside0.mk hs
  clear hs
  go_enter Try.func3, Try.ntmps3
  go_upto_region 1 with fail
  go_cut [3] (fun v3 wc => v3 = .bool (decide (1 ≤ n.size) && decide (n.size ≤ 32)) ∧ wc = w)
  case first =>
    by_cases h1 : 1 ≤ n.size
    · have d1 : decide (1 ≤ (n.size : Int)) = true := decide_eq_true (by omega)
      have d1' : decide (1 ≤ n.size) = true := decide_eq_true h1
      by_cases h2 : n.size ≤ 32
      · have d2 : decide ((n.size : Int) ≤ 32) = true := decide_eq_true (by omega)
        have d2' : decide (n.size ≤ 32) = true := decide_eq_true h2
        clear h1 h2
        go_wp2_with fail
        go_meet
        exact ⟨by rw [d1', d2']; rfl, rfl⟩
      · have d2 : decide ((n.size : Int) ≤ 32) = false := decide_eq_false (by omega)
        have d2' : decide (n.size ≤ 32) = false := decide_eq_false h2
        clear h1 h2
        go_wp2_with fail
        go_meet
        exact ⟨by rw [d1', d2']; rfl, rfl⟩
    · have d1 : decide (1 ≤ (n.size : Int)) = false := decide_eq_false (by omega)
      have d1' : decide (1 ≤ n.size) = false := decide_eq_false h1
      clear h1
      go_wp2_with fail
      go_meet
      exact ⟨by rw [d1']; rfl, rfl⟩
  case rest =>
    obtain ⟨rfl, hwc⟩ := hcut
    have hw0 := hwc.symm
    subst hw0
    clear hwc
    go_wp2_with fail
    go_loopg [3, 4] n.size (fun kq v3 v4 w' => ∃ i : Nat, v4 = .int .i64 i ∧ v3 = .bool ((decide (1 ≤ n.size) && decide (n.size ≤ 32)) && (n.data.toList.take i).all goodB) ∧ Aside0 (i + kq = n.size) ∧ w' = w)
    case atStart => exact ⟨0, rfl, by simp, ⟨by omega⟩, rfl⟩
    case round =>
      obtain ⟨i, rfl, rfl, HI, hw⟩ := hrel
      have hw' := hw.symm
      subst hw'
      by_cases hlt : i < n.size
      · have d6 : decide ((i : Int) < (n.size : Int)) = true := decide_eq_true (by omega)
        have d7 : decide (i < n.size) = true := decide_eq_true hlt
        have HAT := Aside0.mk (all_take n i hlt)
        have HX := Aside0.mk (good_eq (n[i]'hlt))
        have HLT := Aside0.mk hlt
        go_upto_region 6 with fail
        generalize ((n[i]'hlt).toNat : Int) = x at *
        generalize goodB (n[i]'hlt) = gb at *
        clear hlt hw
        go_cut [55] (fun v55 wc => v55 = .bool (!gb) ∧ wc = w)
        case first =>
          by_cases h1 : 97 ≤ x
          · have f1 : decide (97 ≤ x) = true := decide_eq_true h1
            by_cases h2 : x ≤ 122
            · have f2 : decide (x ≤ 122) = true := decide_eq_true h2
              clear h1 h2
              go_wp2_with fail
              go_meet
              exact ⟨by rw [← HX.out]; unfold goodR; simp only [f1, f2]; rfl, rfl⟩
            · have f2 : decide (x ≤ 122) = false := decide_eq_false h2
              by_cases h3 : 48 ≤ x
              · have f3 : decide (48 ≤ x) = true := decide_eq_true h3
                by_cases h4 : x ≤ 57
                · have f4 : decide (x ≤ 57) = true := decide_eq_true h4
                  clear h1 h2 h3 h4
                  go_wp2_with fail
                  go_meet
                  exact ⟨by rw [← HX.out]; unfold goodR; simp only [f1, f2, f3, f4]; rfl, rfl⟩
                · have f4 : decide (x ≤ 57) = false := decide_eq_false h4
                  by_cases h5 : x = 45
                  · have f5 : (x == 45) = true := by simpa using h5
                    clear h1 h2 h3 h4 h5
                    go_wp2_with fail
                    go_meet
                    exact ⟨by rw [← HX.out]; unfold goodR; simp only [f1, f2, f3, f4, f5]; rfl, rfl⟩
                  · have f5 : (x == 45) = false := by simpa using h5
                    by_cases h6 : x = 46
                    · have f6 : (x == 46) = true := by simpa using h6
                      clear h1 h2 h3 h4 h5 h6
                      go_wp2_with fail
                      go_meet
                      exact ⟨by rw [← HX.out]; unfold goodR; simp only [f1, f2, f3, f4, f5, f6]; rfl, rfl⟩
                    · have f6 : (x == 46) = false := by simpa using h6
                      by_cases h7 : x = 95
                      · have f7 : (x == 95) = true := by simpa using h7
                        clear h1 h2 h3 h4 h5 h6 h7
                        go_wp2_with fail
                        go_meet
                        exact ⟨by rw [← HX.out]; unfold goodR; simp only [f1, f2, f3, f4, f5, f6, f7]; rfl, rfl⟩
                      · have f7 : (x == 95) = false := by simpa using h7
                        clear h1 h2 h3 h4 h5 h6 h7
                        go_wp2_with fail
                        go_meet
                        exact ⟨by rw [← HX.out]; unfold goodR; simp only [f1, f2, f3, f4, f5, f6, f7]; rfl, rfl⟩
              · have f3 : decide (48 ≤ x) = false := decide_eq_false h3
                by_cases h5 : x = 45
                · have f5 : (x == 45) = true := by simpa using h5
                  clear h1 h2 h3 h5
                  go_wp2_with fail
                  go_meet
                  exact ⟨by rw [← HX.out]; unfold goodR; simp only [f1, f2, f3, f5]; rfl, rfl⟩
                · have f5 : (x == 45) = false := by simpa using h5
                  by_cases h6 : x = 46
                  · have f6 : (x == 46) = true := by simpa using h6
                    clear h1 h2 h3 h5 h6
                    go_wp2_with fail
                    go_meet
                    exact ⟨by rw [← HX.out]; unfold goodR; simp only [f1, f2, f3, f5, f6]; rfl, rfl⟩
                  · have f6 : (x == 46) = false := by simpa using h6
                    by_cases h7 : x = 95
                    · have f7 : (x == 95) = true := by simpa using h7
                      clear h1 h2 h3 h5 h6 h7
                      go_wp2_with fail
                      go_meet
                      exact ⟨by rw [← HX.out]; unfold goodR; simp only [f1, f2, f3, f5, f6, f7]; rfl, rfl⟩
                    · have f7 : (x == 95) = false := by simpa using h7
                      clear h1 h2 h3 h5 h6 h7
                      go_wp2_with fail
                      go_meet
                      exact ⟨by rw [← HX.out]; unfold goodR; simp only [f1, f2, f3, f5, f6, f7]; rfl, rfl⟩
          · have f1 : decide (97 ≤ x) = false := decide_eq_false h1
            by_cases h3 : 48 ≤ x
            · have f3 : decide (48 ≤ x) = true := decide_eq_true h3
              by_cases h4 : x ≤ 57
              · have f4 : decide (x ≤ 57) = true := decide_eq_true h4
                clear h1 h3 h4
                go_wp2_with fail
                go_meet
                exact ⟨by rw [← HX.out]; unfold goodR; simp only [f1, f3, f4]; rfl, rfl⟩
              · have f4 : decide (x ≤ 57) = false := decide_eq_false h4
                by_cases h5 : x = 45
                · have f5 : (x == 45) = true := by simpa using h5
                  clear h1 h3 h4 h5
                  go_wp2_with fail
                  go_meet
                  exact ⟨by rw [← HX.out]; unfold goodR; simp only [f1, f3, f4, f5]; rfl, rfl⟩
                · have f5 : (x == 45) = false := by simpa using h5
                  by_cases h6 : x = 46
                  · have f6 : (x == 46) = true := by simpa using h6
                    clear h1 h3 h4 h5 h6
                    go_wp2_with fail
                    go_meet
                    exact ⟨by rw [← HX.out]; unfold goodR; simp only [f1, f3, f4, f5, f6]; rfl, rfl⟩
                  · have f6 : (x == 46) = false := by simpa using h6
                    by_cases h7 : x = 95
                    · have f7 : (x == 95) = true := by simpa using h7
                      clear h1 h3 h4 h5 h6 h7
                      go_wp2_with fail
                      go_meet
                      exact ⟨by rw [← HX.out]; unfold goodR; simp only [f1, f3, f4, f5, f6, f7]; rfl, rfl⟩
                    · have f7 : (x == 95) = false := by simpa using h7
                      clear h1 h3 h4 h5 h6 h7
                      go_wp2_with fail
                      go_meet
                      exact ⟨by rw [← HX.out]; unfold goodR; simp only [f1, f3, f4, f5, f6, f7]; rfl, rfl⟩
            · have f3 : decide (48 ≤ x) = false := decide_eq_false h3
              by_cases h5 : x = 45
              · have f5 : (x == 45) = true := by simpa using h5
                clear h1 h3 h5
                go_wp2_with fail
                go_meet
                exact ⟨by rw [← HX.out]; unfold goodR; simp only [f1, f3, f5]; rfl, rfl⟩
              · have f5 : (x == 45) = false := by simpa using h5
                by_cases h6 : x = 46
                · have f6 : (x == 46) = true := by simpa using h6
                  clear h1 h3 h5 h6
                  go_wp2_with fail
                  go_meet
                  exact ⟨by rw [← HX.out]; unfold goodR; simp only [f1, f3, f5, f6]; rfl, rfl⟩
                · have f6 : (x == 46) = false := by simpa using h6
                  by_cases h7 : x = 95
                  · have f7 : (x == 95) = true := by simpa using h7
                    clear h1 h3 h5 h6 h7
                    go_wp2_with fail
                    go_meet
                    exact ⟨by rw [← HX.out]; unfold goodR; simp only [f1, f3, f5, f6, f7]; rfl, rfl⟩
                  · have f7 : (x == 95) = false := by simpa using h7
                    clear h1 h3 h5 h6 h7
                    go_wp2_with fail
                    go_meet
                    exact ⟨by rw [← HX.out]; unfold goodR; simp only [f1, f3, f5, f6, f7]; rfl, rfl⟩
        case rest =>
          obtain ⟨rfl, hwc⟩ := hcut
          have hw0 := hwc.symm
          subst hw0
          clear hwc
          cases gb with
          | false =>
            go_wp2_with fail
            go_roundg (gk - 1)
            case measure => have := HI.out; have := HLT.out; omega
            case rel => exact ⟨i + 1, next_i7 (by have := HLT.out; have h2 : n.size ≤ 9223372036854775807 := HS.out; omega), by rw [HAT.out]; simp, ⟨by have := HI.out; have := HLT.out; omega⟩, rfl⟩
          | true =>
            go_wp2_with fail
            go_roundg (gk - 1)
            case measure => have := HI.out; have := HLT.out; omega
            case rel => exact ⟨i + 1, next_i7 (by have := HLT.out; have h2 : n.size ≤ 9223372036854775807 := HS.out; omega), by rw [HAT.out]; simp, ⟨by have := HI.out; have := HLT.out; omega⟩, rfl⟩
      · have d6 : decide ((i : Int) < (n.size : Int)) = false := decide_eq_false (by omega)
        have d7 : decide (i < n.size) = false := decide_eq_false hlt
        have hA : ((decide (1 ≤ n.size) && decide (n.size ≤ 32)) && (n.data.toList.take i).all goodB) = namedV n := by
          have hl : n.data.toList.length ≤ i := by have h1 := size_data n; rw [ByteArray.toList_eq] at h1; omega
          rw [List.take_of_length_le hl]
          unfold namedV
          rw [Bool.and_comm]
        rw [hA]
        clear hA hlt hw HI
        go_wp2_with fail
        refine (lw_new 3 100 w (by decide)).mono ?_
        rintro e w1 ⟨g, rfl, hd, hb⟩
        have H1 := Aside0.mk hd
        have HB1 := Aside0.mk hb
        clear hd hb
        go_wp2_with fail
        refine (lw_write nQ [] none 0 H1.out (Below.refl _ _) (by decide) (by decide) (by decide) (nil_C _) nil_mine).mono ?_
        rintro e w2 ⟨rfl, hd, hf⟩
        rw [SQ_eq] at hd ⊢
        have H2 := Aside0.mk hd
        have HB2 := Aside0.mk (lw_below HB1.out HB1.out.size hf)
        clear hd hf H1 HB1
        go_wp2_with fail
        refine (lw_write n [] none 0 H2.out (Below.refl _ _) (by decide) HS.out (by decide) (nil_C _) nil_mine).mono ?_
        rintro e w3 ⟨rfl, hd, hf⟩
        have H3 := Aside0.mk hd
        have HB3 := Aside0.mk (lw_below HB2.out HB2.out.size hf)
        clear hd hf H2 HB2 d6 d7
        cases hnm : namedV n with
        | true =>
          obtain ⟨e1, e2, e3, e4⟩ := names_good hnm
          clear hnm
          have E2 := Aside0.mk e2
          have E3 := Aside0.mk e3
          have E4 := Aside0.mk e4
          rw [e1]
          clear e1 e2 e3 e4
          generalize (SQ.Write n []).2 = t3 at *
          go_wp2_with fail
          refine (lw_rename n nP H3.out (by decide) HS.out (by decide)).mono ?_
          rintro e w4 ⟨rfl, hd, hf⟩
          rw [E2.out]
          have H4 := Aside0.mk hd
          have HB4 := Aside0.mk (lw_below HB3.out HB3.out.size hf)
          clear hd hf H3 HB3 E2
          generalize (t3.Rename n nP).2 = t4 at *
          go_wp2_with fail
          refine (lw_rename nP n H4.out (by decide) (by decide) HS.out).mono ?_
          rintro e w5 ⟨rfl, hd, hf⟩
          rw [E3.out]
          have H5 := Aside0.mk hd
          have HB5 := Aside0.mk (lw_below HB4.out HB4.out.size hf)
          clear hd hf H4 HB4 E3
          generalize (t4.Rename nP n).2 = t5 at *
          go_wp2_with fail
          refine (lw_remove n H5.out (by decide) HS.out).mono ?_
          rintro e w6 ⟨rfl, hd, hf⟩
          rw [E4.out]
          have HB6 := Aside0.mk (lw_below HB5.out HB5.out.size hf)
          clear hd hf H5 HB5 E4
          go_wp2_with fail
          refine (alive_calls w6).mono ?_
          rintro e w7 ⟨rfl, hb⟩
          have HB7 := Aside0.mk (HB6.out.trans (hb.mono HB6.out.size))
          clear hb
          go_wp2_with fail
          go_ret
          exact ⟨rfl, HB7.out⟩
        | false =>
          have hbad := names_bad hnm
          have HBD := Aside0.mk hbad
          clear hbad hnm
          rw [(HBD.out SQ nP []).1] at H3 ⊢
          go_wp2_with fail
          refine (lw_read n H3.out HS.out).mono ?_
          rintro e w4 ⟨vb, rfl, hR, hb⟩
          rw [(HBD.out SQ nP []).2.2.2.2.2.2] at hR ⊢
          obtain ⟨A4, c4, rfl⟩ := Kd.R_slice hR
          have H4 := Aside0.mk (H3.out.below hb)
          have HB4 := Aside0.mk (HB3.out.trans (hb.mono HB3.out.size))
          clear hR hb H3 HB3
          go_wp2_with fail
          refine (lw_append n [] none 0 H4.out (Below.refl _ _) (by decide) HS.out (by decide) (nil_C _) nil_mine).mono ?_
          rintro e w5 ⟨rfl, hd, hf⟩
          rw [(HBD.out SQ nP []).2.1] at hd ⊢
          have H5 := Aside0.mk hd
          have HB5 := Aside0.mk (lw_below HB4.out HB4.out.size hf)
          clear hd hf H4 HB4
          go_wp2_with fail
          refine (lw_flush n H5.out HS.out).mono ?_
          rintro e w6 ⟨rfl, hd, hf⟩
          rw [(HBD.out SQ nP []).2.2.1] at hd ⊢
          have H6 := Aside0.mk hd
          have HB6 := Aside0.mk (lw_below HB5.out HB5.out.size hf)
          clear hd hf H5 HB5
          go_wp2_with fail
          refine (lw_rename n nP H6.out (by decide) HS.out (by decide)).mono ?_
          rintro e w7 ⟨rfl, hd, hf⟩
          rw [(HBD.out SQ nP []).2.2.2.1] at hd ⊢
          have H7 := Aside0.mk hd
          have HB7 := Aside0.mk (lw_below HB6.out HB6.out.size hf)
          clear hd hf H6 HB6
          go_wp2_with fail
          refine (lw_rename nQ n H7.out (by decide) (by decide) HS.out).mono ?_
          rintro e w8 ⟨rfl, hd, hf⟩
          rw [(HBD.out SQ nQ []).2.2.2.2.1] at hd ⊢
          have H8 := Aside0.mk hd
          have HB8 := Aside0.mk (lw_below HB7.out HB7.out.size hf)
          clear hd hf H7 HB7
          go_wp2_with fail
          refine (lw_rename nNone n H8.out (by decide) (by decide) HS.out).mono ?_
          rintro e w9 ⟨rfl, hd, hf⟩
          rw [(HBD.out SQ nNone []).2.2.2.2.1] at hd ⊢
          have H9 := Aside0.mk hd
          have HB9 := Aside0.mk (lw_below HB8.out HB8.out.size hf)
          clear hd hf H8 HB8
          go_wp2_with fail
          refine (lw_remove n H9.out (by decide) HS.out).mono ?_
          rintro e wa ⟨rfl, hd, hf⟩
          rw [(HBD.out SQ nNone []).2.2.2.2.2.1] at hd ⊢
          have Ha := Aside0.mk hd
          have HBa := Aside0.mk (lw_below HB9.out HB9.out.size hf)
          clear hd hf H9 HB9
          go_wp2_with fail
          refine (lw_fuse 0 Ha.out (by decide)).mono ?_
          rintro e wb ⟨rfl, hd, hf⟩
          have Hb := Aside0.mk hd
          have HBb := Aside0.mk (lw_below HBa.out HBa.out.size hf)
          clear hd hf Ha HBa
          generalize (SQ.fuse 0).2 = tb at *
          go_wp2_with fail
          refine (lw_write n [] none 0 Hb.out (Below.refl _ _) (by decide) HS.out (by decide) (nil_C _) nil_mine).mono ?_
          rintro e wc ⟨rfl, hd, hf⟩
          rw [(HBD.out tb nNone []).1] at hd ⊢
          have Hc := Aside0.mk hd
          have HBc := Aside0.mk (lw_below HBb.out HBb.out.size hf)
          clear hd hf Hb HBb
          go_wp2_with fail
          refine (lw_rename nNone n Hc.out (by decide) (by decide) HS.out).mono ?_
          rintro e wd ⟨rfl, hd, hf⟩
          rw [(HBD.out tb nNone []).2.2.2.2.1] at hd ⊢
          have HBd := Aside0.mk (lw_below HBc.out HBc.out.size hf)
          clear hd hf Hc HBc
          go_wp2_with fail
          refine (alive_calls wd).mono ?_
          rintro e we ⟨rfl, hb⟩
          have HBe := Aside0.mk (HBd.out.trans (hb.mono HBd.out.size))
          clear hb
          go_wp2_with fail
          go_ret
          exact ⟨rfl, HBe.out⟩
end Go.Proofs.Ytnegcjgolaakcaa
