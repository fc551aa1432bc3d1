/- The laws RngOrders and RngAll, walked: true, whatever is asked. -/
import Derived.Test.YtpobladocccnmaaOrdX
import Derived.Test.YtpobladocccnmaaDrawsW
import Derived.Test.YtpobladocccnmaaWordsW
import Derived.Test.YtpobladocccnmaaOpens
import Derived.Outline
namespace Go.Proofs.Ytpobladocccnmaa
open Go.RowKit Mix PBase
open Go.Proofs.YtpobladocccnmaaW.PrintWords Go.Proofs.YtpobladocccnmaaW.PrintLast Go.Proofs.YtpobladocccnmaaW.PrintMore
set_option linter.unusedVariables false
set_option linter.unusedSimpArgs false

theorem OrdQ.more {base : Nat} {w0 w w' : World} {g B B2 : Nat} {e : Ending} (h : OrdQ base w0 w g B e w') (hb : B ≤ B2) : OrdQ base w0 w g B2 e w' := ⟨h.1, h.2.1.more hb, h.2.2⟩

theorem orders_calls (base : Nat) (w0 w : World) (g B : Nat) (s t a n m : Int) (hK : KeepX base w g B) (hB3 : B < 298) (hB : Below base w0 w) (hbs : base ≤ w.heap.size) :
    Calls Try.prog 23 #[.pointer (some ⟨g, 0, none⟩), .agg #[.int .i64 s, .int .i64 t, .int .i64 a], .int .i64 n, .int .i64 m] w (OrdQ base w0 w g (B + 2)) := by
  by_cases h1 : n < 0
  · exact (orders_bad base w0 w g B s t a n m 1 1 hK hB hbs (.inl ⟨h1, rfl, rfl⟩)).mono fun e w' h => h.more (by omega)
  · by_cases h2 : 65536 < n
    · by_cases h3 : m < 0 ∨ n < m
      · exact (orders_bad base w0 w g B s t a n m 2 1 hK hB hbs (.inr ⟨h2, rfl, .inl ⟨h3, rfl⟩⟩)).mono fun e w' h => h.more (by omega)
      · exact (orders_bad base w0 w g B s t a n m 2 2 hK hB hbs (.inr ⟨h2, rfl, .inr ⟨by omega, rfl⟩⟩)).mono fun e w' h => h.more (by omega)
    · obtain ⟨n', rfl⟩ := Int.eq_ofNat_of_zero_le (show 0 ≤ n by omega)
      by_cases h3 : m < 0
      · exact orders_half0 base w0 w g B n' s t a m hK hB3 hB hbs (by omega) h3
      · by_cases h4 : (n' : Int) < m
        · exact orders_half1 base w0 w g B n' s t a m hK hB3 hB hbs (by omega) ⟨by omega, h4⟩
        · obtain ⟨m', rfl⟩ := Int.eq_ofNat_of_zero_le (show 0 ≤ m by omega)
          exact orders_good base w0 w g B n' m' s t a hK hB3 hB hbs (by omega) (by omega)

theorem keepX_new1 (w : World) (o : Obj) : KeepX w.heap.size ((w.alloc o).alloc (.cells #[.slice none 0 0, .slice none 0 0] 43)) (w.heap.size + 1) 0 := by
  have h := keepX_new w.heap.size (w.alloc o) (by simp)
  simpa using h

set_option maxHeartbeats 1000000 in
set_option maxRecDepth 100000 in
theorem RngOrders_calls (s t a n m : Int) (w : World) :
    Calls Try.prog 9 #[.agg #[.int .i64 s, .int .i64 t, .int .i64 a], .int .i64 n, .int .i64 m] w fun e w' => e = .returned (.bool true) ∧ Below w.heap.size w w' := by
  go_enter Try.func9, Try.ntmps9
  go_wp2_with fail
  refine (alive_calls _).mono ?_
  rintro e w1 ⟨rfl, hb⟩
  have G1 := Aside0.mk (((IsS23.new w w s t a (Below.refl _ _)).alloc (.cells #[.slice none 0 0, .slice none 0 0] 43)).below hb)
  have HK := Aside0.mk ((keepX_new1 w (.cells #[.int .i64 s, .int .i64 t, .int .i64 a] 23)).below hb)
  have HB := Aside0.mk (below_step (((Below.refl _ _).alloc (Nat.le_refl _) _).alloc (by simp) _) hb)
  clear hb
  obtain ⟨hI0, _⟩ := G1.out
  have c0 := cellS23_0 hI0
  have c1 := cellS23_1 hI0
  have c2 := cellS23_2 hI0
  clear hI0
  go_wp2_with fail
  refine (orders_calls w.heap.size w _ (w.heap.size + 1) 0 s t a n m HK.out (by decide) HB.out HB.out.size).mono ?_
  rintro e w2 ⟨rfl, hK, hT, hB⟩
  go_wp2_with fail
  refine (ApartX_calls w.heap.size w w2 (w.heap.size + 1) 2 hK (by decide) hB hB.size).mono ?_
  rintro e w3 ⟨rfl, hB3⟩
  go_wp2
  go_ret
  exact ⟨rfl, hB3⟩

/-- a question: kind, n, m, a draw -/
abbrev AskT := Int × Int × Int × Int × Int × Int
abbrev askK : Kd AskT := Kd.pair (Kd.int .i64) (Kd.pair (Kd.int .i64) (Kd.pair (Kd.int .i64) (Kd.pair (Kd.int .i64) (Kd.pair (Kd.int .i64) (Kd.int .i64)))))

theorem add_more (ad : Addr) (n k : Nat) : ad.add (n + (k + 1)) = ⟨(ad.add n).block, (ad.add n).off + (k + 1), none⟩ := by
  unfold Addr.add
  by_cases h : n = 0
  · subst h; simp
  · simp [h]; omega

theorem ask_cells {w : World} {A : Option Addr} {l : List AskT} (hC : askK.C w A l.length l) (i : Nat) (hi : i < l.length) :
    ∃ ad, A = some ad ∧ w.cell? (ad.add (i * 6)) = some (.int .i64 (l[i]).1) ∧ w.cell? ⟨(ad.add (i * 6)).block, (ad.add (i * 6)).off + 1, none⟩ = some (.int .i64 (l[i]).2.1) ∧ w.cell? ⟨(ad.add (i * 6)).block, (ad.add (i * 6)).off + 2, none⟩ = some (.int .i64 (l[i]).2.2.1)
      ∧ w.cell? ⟨(ad.add (i * 6)).block, (ad.add (i * 6)).off + 3, none⟩ = some (.int .i64 (l[i]).2.2.2.1) ∧ w.cell? ⟨(ad.add (i * 6)).block, (ad.add (i * 6)).off + 4, none⟩ = some (.int .i64 (l[i]).2.2.2.2.1) ∧ w.cell? ⟨(ad.add (i * 6)).block, (ad.add (i * 6)).off + 5, none⟩ = some (.int .i64 (l[i]).2.2.2.2.2) := by
  obtain ⟨ad, c, h1, h2, h3, h4⟩ := Kd.C_get hC (0, 0, 0, 0, 0, 0) (i : Int) (by omega) (by omega)
  have hpe : l.getD i (0, 0, 0, 0, 0, 0) = l[i] := by simp [List.getD_eq_getElem?_getD, hi]
  rw [Int.toNat_natCast, hpe] at h3
  obtain ⟨c0, d0, rfl, e0, c1, d1, rfl, e1, c2, d2, rfl, e2, c3, d3, rfl, e3, c4, c5, rfl, e4, e5⟩ := h3
  have e0' : c0 = [.int .i64 _] := e0
  have e1' : c1 = [.int .i64 _] := e1
  have e2' : c2 = [.int .i64 _] := e2
  have e3' : c3 = [.int .i64 _] := e3
  have e4' : c4 = [.int .i64 _] := e4
  have e5' : c5 = [.int .i64 _] := e5
  subst e0' e1' e2' e3' e4' e5'
  have hsz : askK.sz = 6 := rfl
  rw [Int.toNat_natCast, hsz] at h4
  refine ⟨ad, h1, h4 0 _ rfl, ?_, ?_, ?_, ?_, ?_⟩
  · rw [← add_more]; exact h4 1 _ rfl
  · rw [← add_more]; exact h4 2 _ rfl
  · rw [← add_more]; exact h4 3 _ rfl
  · rw [← add_more]; exact h4 4 _ rfl
  · rw [← add_more]; exact h4 5 _ rfl

def wfI (x : Int) : Prop := (Lit.int .i64 x).wf = true
theorem wfI.range {x : Int} (h : wfI x) : -9223372036854775808 ≤ x ∧ x ≤ 9223372036854775807 := by
  unfold wfI at h
  simp only [Lit.wf, Bool.and_eq_true, decide_eq_true_eq] at h
  exact h

theorem drawOpens (W : World) : Opens Try.prog W 23 (Kd.pair (Kd.int .i64) (Kd.pair (Kd.int .i64) (Kd.int .i64))) (fun x => wfI x.1 ∧ wfI x.2.1 ∧ wfI x.2.2) :=
  Opens.struct3 Try.underlying23 (by kernel_rfl) rfl rfl rfl (by kernel_rfl) (by kernel_rfl) (by kernel_rfl) (Opens.int Try.underlying3) (Opens.int Try.underlying3) (Opens.int Try.underlying3)

theorem askOpens (W : World) : Opens Try.prog W 51 askK (fun x => wfI x.1 ∧ wfI x.2.1 ∧ wfI x.2.2.1 ∧ wfI x.2.2.2.1 ∧ wfI x.2.2.2.2.1 ∧ wfI x.2.2.2.2.2) :=
  Opens.struct4 Try.underlying51 (by kernel_rfl) rfl rfl rfl rfl (by kernel_rfl) (by kernel_rfl) (by kernel_rfl) (by kernel_rfl) (Opens.int Try.underlying3) (Opens.int Try.underlying3) (Opens.int Try.underlying3) (drawOpens W)

theorem asksOpens (W : World) : Opens Try.prog W 49 (Kd.slice 51 askK) (fun l => l.length ≤ 9223372036854775807 ∧ ∀ x ∈ l, wfI x.1 ∧ wfI x.2.1 ∧ wfI x.2.2.1 ∧ wfI x.2.2.2.1 ∧ wfI x.2.2.2.2.1 ∧ wfI x.2.2.2.2.2) :=
  Opens.slice Try.underlying49 (by kernel_rfl) (askOpens W)

set_option maxHeartbeats 1000000 in
set_option maxRecDepth 100000 in
theorem RngAll_calls (A : Option Addr) (c : Nat) (l : List AskT) (w : World) (hC : askK.C w A l.length l) (hc : l.length ≤ c) (hr : ∀ x ∈ l, -9223372036854775808 ≤ x.2.1 ∧ x.2.1 ≤ 9223372036854775807) :
    Calls Try.prog 11 #[.slice A l.length c] w fun e w' => e = .returned (.bool true) ∧ Below w.heap.size w w' := by
  have hml : l.length ≤ 9223372036854775807 := hC.2.1
  have HC := Aside0.mk hC
  have HR := Aside0.mk hr
  clear hC hr
  go_enter Try.func11, Try.ntmps11
  go_wp2
  have HK0 := Aside0.mk (keepX_new w.heap.size w (Nat.le_refl _))
  have HB0 := Aside0.mk ((Below.refl w.heap.size w).alloc (Nat.le_refl _) (.cells #[.slice none 0 0, .slice none 0 0] 43))
  go_loopg [4] 41 (fun kq v4 w' => ∃ i : Nat, v4 = .int .i64 i ∧ Aside0 (i + kq = 41) ∧ Aside0 (i ≤ l.length) ∧ Aside0 (i ≤ 40) ∧ Aside0 (KeepX w.heap.size w' w.heap.size (4 * i)) ∧ Aside0 (Below w.heap.size w w'))
  case atStart => exact ⟨0, rfl, ⟨by omega⟩, ⟨by omega⟩, ⟨by omega⟩, HK0, HB0⟩
  case round =>
    clear HK0 HB0
    obtain ⟨i, rfl, HI, HL, H40, HK, HB⟩ := hrel
    by_cases hgo : i < l.length ∧ i < 40
    · obtain ⟨hlt, h40⟩ := hgo
      have d1 : decide (i < l.length) = true := decide_eq_true hlt
      have d2 : decide ((i : Int) < 40) = true := decide_eq_true (by omega)
      obtain ⟨ad, hA, g0, g1, g2, g3, g4, g5⟩ := ask_cells HC.out i hlt
      have hrx := HR.out l[i] (List.getElem_mem hlt)
      obtain ⟨⟨x0, x1, x2, x3, x4, x5⟩, hx⟩ : ∃ x, x = l[i] := ⟨_, rfl⟩
      rw [← hx] at g0 g1 g2 g3 g4 g5 hrx
      have HRX := Aside0.mk hrx
      replace g0 := (HB.out.cell (World.block_lt_of_cell? w _ g0)).trans g0
      replace g1 := (HB.out.cell (World.block_lt_of_cell? w _ g1)).trans g1
      replace g2 := (HB.out.cell (World.block_lt_of_cell? w _ g2)).trans g2
      replace g3 := (HB.out.cell (World.block_lt_of_cell? w _ g3)).trans g3
      replace g4 := (HB.out.cell (World.block_lt_of_cell? w _ g4)).trans g4
      replace g5 := (HB.out.cell (World.block_lt_of_cell? w _ g5)).trans g5
      simp only at g0 g1 g2 g3 g4 g5
      subst hA
      clear hx hrx
      have HT : Aside0 (TyKeep wr wr) := ⟨fun _ _ _ _ _ _ => rfl⟩
      have HK4 := Aside0.mk (HK.out.below (below_alloc (Below.refl _ _) (.cells #[.int .i64 x0, .int .i64 x1, .int .i64 x2, .int .i64 x3, .int .i64 x4, .int .i64 x5] 51)))
      have HB4 := Aside0.mk (below_alloc HB.out (.cells #[.int .i64 x0, .int .i64 x1, .int .i64 x2, .int .i64 x3, .int .i64 x4, .int .i64 x5] 51))
      rcases (by omega : x0 = 0 ∨ x0 = 1 ∨ x0 = 2 ∨ (x0 ≠ 0 ∧ x0 ≠ 1 ∧ x0 ≠ 2)) with h | h | h | ⟨h0, h1, h2⟩
      · subst h
        as_aux_lemma =>
          go_wp2_with fail
          refine (pupillaw6_words.calls x3 x4 x5 x1 x2 true _ (words_true _ _ _ _ _)).mono ?_
          rintro e w5 ⟨rfl, hb⟩
          go_wp2
          go_roundg (gk - 1)
          case measure => have := HI.out; omega
          case rel => exact ⟨i + 1, by go_num, ⟨by have := HI.out; omega⟩, ⟨by omega⟩, ⟨by omega⟩, ⟨(HK4.out.below hb).more (by omega)⟩, ⟨below_step HB4.out hb⟩⟩
      · subst h
        as_aux_lemma =>
          go_wp2_with fail
          refine (drawn_calls x3 x4 x5 x1 x2 _ HRX.out).mono ?_
          rintro e w5 ⟨rfl, hb⟩
          go_wp2
          go_roundg (gk - 1)
          case measure => have := HI.out; omega
          case rel => exact ⟨i + 1, by go_num, ⟨by have := HI.out; omega⟩, ⟨by omega⟩, ⟨by omega⟩, ⟨(HK4.out.below hb).more (by omega)⟩, ⟨below_step HB4.out hb⟩⟩
      · subst h
        by_cases hbig : 200 < x1 ∧ x1 ≤ 65536
        · have e1 : decide (200 < x1) = true := decide_eq_true hbig.1
          have e2 : decide (x1 ≤ 65536) = true := decide_eq_true hbig.2
          as_aux_lemma =>
            go_wp2
            go_roundg (gk - 1)
            case measure => have := HI.out; omega
            case rel => exact ⟨i + 1, by go_num, ⟨by have := HI.out; omega⟩, ⟨by omega⟩, ⟨by omega⟩, ⟨HK4.out.more (by omega)⟩, ⟨HB4.out⟩⟩
        · have H2 : Aside0 ((decide (200 < x1) = false) ∨ (decide (200 < x1) = true ∧ decide (x1 ≤ 65536) = false)) := ⟨by
            by_cases h1 : 200 < x1
            · exact .inr ⟨decide_eq_true h1, decide_eq_false (fun h => hbig ⟨h1, h⟩)⟩
            · exact .inl (decide_eq_false h1)⟩
          clear hbig
          have Hblk := Aside0.mk (blk_new wr (.cells #[.int .i64 2, .int .i64 x1, .int .i64 x2, .int .i64 x3, .int .i64 x4, .int .i64 x5] 51))
          rcases H2.out with e1 | ⟨e1, e2⟩
          · as_aux_lemma =>
              go_wp2_with fail
              refine (orders_calls w.heap.size w _ w.heap.size (4 * i) x3 x4 x5 x1 x2 HK4.out (by omega) HB4.out HB4.out.size).mono ?_
              rintro e w5 ⟨rfl, hK5, hT5, hB5⟩
              have hb5 := hT5.blk Hblk.out (by decide) (by decide)
              have HK5 := Aside0.mk hK5
              have HB5 := Aside0.mk hB5
              have k1 := blk_cell hb5 1
              have k2 := blk_cell hb5 2
              have k3 := blk_cell hb5 3
              have k4 := blk_cell hb5 4
              have k5 := blk_cell hb5 5
              simp only [List.getElem?_toArray, List.getElem?_cons_zero, List.getElem?_cons_succ] at k1 k2 k3 k4 k5
              clear hb5 hK5 hT5 hB5 g0 g1 g2 g3 g4 g5
              go_wp2_with fail
              refine (orders_calls w.heap.size w _ w.heap.size (4 * i + 2) x3 x4 x5 x1 x2 HK5.out (by omega) HB5.out HB5.out.size).mono ?_
              rintro e w6 ⟨rfl, hK6, hT6, hB6⟩
              go_wp2
              go_roundg (gk - 1)
              case measure => have := HI.out; omega
              case rel => exact ⟨i + 1, by go_num, ⟨by have := HI.out; omega⟩, ⟨by omega⟩, ⟨by omega⟩, ⟨hK6.more (by omega)⟩, ⟨hB6⟩⟩
          · as_aux_lemma =>
              go_wp2_with fail
              refine (orders_calls w.heap.size w _ w.heap.size (4 * i) x3 x4 x5 x1 x2 HK4.out (by omega) HB4.out HB4.out.size).mono ?_
              rintro e w5 ⟨rfl, hK5, hT5, hB5⟩
              have hb5 := hT5.blk Hblk.out (by decide) (by decide)
              have HK5 := Aside0.mk hK5
              have HB5 := Aside0.mk hB5
              have k1 := blk_cell hb5 1
              have k2 := blk_cell hb5 2
              have k3 := blk_cell hb5 3
              have k4 := blk_cell hb5 4
              have k5 := blk_cell hb5 5
              simp only [List.getElem?_toArray, List.getElem?_cons_zero, List.getElem?_cons_succ] at k1 k2 k3 k4 k5
              clear hb5 hK5 hT5 hB5 g0 g1 g2 g3 g4 g5
              go_wp2_with fail
              refine (orders_calls w.heap.size w _ w.heap.size (4 * i + 2) x3 x4 x5 x1 x2 HK5.out (by omega) HB5.out HB5.out.size).mono ?_
              rintro e w6 ⟨rfl, hK6, hT6, hB6⟩
              go_wp2
              go_roundg (gk - 1)
              case measure => have := HI.out; omega
              case rel => exact ⟨i + 1, by go_num, ⟨by have := HI.out; omega⟩, ⟨by omega⟩, ⟨by omega⟩, ⟨hK6.more (by omega)⟩, ⟨hB6⟩⟩
      · have e0 : (x0 == 0) = false := by simp [h0]
        have e1 : (x0 == 1) = false := by simp [h1]
        have e2 : (x0 == 2) = false := by simp [h2]
        clear h0 h1 h2
        as_aux_lemma =>
          go_wp2
          go_roundg (gk - 1)
          case measure => have := HI.out; omega
          case rel => exact ⟨i + 1, by go_num, ⟨by have := HI.out; omega⟩, ⟨by omega⟩, ⟨by omega⟩, ⟨HK4.out.more (by omega)⟩, ⟨HB4.out⟩⟩
    · have H2 : Aside0 ((decide (i < l.length) = false) ∨ (decide (i < l.length) = true ∧ decide ((i : Int) < 40) = false)) := ⟨by
        by_cases h1 : i < l.length
        · exact .inr ⟨decide_eq_true h1, decide_eq_false (by omega)⟩
        · exact .inl (decide_eq_false h1)⟩
      clear hgo
      rcases H2.out with e1 | ⟨e1, e2⟩
      · as_aux_lemma =>
          go_wp2_with fail
          refine (alive_calls _).mono ?_
          rintro e w5 ⟨rfl, hb⟩
          have HK5 := Aside0.mk (HK.out.below hb)
          have HB5 := Aside0.mk (below_step HB.out hb)
          clear hb
          go_wp2_with fail
          refine (ApartX_calls w.heap.size w w5 w.heap.size (4 * i) HK5.out (by have := H40.out; omega) HB5.out HB5.out.size).mono ?_
          rintro e w6 ⟨rfl, hB6⟩
          go_wp2
          go_ret
          exact ⟨rfl, hB6⟩
      · as_aux_lemma =>
          go_wp2_with fail
          refine (alive_calls _).mono ?_
          rintro e w5 ⟨rfl, hb⟩
          have HK5 := Aside0.mk (HK.out.below hb)
          have HB5 := Aside0.mk (below_step HB.out hb)
          clear hb
          go_wp2_with fail
          refine (ApartX_calls w.heap.size w w5 w.heap.size (4 * i) HK5.out (by have := H40.out; omega) HB5.out HB5.out.size).mono ?_
          rintro e w6 ⟨rfl, hB6⟩
          go_wp2
          go_ret
          exact ⟨rfl, hB6⟩

end Go.Proofs.Ytpobladocccnmaa
