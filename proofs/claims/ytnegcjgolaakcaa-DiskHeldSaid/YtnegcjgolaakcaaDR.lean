/- told: a script told to a disk. -/
import Derived.Test.YtnegcjgolaakcaaDN
import Derived.Test.YtnegcjgolaakcaaPbulkx0
import Derived.Shelf.Sort.Plain
import Derived.Shelf.Slices.In.SortNone
import Derived.Test.YtnegcjgolaakcaaProg
import Derived.Sort.OwnSorted
import Derived.Sort.KeysCollected
import Derived.Test.YtnegcjgolaakcaaPbulkx1
import Derived.Sort.Walk0
import Derived.Laws.Cover1
import Derived.ChangeSlices
import Derived.Lib.SmallJoins
import Derived.SizedLaws
namespace Go.Proofs.Ytnegcjgolaakcaa
open Go.RowKit Go.Maps
open Go.Proofs.YtnegcjgolaakcaaW.PrintWords Go.Proofs.YtnegcjgolaakcaaW.PrintLast Go.Proofs.YtnegcjgolaakcaaW.PrintMore
set_option linter.unusedVariables false
set_option linter.unusedSimpArgs false
open Pbulk (S62 k62 z62 rd_T62 at_T62)
/-- a call, told -/
def opS (s : DS) (o : S62) : DS :=
  if o.f0 = 0 then (s.Write o.f1 o.f3).2 else if o.f0 = 1 then (s.Append o.f1 o.f3).2 else if o.f0 = 2 then (s.Flush o.f1).2 else if o.f0 = 3 then (s.Rename o.f1 o.f2).2
  else if o.f0 = 4 then (s.Remove o.f1).2 else if o.f0 = 5 then s.Sync.2 else if o.f0 = 6 then (s.fuse o.f4).2 else if o.f0 = 7 then s.crash o.f5 else s
def toldS (s : DS) (l : List S62) : DS := l.foldl opS s
/-- bytes and calls -/
def opN (l : List S62) : Nat := (l.map (fun o => 2 + o.f3.length)).sum
def OpOk (o : S62) : Prop := o.f1.size ≤ maxLen ∧ o.f2.size ≤ maxLen ∧ o.f4 ≤ 9223372036854775807 ∧ (∀ x ∈ o.f5, x ≤ 9223372036854775807) ∧ o.f5.length ≤ 1000000000000
theorem told_next (s : DS) {l : List S62} {i : Nat} {o : S62} (h : l[i]? = some o) : toldS s (l.take (i + 1)) = opS (toldS s (l.take i)) o := by
  obtain ⟨hl, rfl⟩ := List.getElem?_eq_some_iff.1 h
  unfold toldS
  rw [List.take_succ_eq_append_getElem hl, List.foldl_append]
  rfl
theorem opN_next {l : List S62} {i : Nat} {o : S62} (h : l[i]? = some o) : opN (l.take (i + 1)) = opN (l.take i) + (2 + o.f3.length) := by
  obtain ⟨hl, rfl⟩ := List.getElem?_eq_some_iff.1 h
  unfold opN
  rw [List.take_succ_eq_append_getElem hl, List.map_append, List.sum_append]
  simp
theorem opN_take (l : List S62) (i : Nat) : opN (l.take i) ≤ opN l := by
  conv => rhs; rw [← List.take_append_drop i l]
  unfold opN
  rw [List.map_append, List.sum_append]
  omega
theorem opN_len (l : List S62) : l.length ≤ opN l := by
  unfold opN
  induction l with
  | nil => simp
  | cons o l ih => simp only [List.map_cons, List.sum_cons, List.length_cons]; omega
/-- a row that has just been made is the law's own -/
theorem row_mine {α : Type} {d : Kd α} {e : Nat} {w : World} {B lo : Nat} {ok : Nat → Prop} {A : Option Addr} {n c : Nat} {xs : List α} (h : d.R e w lo ok (.slice A n c) xs) (a : Addr) (ha : A = some a) : ¬ Mine B lo w.heap.size a.block := by
  subst ha
  have h1 := Kd.R_base h a.block rfl
  have h2 := Kd.R_lt h a.block rfl
  rintro ⟨_, h3⟩
  omega
section
variable {w : World} {g B T : Nat} {s : DS}
set_option maxHeartbeats 4000000 in
set_option maxRecDepth 100000 in
theorem told_calls (l : List S62) (A : Option Addr) (c : Nat) (h : Lw B T w g s) (hC : ∀ W', Below B w W' → Kd.C k62 W' A l.length l) (hl : ∀ o ∈ l, OpOk o) (hT : T + opN l ≤ 1073741824) :
    Calls Try.prog 24 #[ptrV g, .slice A l.length c] w fun e w' => e = .returned (.tuple #[]) ∧ Lw B (T + opN l) w' g (toldS s l) ∧ Below B w w' := by
  have H := Aside0.mk h
  have HC := Aside0.mk hC
  have HL := Aside0.mk hl
  have HT := Aside0.mk hT
  have HLL := Aside0.mk (opN_len l)
  clear h hC hl hT
  go_enter Try.func24, Try.ntmps24
  go_wp2_with fail
  go_loopg [4] l.length (fun kq v4 w' => ∃ i : Nat, v4 = .int .i64 i ∧ Aside0 (i + kq = l.length) ∧ Aside0 (Lw B (T + opN (l.take i)) w' g (toldS s (l.take i))) ∧ Aside0 (Below B w w'))
  case atStart => exact ⟨0, rfl, ⟨by omega⟩, H, ⟨Below.refl _ _⟩⟩
  case round =>
    obtain ⟨i, rfl, HI, HD, HB⟩ := hrel
    by_cases hlt : i < l.length
    · have d6 : decide ((i : Int) < (l.length : Int)) = true := decide_eq_true (by omega)
      have d7 : decide (i < l.length) = true := decide_eq_true hlt
      have j0 : (0 : Int) ≤ (i : Int) := by omega
      have j1 : (i : Int) < (l.length : Int) := by omega
      obtain ⟨o, ho⟩ : ∃ o, l[i]? = some o := ⟨_, List.getElem?_eq_getElem hlt⟩
      have hrd : rd_T62 l (i : Int) = o := by unfold rd_T62; rw [List.getD_eq_getElem?_getD, Int.toNat_natCast, ho]; rfl
      obtain ⟨ad0, A3, c3, A5, c5, hA0, k0, k1, k2, k3, k4, k5, hc3, hC3, hc5, hC5⟩ := at_T62 (HC.out wr HB.out) (i : Int) j0 j1
      rw [hrd] at k0 k1 k2 k3 k4 k5 hc3 hC3 hc5 hC5
      rw [Int.toNat_natCast] at k0 k1 k2 k3 k4 k5
      subst hA0
      have HC3 := Aside0.mk (And.intro hc3 hC3)
      have HC5 := Aside0.mk (And.intro hc5 hC5)
      have HO := Aside0.mk (HL.out o (List.mem_of_getElem? ho))
      have HN := Aside0.mk (told_next s ho)
      have HNN := Aside0.mk (opN_next ho)
      have HTT : Aside0 (T + opN (l.take (i + 1)) ≤ 1073741824) := ⟨by have h1 := opN_take l (i + 1); have h2 := HT.out; omega⟩
      have HLT := Aside0.mk hlt
      clear hc3 hC3 hc5 hC5 ho hrd hlt
      go_upto_region 4 with fail
      have H1 := Aside0.mk (HD.out.below (w' := wr.alloc (.cells #[.int .i64 o.f0, .string o.f1, .string o.f2, .slice A3 o.f3.length c3, .int .i64 o.f4, .slice A5 o.f5.length c5] 62)) (below_alloc (Below.refl _ _) _))
      have HB1 := Aside0.mk (show Below wr.heap.size wr (wr.alloc (.cells #[.int .i64 o.f0, .string o.f1, .string o.f2, .slice A3 o.f3.length c3, .int .i64 o.f4, .slice A5 o.f5.length c5] 62)) from below_alloc (Below.refl _ _) _)
      have HW1 := Aside0.mk (blk_new wr (.cells #[.int .i64 o.f0, .string o.f1, .string o.f2, .slice A3 o.f3.length c3, .int .i64 o.f4, .slice A5 o.f5.length c5] 62))
      generalize wr.alloc (.cells #[.int .i64 o.f0, .string o.f1, .string o.f2, .slice A3 o.f3.length c3, .int .i64 o.f4, .slice A5 o.f5.length c5] 62) = w2 at *
      have HC3' := Aside0.mk (Kd.C_below HC3.out.2 HB1.out)
      have HC5' := Aside0.mk (Kd.C_below HC5.out.2 HB1.out)
      have HB2 := Aside0.mk (HB.out.trans (HB1.out.mono (Nat.le_trans HD.out.size (Nat.le_refl _))))
      clear k0 k1 k2 k3 k4 k5
      generalize wr.heap.size = gx at *
      have k0 : w2.cell? ⟨gx, 0, none⟩ = some (.int .i64 o.f0) := (blk_cell HW1.out 0).trans rfl
      have k1 : w2.cell? ⟨gx, 1, none⟩ = some (.string o.f1) := (blk_cell HW1.out 1).trans rfl
      have k2 : w2.cell? ⟨gx, 2, none⟩ = some (.string o.f2) := (blk_cell HW1.out 2).trans rfl
      have k3 : w2.cell? ⟨gx, 3, none⟩ = some (.slice A3 o.f3.length c3) := (blk_cell HW1.out 3).trans rfl
      have k4 : w2.cell? ⟨gx, 4, none⟩ = some (.int .i64 o.f4) := (blk_cell HW1.out 4).trans rfl
      have k5 : w2.cell? ⟨gx, 5, none⟩ = some (.slice A5 o.f5.length c5) := (blk_cell HW1.out 5).trans rfl
      have hgx := blk_lt HW1.out
      obtain ⟨n3, hn3⟩ : ∃ n3, n3 = o.f3.length := ⟨_, rfl⟩
      rw [← hn3] at k3 HC3'
      have HN3 := Aside0.mk hn3
      have HL3 : Aside0 (n3 ≤ 1073741824) := ⟨by have h1 := HTT.out; have h2 := HNN.out; omega⟩
      clear hn3
      go_upto_region 5 with ((with_reducible refine gate_builtin (b := .append) (xs := #[.const (.slice none 0 0), .tmp 18]) rfl ?_); at_builtin; refine Kd.R_append_rows bK (Rr := bK.K w2) (w0 := w2) w2.heap.size rfl (.const (.slice none 0 0)) (.tmp 18) 30 5 (.int .u8 0) 1 rfl Try.underlying30 info5 rfl (by decide) (by decide) (.slice none 0 0) [] o.f3 A3 n3 c3 (fun _ => True) (fun _ => False) rfl rfl ?aO ?aR ?aK (fun _ hk => hk.elim) (fun _ _ => trivial) ?aB ?aS ?aL ?_; (case aO => exact Kd.R_nil _ _ _ _ _); (case aR => exact HC3'.out); (case aK => exact fun x cs h => h); (case aB => exact Below.refl _ _); (case aS => exact Nat.le_refl _); (case aL => have := HL3.out; simp only [List.length_nil]; omega); intro v6 w3 ho hb hg hat; rw [List.nil_append] at ho; have HO3 := Aside0.mk ho; have HB3 := Aside0.mk hb; clear ho hb hg hat)
      obtain ⟨A6, c6, hv6⟩ := Kd.R_slice HO3.out
      subst hv6
      have HW3 := Aside0.mk (blk_below HW1.out HB3.out)
      have HC6 := Aside0.mk (Kd.R_reads' HO3.out).2
      clear k0 k1 k2 k3 k4 k5 hgx
      have k0 : w3.cell? ⟨gx, 0, none⟩ = some (.int .i64 o.f0) := (blk_cell HW3.out 0).trans rfl
      have k1 : w3.cell? ⟨gx, 1, none⟩ = some (.string o.f1) := (blk_cell HW3.out 1).trans rfl
      have k2 : w3.cell? ⟨gx, 2, none⟩ = some (.string o.f2) := (blk_cell HW3.out 2).trans rfl
      have k4 : w3.cell? ⟨gx, 4, none⟩ = some (.int .i64 o.f4) := (blk_cell HW3.out 4).trans rfl
      have k5 : w3.cell? ⟨gx, 5, none⟩ = some (.slice A5 o.f5.length c5) := (blk_cell HW3.out 5).trans rfl
      have hgx := blk_lt HW3.out
      have H3 := Aside0.mk (H1.out.below HB3.out)
      have HBw3 := Aside0.mk (HB2.out.trans (HB3.out.mono H1.out.size))
      by_cases z0 : o.f0 = 0
      · have HOP : Aside0 (opS (toldS s (l.take i)) o = ((toldS s (l.take i)).Write o.f1 o.f3).2) := ⟨by unfold opS; rw [if_pos z0]⟩
        have y0 : (o.f0 == 0) = true := by simp [z0]
        clear z0
        go_wp2_with fail
        refine (lw_write o.f1 o.f3 A6 c6 H1.out HB3.out (by have h1 := HTT.out; have h2 := HNN.out; have h3 := HN3.out; omega) HO.out.1 HC6.out.1 HC6.out.2 (row_mine HO3.out)).mono ?_
        rintro e w4 ⟨rfl, hd, hf⟩
        have HB4 := Aside0.mk (lw_below HBw3.out H3.out.size hf)
        have H4 := Aside0.mk hd
        clear hd hf
        go_wp2_with fail
        go_roundg (gk - 1)
        case measure => have := HI.out; have := HLT.out; omega
        case rel => exact ⟨i + 1, next_i6 (by have h1 := HLL.out; have h2 := HT.out; have := HLT.out; omega), ⟨by have := HI.out; have := HLT.out; omega⟩, ⟨by rw [HN.out, HOP.out]; exact H4.out.more (by rw [HNN.out]; omega) HTT.out⟩, HB4⟩
      have y0 : (o.f0 == 0) = false := by simpa using z0
      by_cases z1 : o.f0 = 1
      · have HOP : Aside0 (opS (toldS s (l.take i)) o = ((toldS s (l.take i)).Append o.f1 o.f3).2) := ⟨by unfold opS; rw [if_neg z0, if_pos z1]⟩
        have y1 : (o.f0 == 1) = true := by simp [z1]
        clear z0 z1
        go_wp2_with fail
        refine (lw_append o.f1 o.f3 A6 c6 H1.out HB3.out (by have h1 := HTT.out; have h2 := HNN.out; have h3 := HN3.out; omega) HO.out.1 HC6.out.1 HC6.out.2 (row_mine HO3.out)).mono ?_
        rintro e w4 ⟨rfl, hd, hf⟩
        have HB4 := Aside0.mk (lw_below HBw3.out H3.out.size hf)
        have H4 := Aside0.mk hd
        clear hd hf
        go_wp2_with fail
        go_roundg (gk - 1)
        case measure => have := HI.out; have := HLT.out; omega
        case rel => exact ⟨i + 1, next_i6 (by have h1 := HLL.out; have h2 := HT.out; have := HLT.out; omega), ⟨by have := HI.out; have := HLT.out; omega⟩, ⟨by rw [HN.out, HOP.out]; exact H4.out.more (by rw [HNN.out]; omega) HTT.out⟩, HB4⟩
      have y1 : (o.f0 == 1) = false := by simpa using z1
      by_cases z2 : o.f0 = 2
      · have HOP : Aside0 (opS (toldS s (l.take i)) o = ((toldS s (l.take i)).Flush o.f1).2) := ⟨by unfold opS; rw [if_neg z0, if_neg z1, if_pos z2]⟩
        have y2 : (o.f0 == 2) = true := by simp [z2]
        clear z0 z1 z2
        go_wp2_with fail
        refine (lw_flush o.f1 H3.out HO.out.1).mono ?_
        rintro e w4 ⟨rfl, hd, hf⟩
        have HB4 := Aside0.mk (lw_below HBw3.out H3.out.size hf)
        have H4 := Aside0.mk hd
        clear hd hf
        go_wp2_with fail
        go_roundg (gk - 1)
        case measure => have := HI.out; have := HLT.out; omega
        case rel => exact ⟨i + 1, next_i6 (by have h1 := HLL.out; have h2 := HT.out; have := HLT.out; omega), ⟨by have := HI.out; have := HLT.out; omega⟩, ⟨by rw [HN.out, HOP.out]; exact H4.out.more (by rw [HNN.out]; omega) HTT.out⟩, HB4⟩
      have y2 : (o.f0 == 2) = false := by simpa using z2
      by_cases z3 : o.f0 = 3
      · have HOP : Aside0 (opS (toldS s (l.take i)) o = ((toldS s (l.take i)).Rename o.f1 o.f2).2) := ⟨by unfold opS; rw [if_neg z0, if_neg z1, if_neg z2, if_pos z3]⟩
        have y3 : (o.f0 == 3) = true := by simp [z3]
        clear z0 z1 z2 z3
        go_wp2_with fail
        refine (lw_rename o.f1 o.f2 H3.out (by have h1 := HTT.out; have h2 := HNN.out; omega) HO.out.1 HO.out.2.1).mono ?_
        rintro e w4 ⟨rfl, hd, hf⟩
        have HB4 := Aside0.mk (lw_below HBw3.out H3.out.size hf)
        have H4 := Aside0.mk hd
        clear hd hf
        go_wp2_with fail
        go_roundg (gk - 1)
        case measure => have := HI.out; have := HLT.out; omega
        case rel => exact ⟨i + 1, next_i6 (by have h1 := HLL.out; have h2 := HT.out; have := HLT.out; omega), ⟨by have := HI.out; have := HLT.out; omega⟩, ⟨by rw [HN.out, HOP.out]; exact H4.out.more (by rw [HNN.out]; omega) HTT.out⟩, HB4⟩
      have y3 : (o.f0 == 3) = false := by simpa using z3
      by_cases z4 : o.f0 = 4
      · have HOP : Aside0 (opS (toldS s (l.take i)) o = ((toldS s (l.take i)).Remove o.f1).2) := ⟨by unfold opS; rw [if_neg z0, if_neg z1, if_neg z2, if_neg z3, if_pos z4]⟩
        have y4 : (o.f0 == 4) = true := by simp [z4]
        clear z0 z1 z2 z3 z4
        go_wp2_with fail
        refine (lw_remove o.f1 H3.out (by have h1 := HTT.out; have h2 := HNN.out; omega) HO.out.1).mono ?_
        rintro e w4 ⟨rfl, hd, hf⟩
        have HB4 := Aside0.mk (lw_below HBw3.out H3.out.size hf)
        have H4 := Aside0.mk hd
        clear hd hf
        go_wp2_with fail
        go_roundg (gk - 1)
        case measure => have := HI.out; have := HLT.out; omega
        case rel => exact ⟨i + 1, next_i6 (by have h1 := HLL.out; have h2 := HT.out; have := HLT.out; omega), ⟨by have := HI.out; have := HLT.out; omega⟩, ⟨by rw [HN.out, HOP.out]; exact H4.out.more (by rw [HNN.out]; omega) HTT.out⟩, HB4⟩
      have y4 : (o.f0 == 4) = false := by simpa using z4
      by_cases z5 : o.f0 = 5
      · have HOP : Aside0 (opS (toldS s (l.take i)) o = (toldS s (l.take i)).Sync.2) := ⟨by unfold opS; rw [if_neg z0, if_neg z1, if_neg z2, if_neg z3, if_neg z4, if_pos z5]⟩
        have y5 : (o.f0 == 5) = true := by simp [z5]
        clear z0 z1 z2 z3 z4 z5
        go_wp2_with fail
        refine (lw_sync H3.out).mono ?_
        rintro e w4 ⟨rfl, hd, hf⟩
        have HB4 := Aside0.mk (lw_below HBw3.out H3.out.size hf)
        have H4 := Aside0.mk hd
        clear hd hf
        go_wp2_with fail
        go_roundg (gk - 1)
        case measure => have := HI.out; have := HLT.out; omega
        case rel => exact ⟨i + 1, next_i6 (by have h1 := HLL.out; have h2 := HT.out; have := HLT.out; omega), ⟨by have := HI.out; have := HLT.out; omega⟩, ⟨by rw [HN.out, HOP.out]; exact H4.out.more (by rw [HNN.out]; omega) HTT.out⟩, HB4⟩
      have y5 : (o.f0 == 5) = false := by simpa using z5
      by_cases z6 : o.f0 = 6
      · have HOP : Aside0 (opS (toldS s (l.take i)) o = ((toldS s (l.take i)).fuse o.f4).2) := ⟨by unfold opS; rw [if_neg z0, if_neg z1, if_neg z2, if_neg z3, if_neg z4, if_neg z5, if_pos z6]⟩
        have y6 : (o.f0 == 6) = true := by simp [z6]
        clear z0 z1 z2 z3 z4 z5 z6
        go_wp2_with fail
        refine (lw_fuse o.f4 H3.out HO.out.2.2.1).mono ?_
        rintro e w4 ⟨rfl, hd, hf⟩
        have HB4 := Aside0.mk (lw_below HBw3.out H3.out.size hf)
        have H4 := Aside0.mk hd
        clear hd hf
        go_wp2_with fail
        go_roundg (gk - 1)
        case measure => have := HI.out; have := HLT.out; omega
        case rel => exact ⟨i + 1, next_i6 (by have h1 := HLL.out; have h2 := HT.out; have := HLT.out; omega), ⟨by have := HI.out; have := HLT.out; omega⟩, ⟨by rw [HN.out, HOP.out]; exact H4.out.more (by rw [HNN.out]; omega) HTT.out⟩, HB4⟩
      have y6 : (o.f0 == 6) = false := by simpa using z6
      by_cases z7 : o.f0 = 7
      · have HOP : Aside0 (opS (toldS s (l.take i)) o = (toldS s (l.take i)).crash o.f5) := ⟨by unfold opS; rw [if_neg z0, if_neg z1, if_neg z2, if_neg z3, if_neg z4, if_neg z5, if_neg z6, if_pos z7]⟩
        have y7 : (o.f0 == 7) = true := by simp [z7]
        clear z0 z1 z2 z3 z4 z5 z6 z7
        obtain ⟨n5, hn5⟩ : ∃ n5, n5 = o.f5.length := ⟨_, rfl⟩
        rw [← hn5] at k5 HC5'
        have HN5 := Aside0.mk hn5
        have HL5 : Aside0 (n5 ≤ 1000000000000) := ⟨by rw [hn5]; exact HO.out.2.2.2.2⟩
        have HC5w := Aside0.mk (Kd.C_below HC5'.out HB3.out)
        clear hn5
        go_wp2_with ((with_reducible refine gate_builtin (b := .append) (xs := #[.const (.slice none 0 0), .tmp 70]) rfl ?_); at_builtin; refine Kd.R_append_rows (Kd.int .i64) (Rr := (Kd.int .i64).K w3) (w0 := w3) w3.heap.size rfl (.const (.slice none 0 0)) (.tmp 70) 37 3 (.int .i64 0) 8 rfl Try.underlying37 info3 rfl (by decide) (by decide) (.slice none 0 0) [] o.f5 A5 n5 c5 (fun _ => True) (fun _ => False) rfl rfl ?aO ?aR ?aK (fun _ hk => hk.elim) (fun _ _ => trivial) ?aB ?aS ?aL ?_; (case aO => exact Kd.R_nil _ _ _ _ _); (case aR => exact HC5w.out); (case aK => exact fun x cs h => h); (case aB => exact Below.refl _ _); (case aS => exact Nat.le_refl _); (case aL => have := HL5.out; simp only [List.length_nil]; omega); intro v7 w4 ho hb hg hat; rw [List.nil_append] at ho; have HO7 := Aside0.mk ho; have HB7 := Aside0.mk hb; obtain ⟨A7, c7, hv7⟩ := Kd.R_slice HO7.out; clear ho hb hg hat k0 k1 k2 k4 k5 hgx; subst hv7)
        refine (lw_crash o.f5 A7 c7 H3.out HB7.out HO.out.2.2.2.1 (Kd.R_reads' HO7.out).2.2 (row_mine HO7.out)).mono ?_
        rintro e w5 ⟨rfl, hd, hf⟩
        have HB4 := Aside0.mk (lw_below (HBw3.out.trans (HB7.out.mono H3.out.size)) (Nat.le_trans H3.out.size HB7.out.size) hf)
        have H4 := Aside0.mk hd
        clear hd hf
        go_wp2_with fail
        go_roundg (gk - 1)
        case measure => have := HI.out; have := HLT.out; omega
        case rel => exact ⟨i + 1, next_i6 (by have h1 := HLL.out; have h2 := HT.out; have := HLT.out; omega), ⟨by have := HI.out; have := HLT.out; omega⟩, ⟨by rw [HN.out, HOP.out]; exact H4.out.more (by rw [HNN.out]; omega) HTT.out⟩, HB4⟩
      have y7 : (o.f0 == 7) = false := by simpa using z7
      have HOP : Aside0 (opS (toldS s (l.take i)) o = toldS s (l.take i)) := ⟨by unfold opS; rw [if_neg z0, if_neg z1, if_neg z2, if_neg z3, if_neg z4, if_neg z5, if_neg z6, if_neg z7]⟩
      have H4 := H3
      have HB4 := HBw3
      clear z0 z1 z2 z3 z4 z5 z6 z7
      go_wp2_with fail
      go_roundg (gk - 1)
      case measure => have := HI.out; have := HLT.out; omega
      case rel => exact ⟨i + 1, next_i6 (by have h1 := HLL.out; have h2 := HT.out; have := HLT.out; omega), ⟨by have := HI.out; have := HLT.out; omega⟩, ⟨by rw [HN.out, HOP.out]; exact H4.out.more (by rw [HNN.out]; omega) HTT.out⟩, HB4⟩
    · have d6 : decide ((i : Int) < (l.length : Int)) = false := decide_eq_false (by omega)
      have d7 : decide (i < l.length) = false := decide_eq_false hlt
      obtain rfl : i = l.length := by have := HI.out; omega
      rw [List.take_length] at HD
      clear hlt
      go_wp2_with fail
      go_end0
      exact ⟨rfl, HD.out, HB.out⟩
end
end Go.Proofs.Ytnegcjgolaakcaa

/- slices.Sort at strings, by the shelf's contract. -/
namespace Go.Proofs.Ytnegcjgolaakcaa
open Go.Shelf
def lays190_ren : Go.Shelf.Ren := ⟨fun | 190 => 54 | 125 => 71 | 258 => 70 | 128 => 90 | 129 => 91 | 302 => 81 | 303 => 82 | 304 => 83 | 305 => 84 | 306 => 85 | 307 => 86 | 308 => 87 | 309 => 88 | 310 => 89 | 333 => 93 | 329 => 94 | 330 => 95 | 334 => 96 | 335 => 97 | 336 => 98 | 344 => 99 | n => n, fun | 31 => 42 | 9 => 9 | 3 => 3 | 46 => 105 | 0 => 0 | 51 => 124 | 53 => 126 | 4 => 4 | 183 => 116 | 182 => 115 | 131 => 121 | 5 => 5 | 218 => 127 | 222 => 131 | 228 => 133 | 229 => 63 | n => n, fun | n => n⟩
theorem lays190 : Go.Proofs.Lays.n190 Try.prog lays190_ren := {
  mixed := by kernel_rfl
  f125 := Try.func71.trans (congrArg some (by kernel_rfl))
  f128 := Try.func90.trans (congrArg some (by kernel_rfl))
  f129 := Try.func91.trans (congrArg some (by kernel_rfl))
  f190 := Try.func54.trans (congrArg some (by kernel_rfl))
  f258 := Try.func70.trans (congrArg some (by kernel_rfl))
  f302 := Try.func81.trans (congrArg some (by kernel_rfl))
  f303 := Try.func82.trans (congrArg some (by kernel_rfl))
  f304 := Try.func83.trans (congrArg some (by kernel_rfl))
  f305 := Try.func84.trans (congrArg some (by kernel_rfl))
  f306 := Try.func85.trans (congrArg some (by kernel_rfl))
  f307 := Try.func86.trans (congrArg some (by kernel_rfl))
  f308 := Try.func87.trans (congrArg some (by kernel_rfl))
  f309 := Try.func88.trans (congrArg some (by kernel_rfl))
  f310 := Try.func89.trans (congrArg some (by kernel_rfl))
  f329 := Try.func94.trans (congrArg some (by kernel_rfl))
  f330 := Try.func95.trans (congrArg some (by kernel_rfl))
  f333 := Try.func93.trans (congrArg some (by kernel_rfl))
  f334 := Try.func96.trans (congrArg some (by kernel_rfl))
  f335 := Try.func97.trans (congrArg some (by kernel_rfl))
  f336 := Try.func98.trans (congrArg some (by kernel_rfl))
  f344 := Try.func99.trans (congrArg some (by kernel_rfl))
  t0 := Try.underlying0
  a0 := Try.isAgg0
  z0 := Try.sizeOf0
  v0 := Try.zeroValue0
  t3 := Try.underlying3
  a3 := Try.isAgg3
  z3 := Try.sizeOf3
  v3 := Try.zeroValue3
  t4 := Try.underlying4
  a4 := Try.isAgg4
  z4 := Try.sizeOf4
  v4 := Try.zeroValue4
  t5 := Try.underlying5
  a5 := Try.isAgg5
  z5 := Try.sizeOf5
  v5 := Try.zeroValue5
  t9 := Try.underlying9
  a9 := Try.isAgg9
  z9 := Try.sizeOf9
  v9 := Try.zeroValue9
  t31 := Try.underlying42
  a31 := Try.isAgg42
  z31 := Try.sizeOf42
  v31 := Try.zeroValue42
  t46 := Try.underlying105
  a46 := Try.isAgg105
  z46 := Try.sizeOf105
  v46 := Try.zeroValue105
  t51 := Try.underlying124
  a51 := Try.isAgg124
  z51 := Try.sizeOf124
  v51 := Try.zeroValue124
  t53 := Try.underlying126
  a53 := Try.isAgg126
  z53 := Try.sizeOf126
  v53 := Try.zeroValue126
  t131 := Try.underlying121
  a131 := Try.isAgg121
  z131 := Try.sizeOf121
  v131 := Try.zeroValue121
  t182 := Try.underlying115
  a182 := Try.isAgg115
  z182 := Try.sizeOf115
  v182 := Try.zeroValue115
  t183 := Try.underlying116
  a183 := Try.isAgg116
  z183 := Try.sizeOf116
  v183 := Try.zeroValue116
  t218 := Try.underlying127
  a218 := Try.isAgg127
  z218 := Try.sizeOf127
  v218 := Try.zeroValue127
  t222 := Try.underlying131
  a222 := Try.isAgg131
  z222 := Try.sizeOf131
  v222 := Try.zeroValue131
  t228 := Try.underlying133
  a228 := Try.isAgg133
  z228 := Try.sizeOf133
  v228 := Try.zeroValue133
  t229 := Try.underlying63
  a229 := Try.isAgg63
  z229 := Try.sizeOf63
  v229 := Try.zeroValue63 }
open Go.Sort Go.RowKit in
theorem sort_calls (blk off cap : Nat) (ss : List (List UInt8)) (w : World) (hH : Holds encStr w blk off ss.toArray) (hblk : blk < w.heap.size) (hsz : ss.length < 4611686018427387904) :
    Calls Try.prog 54 #[.slice (some ⟨blk, off, none⟩) ss.length cap] w fun e w' =>
      e = .returned (.tuple #[]) ∧ ∃ n os, w' = grow (putRow encStr (Sort.ahead w n) blk off (ss.mergeSort fun x y => decide (x ≤ y)).toArray) os := Any.slices_Sort_string lays190 blk off cap ss w hH hblk hsz
theorem sort_none (p : Option Addr) (cap : Nat) (w : World) : Calls Try.prog 54 #[.slice p 0 cap] w fun e w' => e = .returned (.tuple #[]) ∧ w' = w := Any.slices_Sort_string_none lays190 p cap w
end Go.Proofs.Ytnegcjgolaakcaa

/- (*disk.Disk).List. -/
namespace Go.Proofs.Ytnegcjgolaakcaa
open Go.RowKit Go.Maps Go.Sort
open Go.Proofs.YtnegcjgolaakcaaW.PrintWords Go.Proofs.YtnegcjgolaakcaaW.PrintLast Go.Proofs.YtnegcjgolaakcaaW.PrintMore
set_option linter.unusedVariables false
set_option linter.unusedSimpArgs false
def ofBs (l : List UInt8) : ByteArray := ⟨l.toArray⟩
def bsOf (n : ByteArray) : List UInt8 := n.data.toList
theorem ofBs_bsOf (n : ByteArray) : ofBs (bsOf n) = n := by cases n; simp [ofBs, bsOf]
theorem bsOf_ofBs (l : List UInt8) : bsOf (ofBs l) = l := by simp [ofBs, bsOf]
/-- all names, rising -/
def namesV (s : DS) : List (List UInt8) := ((s.nmL.filter (fun n => n ≠ nameless)).map bsOf).mergeSort leB
def listV (s : DS) : List ByteArray := if s.off then [] else (namesV s).map ofBs
theorem enc_of (ss : List (List UInt8)) : encs Value.string (ss.map ofBs) = ss.map Go.Proofs.encStr := by
  unfold encs
  rw [List.map_map]
  rfl
section
variable {w w' : World} {g : Nat} {s s' : DS} {base : Nat} {ok : Nat → Prop} {nb fb : Nat} {v v1 : Value} {ad ad' : List Nat} {T : Nat}
theorem has_iff {D : DU} (h : DiskAt w g s base ok nb fb v ad) (hD : Tells D s.count (s.nameAt ad)) (x : List UInt8) : Maps.has D (.string x) = true ↔ (ofBs x ∈ s.nmL ∧ ofBs x ≠ nameless) := by
  have e : (Lit.string x) = key (ofBs x) := by unfold key; rw [show (ofBs x).data.toList = x from bsOf_ofBs x]
  rw [e, (hD.2 (ofBs x)).2, DS.nameAt_L]
  unfold atL
  by_cases hn : ofBs x = nameless
  · rw [if_pos hn]; simp [hn]
  · rw [if_neg hn]
    constructor
    · intro hs
      refine ⟨?_, hn⟩
      cases hf : idxL s.nmL (ofBs x) with
      | none => rw [hf] at hs; cases hs
      | some i => exact List.mem_of_getElem? (idxL_some hf)
    · rintro ⟨hm, _⟩
      cases hf : idxL s.nmL (ofBs x) with
      | none => exact absurd hm (idxL_none.1 hf)
      | some i =>
        have hl := (List.getElem?_eq_some_iff.1 (idxL_some hf)).1
        have hl2 : i < ad.length := by rw [h.len]; simpa [DS.nmL] using hl
        simp [hl2]
theorem UL_nodup {L : List ByteArray} (h : UL L) : (L.filter (fun n => n ≠ nameless)).Nodup := by
  unfold UL at h
  refine (List.Pairwise.filter _ h).imp_of_mem ?_
  intro a b ha hb hab e
  have := (List.mem_filter.1 ha).2
  simp only [ne_eq, decide_eq_true_eq] at this
  exact this (hab e)
theorem collected_perm {D : DU} (h : DiskAt w g s base ok nb fb v ad) (hI : UL s.nmL) (hD : Tells D s.count (s.nameAt ad)) {left : Lit → Bool} {ss : List (List UInt8)} (hC : Collected D left ss) (hl : ∀ kl, left kl = false) : ss.mergeSort leB = namesV s := by
  unfold namesV
  refine mergeSort_of_perm ((List.perm_ext_iff_of_nodup hC.1 ?_).2 fun x => ?_)
  · have h1 := UL_nodup hI
    refine List.Pairwise.map _ ?_ h1
    intro a b hab e
    exact hab (by rw [← ofBs_bsOf a, ← ofBs_bsOf b, e])
  · rw [hC.2 x, hl, has_iff h hD]
    constructor
    · rintro ⟨⟨h1, h2⟩, _⟩
      exact List.mem_map.2 ⟨ofBs x, List.mem_filter.2 ⟨h1, by simpa using h2⟩, bsOf_ofBs x⟩
    · intro hx
      obtain ⟨n, hn, rfl⟩ := List.mem_map.1 hx
      rw [ofBs_bsOf]
      obtain ⟨h1, h2⟩ := List.mem_filter.1 hn
      exact ⟨⟨h1, by simpa using h2⟩, rfl⟩
theorem names_len (s : DS) : (namesV s).length = s.count := by
  unfold namesV
  rw [List.length_mergeSort, List.length_map, DS.count_L]
  unfold cntL
  rw [List.countP_eq_length_filter]
theorem nodup_le {α : Type} [DecidableEq α] : ∀ (l m : List α), l.Nodup → l ⊆ m → l.length ≤ m.length
  | [], m, _, _ => Nat.zero_le _
  | a :: l, m, hn, hs => by
    have ha : a ∈ m := hs List.mem_cons_self
    have h1 := List.nodup_cons.1 hn
    have h2 := nodup_le l (m.erase a) h1.2 (fun b hb => (List.mem_erase_of_ne (fun e => h1.1 (by rw [← e]; exact hb))).2 (hs (List.mem_cons_of_mem _ hb)))
    rw [List.length_erase_of_mem ha] at h2
    have h3 : 0 < m.length := List.length_pos_of_mem ha
    rw [List.length_cons]
    omega
theorem collected_le {D : DU} (h : DiskAt w g s base ok nb fb v ad) (hD : Tells D s.count (s.nameAt ad)) {left : Lit → Bool} {ss : List (List UInt8)} (hC : Collected D left ss) : ss.length ≤ s.files.length := by
  have h1 : (ss.map ofBs).Nodup := List.Pairwise.map _ (fun a b hab e => hab (by rw [← bsOf_ofBs a, ← bsOf_ofBs b, e])) hC.1
  have h2 : ss.map ofBs ⊆ s.nmL := fun n hn => by
    obtain ⟨x, hx, rfl⟩ := List.mem_map.1 hn
    exact ((has_iff h hD x).1 ((hC.2 x).1 hx).1).1
  have h3 := nodup_le _ _ h1 h2
  rw [List.length_map] at h3
  simpa [DS.nmL] using h3
set_option maxHeartbeats 4000000 in
set_option maxRecDepth 100000 in
theorem list_calls (h : DiskAt w g s base ok nb fb v ad) (hI : s.Inv T) (hT : T ≤ 1073741824) :
    Calls Try.prog 29 #[ptrV g] w fun e w' => ∃ A c, e = .returned (.slice A (listV s).length c) ∧ Kd.string.R 9 w' w.heap.size (fun _ => True) (.slice A (listV s).length c) (listV s) ∧ Below w.heap.size w w' := by
  obtain ⟨D, hown, hD⟩ := h.nms.open
  have y2 : w.cell? ⟨g, 2, none⟩ = some (.map (some nb)) := (blk_cell h.blk 2).trans rfl
  have y5 : w.cell? ⟨g, 5, none⟩ = some (.bool s.off) := (blk_cell h.blk 5).trans rfl
  have hgs := blk_lt h.blk
  have HO := Aside0.mk hown
  have HD := Aside0.mk hD
  have H := Aside0.mk h
  have HI := Aside0.mk hI
  have HT := Aside0.mk hT
  clear h hI hT hown hD
  go_enter Try.func29, Try.ntmps29
  cases ho : s.off with
  | true =>
    have HR : Aside0 (listV s = []) := ⟨by unfold listV; rw [ho]; rfl⟩
    rw [ho] at y5
    rw [HR.out]
    clear ho
    go_wp2_with fail
    go_ret
    exact ⟨none, 0, rfl, Kd.R_nil _ _ _ _ _, Below.refl _ _⟩
  | false =>
    have HR : Aside0 (listV s = (namesV s).map ofBs) := ⟨by unfold listV; rw [ho]; rfl⟩
    rw [ho] at y5
    rw [HR.out]
    clear ho
    go_wp2_with (first | (at_range; refine wpList_range_own _ rfl _ 65 rfl 9 71 keyLaw Try.underlying65 filE nb _ D rfl HO.out ?_; intro w0 hrg0 hg0 hs0) | fail)
    have HB0 : Aside0 (Below w.heap.size w w0) := ⟨grown_none hg0⟩
    have HR0 := Aside0.mk hrg0
    have HS0 : Aside0 (w.heap.size < w0.heap.size) := ⟨by omega⟩
    clear hrg0 hg0 hs0 y2 y5 hgs
    go_frame
    go_loopg [3] (Maps.size D) (fun kq v3 w' => ∃ (left : Lit → Bool) (ss : List (List UInt8)), Aside0 (w'.ranges Try.prog 9 filE nb w.heap.size (Maps.size D) D left kq) ∧ Aside0 (Collected D left ss) ∧ Aside0 (Kd.string.R 9 w' w.heap.size (fun k => k ≠ w.heap.size) v3 (ss.map ofBs)) ∧ Aside0 (Below w.heap.size w w' ∧ w.heap.size < w'.heap.size))
    case atStart => exact ⟨_, [], HR0, ⟨Collected.start D⟩, ⟨Kd.R_nil _ _ _ _ _⟩, ⟨HB0.out, HS0.out⟩⟩
    case round =>
      clear HR0 HB0 HS0
      obtain ⟨left, ss, HRG, HCO, HRW, HB⟩ := hrel
      go_wp2_with (first | (at_next; refine wpList_next_ranges _ rfl _ rfl 9 keyLaw filE encStr filV key_shape filE_shape nb w.heap.size _ D left _ rfl HRG.out ?_ ?_) | fail)
      case refine_1 =>
        intro hc0 hl0
        have HSO : Aside0 (ss.mergeSort leB = namesV s) := ⟨collected_perm H.out HI.out.nmU HD.out HCO.out hl0⟩
        have HLE : Aside0 (ss.length ≤ 1073741824) := ⟨by have h1 := collected_le H.out HD.out HCO.out; have h2 := HI.out.lf; have h3 := HT.out; omega⟩
        have hrow := Kd.own_of_R HRW.out
        rw [enc_of, List.length_map] at hrow
        clear hc0 hl0
        rcases hrow.2 with ⟨hnil, h0⟩ | ⟨gw, cap, cur, hv, hbase, hb, h1, h2, h3, h4⟩
        · subst hnil
          have hss : ss = [] := List.eq_nil_of_length_eq_zero h0
          have HN : Aside0 (namesV s = []) := ⟨by rw [← HSO.out, hss]; simp⟩
          clear hrow h0 hss
          go_wp2_with fail
          refine (sort_none none 0 wr).mono ?_
          rintro e w9 ⟨rfl, hw9⟩
          have hw9' := hw9.symm
          subst hw9'
          go_wp2_with fail
          go_ret
          rw [HN.out]
          exact ⟨none, 0, rfl, Kd.R_nil _ _ _ _ _, HB.out.1⟩
        · subst hv
          have hl4 : cur.toList.take ss.length = ss.map Go.Proofs.encStr := by simpa using h4
          have HBK := Aside0.mk (And.intro hbase (And.intro hb (And.intro h1 (And.intro h2 (And.intro h3 hl4)))))
          obtain ⟨n1, hn1⟩ : ∃ n1, n1 = ss.length := ⟨_, rfl⟩
          have HN1 := Aside0.mk hn1
          rw [← hn1]
          clear hrow hbase hb h1 h2 h3 h4 hl4 hn1
          go_wp2_with fail
          have hsc := sort_calls gw 0 cap ss wr (holds_of_block HBK.out.2.1 HBK.out.2.2.2.2.2) (Array.getElem?_eq_some_iff.1 HBK.out.2.1).1 (by have := HLE.out; omega)
          rw [← HN1.out] at hsc
          refine hsc.mono ?_
          rintro e w9 ⟨rfl, nn, os, rfl⟩
          have hO9 := ownsRow_sorted (n := nn) (os := os) (ss := ss) (ts := ss.mergeSort leB) (by simp) HBK.out.1 HBK.out.2.1 HBK.out.2.2.1 HBK.out.2.2.2.1 HBK.out.2.2.2.2.1
          have hG9 := grownBy_sorted (w := wr) (g := gw) (n := nn) (os := os) (ss.mergeSort leB).toArray
          have HB9 : Aside0 (Below w.heap.size w (grow (putRow Go.Proofs.encStr (Sort.ahead wr nn) gw 0 (ss.mergeSort fun x y => decide (x ≤ y)).toArray) os)) := ⟨HB.out.1.grown hG9 HB.out.1.size (fun k hk => by injection hk with hk; subst hk; exact HBK.out.1)⟩
          have hlen : ss.length = ((namesV s).map ofBs).length := by rw [List.length_map, ← HSO.out, List.length_mergeSort]
          have HR9 : Aside0 (Kd.string.R 9 (grow (putRow Go.Proofs.encStr (Sort.ahead wr nn) gw 0 (ss.mergeSort fun x y => decide (x ≤ y)).toArray) os) w.heap.size (fun _ => True) (.slice (some ⟨gw, 0, none⟩) n1 cap) ((namesV s).map ofBs)) := ⟨by
            refine Kd.R_of_own (enc := Value.string) (h1 := fun _ => rfl) ?_ (fun _ _ => trivial)
            rw [enc_of, ← hlen, ← HSO.out, HN1.out]
            exact hO9⟩
          have HLN : Aside0 (n1 = ((namesV s).map ofBs).length) := ⟨HN1.out.trans hlen⟩
          clear hO9 hG9 hlen hsc
          generalize grow (putRow Go.Proofs.encStr (Sort.ahead wr nn) gw 0 (ss.mergeSort fun x y => decide (x ≤ y)).toArray) os = w9 at *
          go_wp2_with fail
          go_ret
          rw [← HLN.out]
          exact ⟨_, cap, rfl, HR9.out, HB9.out⟩
      case refine_2 =>
        intro x c kl a b w1 cnt1 hk hl hy hat hrg1 hlt hg1 hs1 hen
        obtain ⟨l, hxl, rfl, _⟩ := Maps.keyOf_str Try.underlying9 hk
        rw [hxl] at hk hen ⊢
        have hst := HCO.out.step hl (fun zd => hat zd)
        have HRG1 := Aside0.mk hrg1
        have HCO1 := Aside0.mk hst
        have HLT := Aside0.mk hlt
        have hSt : Stay (fun _ => True) wr w1 := fun k cc q _ hc => hg1.block k (blk_lt hc) (fun e => by
          injection e with e
          subst e
          obtain ⟨es, clock, since, seen, c0, hb, F, hs, hD0, hr, _⟩ := HRG.out
          rw [hc] at hr
          cases hr)
        have HRW1 := Aside0.mk (R_objs HRW.out hSt (fun _ _ => trivial))
        have HB1 : Aside0 (Below w.heap.size w w1 ∧ w.heap.size < w1.heap.size) := ⟨HB.out.1.grown hg1 HB.out.1.size (fun k hk => by cases hk; exact Nat.le_refl _), by rw [hs1]; exact HB.out.2⟩
        have HLN : Aside0 (ss.length ≤ 1073741824) := ⟨by have h1 := collected_le H.out HD.out HCO.out; have h2 := HI.out.lf; have h3 := HT.out; omega⟩
        clear hxl hst hrg1 hlt hSt hg1 hs1 hat hy hk
        obtain ⟨A4, c4, hu4⟩ := Kd.R_slice HRW1.out
        rw [List.length_map] at hu4
        obtain ⟨n1, hn1⟩ : ∃ n1, n1 = ss.length := ⟨_, rfl⟩
        rw [← hn1] at hu4 HLN
        have HN1 := Aside0.mk hn1
        subst hu4
        clear hn1
        go_wp2_with (first | ((with_reducible refine gate_builtin (b := .append) (xs := #[.tmp 18, .tmp 20]) rfl ?_); at_builtin; refine Kd.R_append Kd.string (w0 := w) w.heap.size rfl (.tmp 18) (.tmp 20) 42 9 (.string ⟨#[]⟩) 16 rfl Try.underlying42 info9 rfl (by decide) (by decide) (.slice A4 n1 c4) (ss.map ofBs) (ofBs l) [Go.Proofs.encStr l] (fun k => k ≠ w.heap.size) (fun _ => False) rfl rfl ?aP (fun _ hk => hk.elim) ?aF ?aO ?aB ?aS ?aL ?_; (case aP => exact rfl); (case aF => exact fun k hk => by have := HB1.out.2; omega); (case aO => exact HRW1.out); (case aB => exact HB1.out.1); (case aS => exact HB1.out.1.size); (case aL => rw [List.length_map, ← HN1.out]; have := HLN.out; omega); intro v3 w3 ho hb hg hat; have HO3 := Aside0.mk ho; have HB3 : Aside0 (Below w.heap.size w w3 ∧ w.heap.size < w3.heap.size) := ⟨hb, Nat.lt_of_lt_of_le HB1.out.2 hg.size⟩; have HRG3 := Aside0.mk (HRG1.out.kept hg (fun e => by have h1 := Kd.R_base HRW1.out nb e.symm; have h2 := HO.out.lt; omega) (fun e => HRW1.out.1 _ e.symm rfl)); obtain ⟨A5, c5, hv5⟩ := Kd.R_slice HO3.out; generalize List.length _ = l5 at hv5; clear ho hb hg hat; subst hv5) | fail)
        go_roundg cnt1
        case measure => exact HLT.out
        case rel => exact ⟨_, ss ++ [l], HRG3, HCO1, ⟨by rw [List.map_append]; exact HO3.out⟩, HB3⟩
end
end Go.Proofs.Ytnegcjgolaakcaa

/- (*disk.Disk).Free. -/
namespace Go.Proofs.Ytnegcjgolaakcaa
open Go.RowKit Go.Maps
open Go.Proofs.YtnegcjgolaakcaaW.PrintWords Go.Proofs.YtnegcjgolaakcaaW.PrintLast Go.Proofs.YtnegcjgolaakcaaW.PrintMore
set_option linter.unusedVariables false
set_option linter.unusedSimpArgs false
section
variable {w w' : World} {g : Nat} {s s' : DS} {base : Nat} {ok : Nat → Prop} {nb fb : Nat} {v v1 : Value} {ad ad' : List Nat} {T : Nat}
def F37RT3 : Bool × List (List Nat × List Nat) := (true, [([], []), ([0], [0]), ([1], [1]), ([2], [2]), ([], []), ([4], [4]), ([5], [5]), ([6], [6]), ([7], [7]), ([3, 8], [3, 8]), ([], []), ([10], [10]), ([11], [11]), ([12], [12]), ([], []), ([14, 8], [14]), ([13, 15], [13, 15]), ([9, 15, 0, 1, 2, 3, 4, 5, 6, 7, 8, 9], [9]), ([16, 17, 0, 1, 2, 3, 4, 5, 6, 7, 8, 9, 10, 11, 12, 13, 14, 15, 16, 17], [16])])
def F37RB3 : List Nat := [0, 1, 3, 7, 0, 16, 48, 112, 240, 511, 0, 1024, 3072, 7168, 0, 16880, 65008, 50175, 262143]
theorem F37Rtab3 : rtab .any (opsOf Try.f37 3) = F37RT3 := by kernel_rfl
theorem F37Rbits3 : waitsOk F37RT3.2 F37RB3 = true := by kernel_rfl
set_option maxHeartbeats 4000000 in
set_option maxRecDepth 100000 in
theorem free_calls (h : DiskAt w g s base ok nb fb v ad) (hI : s.Inv T) (hT : T ≤ 1073741824) :
    Calls Try.prog 37 #[ptrV g] w fun e w' => e = .returned (.tuple #[.int .i64 s.Free.1, .int .i64 s.Free.2]) ∧ Below w.heap.size w w' := by
  obtain ⟨D, hown, hD⟩ := h.nms.open
  have y0 : w.cell? ⟨g, 0, none⟩ = some (.int .i64 s.names) := (blk_cell h.blk 0).trans rfl
  have y1 : w.cell? ⟨g, 1, none⟩ = some (.int .i64 s.room) := (blk_cell h.blk 1).trans rfl
  have y2 : w.cell? ⟨g, 2, none⟩ = some (.map (some nb)) := (blk_cell h.blk 2).trans rfl
  have y5 : w.cell? ⟨g, 5, none⟩ = some (.bool s.off) := (blk_cell h.blk 5).trans rfl
  have hgs := blk_lt h.blk
  have look : ∀ (W : World), W.heap[nb]? = w.heap[nb]? → ∀ ty, (Builtin.len_ #[65] ty #[.map (some nb)]).run Try.prog W = .ok (.int .i64 s.count) W := fun W e ty => by
    have hd := (ownsMap_heap hown e).len Try.underlying65 ty
    rw [hD.1] at hd
    exact hd
  have LK := Aside0.mk look
  have HO := Aside0.mk hown
  have H := Aside0.mk h
  have HI := Aside0.mk hI
  have HT := Aside0.mk hT
  have HW1 : Aside0 (wrap64 (s.names - (s.count : Int)) = s.names - s.count) := ⟨IntWalk.wrap64_in _ (by have := count_le s; have := hI.lf; have := hI.names; omega)⟩
  have HW2 : Aside0 (wrap64 (s.room - (s.used : Int)) = s.room - s.used) := ⟨IntWalk.wrap64_in _ (by have := used_le s; have := hI.now; have := hI.room; omega)⟩
  have l0 := look w.drew rfl 3
  clear h hI hT hown hD look
  cases ho : s.off with
  | true =>
    have HR : Aside0 (s.Free = (0, 0)) := ⟨by unfold DS.Free; rw [ho]; rfl⟩
    rw [ho] at y5
    clear ho l0
    go_enter Try.func37, Try.ntmps37
    go_wp2_with fail
    go_ret2
    rw [HR.out]
    exact ⟨rfl, Below.refl _ _⟩
  | false =>
    have HR : Aside0 (s.Free = (s.names - s.count, s.room - s.used)) := ⟨by unfold DS.Free; rw [ho]; rfl⟩
    rw [ho] at y5
    clear ho
    go_enter Try.func37, Try.ntmps37
    go_upto_region 3 with fail
    refine start_ (n := 19) (S := fun w' => w'.cell? ⟨g, 0, none⟩ = some (.int .i64 s.names) ∧ w'.cell? ⟨g, 1, none⟩ = some (.int .i64 s.room) ∧ w'.cell? ⟨g, 2, none⟩ = some (.map (some nb)) ∧ (Builtin.len_ #[65] 3 #[.map (some nb)]).run Try.prog w' = .ok (.int .i64 s.count) w') (ds := []) #[false, false, false, false, false, false, false, false, false, false, false, false, false, false, false, false, false, false, false] (by kernel_rfl) rfl rfl ⟨y0, y1, y2, l0⟩ (fun hHeld => ?_)
    refine with_tabW F37Rtab3 F37Rbits3 (fun HT_ HW_ => ?_)
    refine pure_ (i := 0) (N := some 8) (v := ?_) (a' := ?_) #[true, false, false, false, false, false, false, false, false, false, false, false, false, false, false, false, false, false, false] rfl rfl (any_of HT_.out (by kernel_rfl)) (fun _ _ _ h => h) (Or.inl ⟨by rfl, ?_⟩) ?_ ?_
    rotate_left
    · intro w'
      go_simp
      with_reducible rfl
    rotate_left
    · simp only [Act.put, List.setIfInBounds_toArray, List.set_cons_zero, List.set_cons_succ, i64_w, i32_w]
      rfl
    refine pure_ (i := 1) (N := some 9) (v := ?_) (a' := ?_) #[true, true, false, false, false, false, false, false, false, false, false, false, false, false, false, false, false, false, false] rfl rfl (any_of HT_.out (by kernel_rfl)) (fun _ _ _ h => h) (Or.inl ⟨by rfl, ?_⟩) ?_ ?_
    rotate_left
    · intro w'
      go_simp
      with_reducible rfl
    rotate_left
    · simp only [Act.put, List.setIfInBounds_toArray, List.set_cons_zero, List.set_cons_succ, i64_w, i32_w]
      rfl
    refine pure_ (i := 2) (N := some 10) (v := ?_) (a' := ?_) #[true, true, true, false, false, false, false, false, false, false, false, false, false, false, false, false, false, false, false] rfl rfl (any_of HT_.out (by kernel_rfl)) (fun _ _ _ h => h) (Or.inl ⟨by rfl, ?_⟩) ?_ ?_
    rotate_left
    · intro w'
      go_simp
      with_reducible rfl
    rotate_left
    · simp only [Act.put, List.setIfInBounds_toArray, List.set_cons_zero, List.set_cons_succ, i64_w, i32_w]
      rfl
    refine pure_ (i := 4) (N := some 12) (v := ?_) (a' := ?_) #[true, true, true, false, true, false, false, false, false, false, false, false, false, false, false, false, false, false, false] rfl rfl (any_of HT_.out (by kernel_rfl)) (fun _ _ _ h => h) (Or.inl ⟨by rfl, ?_⟩) ?_ ?_
    rotate_left
    · intro w'
      go_simp
      with_reducible rfl
    rotate_left
    · simp only [Act.put, List.setIfInBounds_toArray, List.set_cons_zero, List.set_cons_succ, i64_w, i32_w]
      rfl
    refine pure_ (i := 5) (N := some 13) (v := ?_) (a' := ?_) #[true, true, true, false, true, true, false, false, false, false, false, false, false, false, false, false, false, false, false] rfl rfl (any_of HT_.out (by kernel_rfl)) (fun _ _ _ h => h) (Or.inl ⟨by rfl, ?_⟩) ?_ ?_
    rotate_left
    · intro w'
      go_simp
      with_reducible rfl
    rotate_left
    · simp only [Act.put, List.setIfInBounds_toArray, List.set_cons_zero, List.set_cons_succ, i64_w, i32_w]
      rfl
    refine pure_ (i := 6) (N := some 14) (v := ?_) (a' := ?_) #[true, true, true, false, true, true, true, false, false, false, false, false, false, false, false, false, false, false, false] rfl rfl (any_of HT_.out (by kernel_rfl)) (fun _ _ _ h => h) (Or.inl ⟨by rfl, ?_⟩) ?_ ?_
    rotate_left
    · intro w'
      go_simp
      with_reducible rfl
    rotate_left
    · simp only [Act.put, List.setIfInBounds_toArray, List.set_cons_zero, List.set_cons_succ, i64_w, i32_w]
      rfl
    refine pure_ (i := 10) (N := some 18) (v := ?_) (a' := ?_) #[true, true, true, false, true, true, true, false, false, false, true, false, false, false, false, false, false, false, false] rfl rfl (any_of HT_.out (by kernel_rfl)) (fun _ _ _ h => h) (Or.inl ⟨by rfl, ?_⟩) ?_ ?_
    rotate_left
    · intro w'
      go_simp
      with_reducible rfl
    rotate_left
    · simp only [Act.put, List.setIfInBounds_toArray, List.set_cons_zero, List.set_cons_succ, i64_w, i32_w]
      rfl
    refine pure_ (i := 11) (N := some 19) (v := ?_) (a' := ?_) #[true, true, true, false, true, true, true, false, false, false, true, true, false, false, false, false, false, false, false] rfl rfl (any_of HT_.out (by kernel_rfl)) (fun _ _ _ h => h) (Or.inl ⟨by rfl, ?_⟩) ?_ ?_
    rotate_left
    · intro w'
      go_simp
      with_reducible rfl
    rotate_left
    · simp only [Act.put, List.setIfInBounds_toArray, List.set_cons_zero, List.set_cons_succ, i64_w, i32_w]
      rfl
    refine pure_ (i := 12) (N := some 20) (v := ?_) (a' := ?_) #[true, true, true, false, true, true, true, false, false, false, true, true, true, false, false, false, false, false, false] rfl rfl (any_of HT_.out (by kernel_rfl)) (fun _ _ _ h => h) (Or.inl ⟨by rfl, ?_⟩) ?_ ?_
    rotate_left
    · intro w'
      go_simp
      with_reducible rfl
    rotate_left
    · simp only [Act.put, List.setIfInBounds_toArray, List.set_cons_zero, List.set_cons_succ, i64_w, i32_w]
      rfl
    refine pure_ (i := 14) (N := some 22) (v := ?_) (a' := ?_) #[true, true, true, false, true, true, true, false, false, false, true, true, true, false, true, false, false, false, false] rfl rfl (any_of HT_.out (by kernel_rfl)) (fun _ _ _ h => h) (Or.inl ⟨by rfl, ?_⟩) ?_ ?_
    rotate_left
    · intro w'
      go_simp
      with_reducible rfl
    rotate_left
    · simp only [Act.put, List.setIfInBounds_toArray, List.set_cons_zero, List.set_cons_succ, i64_w, i32_w]
      rfl
    refine take_ (i := 3) (N := some 11) (v := ?_) (a' := ?_) #[true, true, true, true, true, true, true, false, false, false, true, true, true, false, true, false, false, false, false] rfl rfl (take_ofW HT_.out HW_.out (by kernel_rfl)) (fun _ _ _ h => h) (Or.inl ⟨by rfl, ?_⟩) hHeld ?_ ?_
    rotate_left
    · rintro w' ⟨s0, s1, s2, s3⟩
      go_simp
      with_reducible rfl
    rotate_left
    · simp only [Act.put, List.setIfInBounds_toArray, List.set_cons_zero, List.set_cons_succ, i64_w, i32_w]
      rfl
    refine take_ (i := 7) (N := some 15) (v := ?_) (a' := ?_) #[true, true, true, true, true, true, true, true, false, false, true, true, true, false, true, false, false, false, false] rfl rfl (take_ofW HT_.out HW_.out (by kernel_rfl)) (fun _ _ _ h => h) (Or.inl ⟨by rfl, ?_⟩) hHeld ?_ ?_
    rotate_left
    · rintro w' ⟨s0, s1, s2, s3⟩
      go_simp
      with_reducible rfl
    rotate_left
    · simp only [Act.put, List.setIfInBounds_toArray, List.set_cons_zero, List.set_cons_succ, i64_w, i32_w]
      rfl
    refine take_ (i := 8) (N := some 16) (v := ?_) (a' := ?_) #[true, true, true, true, true, true, true, true, true, false, true, true, true, false, true, false, false, false, false] rfl rfl (take_ofW HT_.out HW_.out (by kernel_rfl)) (fun _ _ _ h => h) (Or.inl ⟨by rfl, ?_⟩) hHeld ?_ ?_
    rotate_left
    · rintro w' ⟨s0, s1, s2, s3⟩
      go_simp
      with_reducible rfl
    rotate_left
    · simp only [Act.put, List.setIfInBounds_toArray, List.set_cons_zero, List.set_cons_succ, i64_w, i32_w]
      rfl
    refine pure_ (i := 9) (N := some 17) (v := ?_) (a' := ?_) #[true, true, true, true, true, true, true, true, true, true, true, true, true, false, true, false, false, false, false] rfl rfl (any_of HT_.out (by kernel_rfl)) (fun _ _ _ h => h) (Or.inl ⟨by rfl, ?_⟩) ?_ ?_
    rotate_left
    · intro w'
      go_simp
      with_reducible rfl
    rotate_left
    · simp only [Act.put, List.setIfInBounds_toArray, List.set_cons_zero, List.set_cons_succ, i64_w, i32_w]
      rfl
    refine take_ (i := 13) (N := some 21) (v := ?_) (a' := ?_) #[true, true, true, true, true, true, true, true, true, true, true, true, true, true, true, false, false, false, false] rfl rfl (take_ofW HT_.out HW_.out (by kernel_rfl)) (fun _ _ _ h => h) (Or.inl ⟨by rfl, ?_⟩) hHeld ?_ ?_
    rotate_left
    · rintro w' ⟨s0, s1, s2, s3⟩
      go_simp
      with_reducible rfl
    rotate_left
    · simp only [Act.put, List.setIfInBounds_toArray, List.set_cons_zero, List.set_cons_succ, i64_w, i32_w]
      rfl
    refine one_ (i := 15) (N := some 23) #[true, true, true, true, true, true, true, true, true, true, true, true, true, true, true, true, false, false, false] rfl rfl (one_of HT_.out (by kernel_rfl)) (by decide) (fun K hK => ?_)
    refine goes_ Try.func68 (by kernel_rfl) rfl #[ptrV g] (by rfl) rfl rfl (by simp only [List.map_toArray, List.map_cons, List.map_nil]; rfl) ?_
    with_reducible refine (used_calls (H.out.below (below_drew (Below.refl _ _))) HI.out HT.out).mono ?_
    rintro e w3 ⟨rfl, hb3⟩
    refine ⟨_, rfl, ?_⟩
    have hb3' : Below w.heap.size w w3 := ⟨hb3.os, hb3.tape, hb3.output, hb3.size, hb3.block⟩
    have HB3 := Aside0.mk hb3'
    have H3 := Aside0.mk (H.out.below hb3')
    clear hb3
    refine hK.out _ _ ⟨(blk_cell H3.out.blk 0).trans rfl, (blk_cell H3.out.blk 1).trans rfl, (blk_cell H3.out.blk 2).trans rfl, LK.out w3 (hb3'.block nb HO.out.lt) 3⟩ (fun hHeld => ?_)
    clear hK K
    refine norm_ (a' := ?_) ?_ ?_
    rotate_left
    · show Act.put _ (some 23) _ = _
      simp only [Act.put, List.setIfInBounds_toArray, List.set_cons_zero, List.set_cons_succ, i64_w, i32_w]
      rfl
    refine pure_ (i := 16) (N := some 24) (v := ?_) (a' := ?_) #[true, true, true, true, true, true, true, true, true, true, true, true, true, true, true, true, true, false, false] rfl rfl (any_of HT_.out (by kernel_rfl)) (fun _ _ _ h => h) (Or.inl ⟨by rfl, ?_⟩) ?_ ?_
    rotate_left
    · intro w'
      go_simp
      with_reducible rfl
    rotate_left
    · simp only [Act.put, List.setIfInBounds_toArray, List.set_cons_zero, List.set_cons_succ, i64_w, i32_w]
      rfl
    refine pure_ (i := 17) (N := some 2) (v := ?_) (a' := ?_) #[true, true, true, true, true, true, true, true, true, true, true, true, true, true, true, true, true, true, false] rfl rfl (any_of HT_.out (by kernel_rfl)) (fun _ _ _ h => h) (Or.inl ⟨by rfl, ?_⟩) ?_ ?_
    rotate_left
    · intro w'
      go_simp
      with_reducible rfl
    rotate_left
    · simp only [Act.put, List.setIfInBounds_toArray, List.set_cons_zero, List.set_cons_succ, i64_w, i32_w]
      rfl
    refine pure_ (i := 18) (N := some 3) (v := ?_) (a' := ?_) #[true, true, true, true, true, true, true, true, true, true, true, true, true, true, true, true, true, true, true] rfl rfl (any_of HT_.out (by kernel_rfl)) (fun _ _ _ h => h) (Or.inl ⟨by rfl, ?_⟩) ?_ ?_
    rotate_left
    · intro w'
      go_simp
      with_reducible rfl
    rotate_left
    · simp only [Act.put, List.setIfInBounds_toArray, List.set_cons_zero, List.set_cons_succ, i64_w, i32_w]
      rfl
    refine done_ (done_of HT_.out (by kernel_rfl)) ?_
    go_wp2_with fail
    go_ret2
    rw [HR.out]
    refine ⟨?_, HB3.out⟩
    show Ending.returned (.tuple #[.int .i64 (wrap64 (s.names - (s.count : Int))), .int .i64 (wrap64 (s.room - (s.used : Int)))]) = _
    rw [HW1.out, HW2.out]
end
end Go.Proofs.Ytnegcjgolaakcaa

/- DiskRoom, plainly; and how much a script has. -/
namespace Go.Proofs.Ytnegcjgolaakcaa
open Go.RowKit Go.Maps Go.Sort
open Pbulk (S62 k62 z62 rd_T62 at_T62 pupillaw24_bulk.l0 pupillaw24_bulk.f)
set_option linter.unusedVariables false
set_option linter.unusedSimpArgs false
/-- what a call weighs -/
def opW (o : S62) : Nat := o.f3.length + o.f5.length + o.f1.size + o.f2.size
def SzOk (l : List S62) : Prop := l.length ≤ 281474976710656 ∧ ∀ o ∈ l, o.f3.length ≤ 281474976710656 ∧ o.f5.length ≤ 281474976710656 ∧ o.f1.size ≤ 281474976710656 ∧ o.f2.size ≤ 281474976710656
theorem bulk_go (l : List S62) (hz : SzOk l) : ∀ (m i : Nat) (x : Int), i + m = l.length → 0 ≤ x → x ≤ 1407374883553280 → ∃ k r, pupillaw24_bulk.l0 k l x (i : Int) = some r ∧ (r ≤ 200000 → r = x + (((l.drop i).map opW).sum : Nat))
  | 0, i, x, hi, h0, h1 => by
    refine ⟨1, x, ?_, fun _ => ?_⟩
    · unfold pupillaw24_bulk.l0
      rw [if_neg (by omega)]
    · rw [List.drop_of_length_le (by omega)]
      simp
  | m + 1, i, x, hi, h0, h1 => by
    by_cases hx : x ≤ 200000
    · have hil : i < l.length := by omega
      have ho := hz.2 l[i] (List.getElem_mem hil)
      have hrd : rd_T62 l (i : Int) = l[i] := by unfold rd_T62; rw [List.getD_eq_getElem?_getD, Int.toNat_natCast, List.getElem?_eq_getElem hil]; rfl
      have hlen := hz.1
      obtain ⟨k, r, h2, h3⟩ := bulk_go l hz m (i + 1) (x + (opW l[i] : Nat)) (by omega) (by omega) (by unfold opW; omega)
      refine ⟨k + 1, r, ?_, fun hr => ?_⟩
      · unfold pupillaw24_bulk.l0
        rw [if_pos (by omega), if_pos hx, if_pos (by omega), hrd]
        have e1 : wrap64 ((wrap64 ((wrap64 ((wrap64 (x + ((l[i].f3).length : Int))) + ((l[i].f5).length : Int))) + ((l[i].f1).size : Int))) + ((l[i].f2).size : Int)) = x + (opW l[i] : Nat) := by
          rw [IntWalk.wrap64_in (x + ((l[i].f3).length : Int)) (by omega), IntWalk.wrap64_in (x + ((l[i].f3).length : Int) + ((l[i].f5).length : Int)) (by omega), IntWalk.wrap64_in (x + ((l[i].f3).length : Int) + ((l[i].f5).length : Int) + ((l[i].f1).size : Int)) (by omega), IntWalk.wrap64_in _ (by omega)]
          unfold opW
          omega
        have e2 : wrap64 ((i : Int) + 1) = ((i + 1 : Nat) : Int) := by rw [IntWalk.wrap64_in _ (by omega)]; omega
        rw [e1, e2]
        exact h2
      · rw [h3 hr, List.drop_eq_getElem_cons hil, List.map_cons, List.sum_cons]
        omega
    · refine ⟨1, x, ?_, fun hr => absurd hr hx⟩
      unfold pupillaw24_bulk.l0
      rw [if_pos (by omega), if_neg hx]
theorem bulk_some (l : List S62) (hz : SzOk l) : ∃ k r, pupillaw24_bulk.f k l = some r ∧ (r ≤ 200000 → l.length + (l.map opW).sum ≤ 200000) := by
  obtain ⟨k, r, h1, h2⟩ := bulk_go l hz l.length 0 l.length (by omega) (by omega) (by have := hz.1; omega)
  refine ⟨k, r, h1, fun hr => ?_⟩
  have := h2 hr
  rw [List.drop_zero] at this
  omega
theorem opN_bulk (l : List S62) : opN l ≤ 2 * (l.length + (l.map opW).sum) := by
  unfold opN
  induction l with
  | nil => simp
  | cons o l ih =>
    simp only [List.map_cons, List.sum_cons, List.length_cons]
    unfold opW at ih ⊢
    omega
/-- what a call's parts are -/
def OpOk' (o : S62) : Prop := o.f1.size ≤ maxLen ∧ o.f2.size ≤ maxLen ∧ o.f4 ≤ 9223372036854775807 ∧ ∀ x ∈ o.f5, x ≤ 9223372036854775807
theorem ok_of_bulk {l : List S62} (h : ∀ o ∈ l, OpOk' o) (hb : l.length + (l.map opW).sum ≤ 200000) : ∀ o ∈ l, OpOk o := fun o ho => by
  obtain ⟨h1, h2, h3, h4⟩ := h o ho
  have h5 : opW o ≤ (l.map opW).sum := sum_ge (List.mem_map_of_mem ho)
  have h6 : o.f5.length ≤ opW o := by unfold opW; omega
  exact ⟨h1, h2, h3, h4, by omega⟩
section
variable {s : DS} {T : Nat}
/-- how much a name's file has -/
def lenOf (s : DS) (n : ByteArray) : Nat := (s.read n).1.length
theorem len_at (hI : s.Inv T) (ho : s.off = false) {f : PF} (hf : f ∈ s.files) (hn : f.name ≠ nameless) : lenOf s f.name = f.now.length := by
  obtain ⟨i, hi⟩ := List.mem_iff_getElem?.1 hf
  have hnm : namedV f.name = true := (hI.okn f hf).resolve_left hn
  have hL : s.nmL[i]? = some f.name := by unfold DS.nmL; rw [List.getElem?_map, hi]; rfl
  have hfd : s.find f.name = some i := by rw [DS.find_L]; exact idxL_of hI.nmU hL hn
  unfold lenOf DS.read
  rw [hnm, ho, hfd]
  simp [DS.nowAt, hi]
theorem sum_perm {l l' : List Nat} (h : l.Perm l') : l.sum = l'.sum := by
  induction h with
  | nil => rfl
  | cons x _ ih => simp [ih]
  | swap x y l => simp; omega
  | trans _ _ ih1 ih2 => exact ih1.trans ih2
theorem names_perm (s : DS) : ((namesV s).map ofBs).Perm (s.nmL.filter (fun n => n ≠ nameless)) := by
  unfold namesV
  have h := (List.mergeSort_perm ((s.nmL.filter (fun n => n ≠ nameless)).map bsOf) leB).map ofBs
  rw [List.map_map] at h
  have e : (ofBs ∘ bsOf) = id := by funext n; exact ofBs_bsOf n
  rw [e, List.map_id] at h
  exact h
/-- what all that are listed have is what is used -/
theorem list_used (hI : s.Inv T) (ho : s.off = false) : ((listV s).map (lenOf s)).sum = s.used := by
  unfold listV
  rw [ho]
  show (((namesV s).map ofBs).map (lenOf s)).sum = s.used
  rw [sum_perm ((names_perm s).map (lenOf s))]
  unfold DS.used DS.nmL
  rw [List.filter_map, List.map_map]
  congr 1
  refine List.map_congr_left (fun f hf => ?_)
  obtain ⟨h1, h2⟩ := List.mem_filter.1 hf
  exact len_at hI ho h1 (by simpa using h2)
theorem list_len (ho : s.off = false) : (listV s).length = s.count := by
  unfold listV
  rw [ho]
  show ((namesV s).map ofBs).length = _
  rw [List.length_map, names_len]
/-- rising -/
theorem list_lt (hI : s.Inv T) {i : Nat} {a b : ByteArray} (ha : (listV s)[i]? = some a) (hb : (listV s)[i + 1]? = some b) : bsOf a < bsOf b := by
  unfold listV at ha hb
  cases ho : s.off with
  | true => rw [ho] at ha; simp at ha
  | false =>
    rw [ho] at ha hb
    have ha' : ((namesV s).map ofBs)[i]? = some a := ha
    have hb' : ((namesV s).map ofBs)[i + 1]? = some b := hb
    rw [List.getElem?_map] at ha' hb'
    obtain ⟨x, hx, rfl⟩ := Option.map_eq_some_iff.1 ha'
    obtain ⟨y, hy, rfl⟩ := Option.map_eq_some_iff.1 hb'
    rw [bsOf_ofBs, bsOf_ofBs]
    obtain ⟨hx1, hx2⟩ := List.getElem?_eq_some_iff.1 hx
    obtain ⟨hy1, hy2⟩ := List.getElem?_eq_some_iff.1 hy
    have tr : ∀ a b c : List UInt8, leB a b = true → leB b c = true → leB a c = true := fun a b c h1 h2 => by simp only [leB, decide_eq_true_eq] at *; exact List.le_trans h1 h2
    have tot : ∀ a b : List UInt8, (leB a b || leB b a) = true := fun a b => by simp only [leB, Bool.or_eq_true, decide_eq_true_eq]; exact List.le_total a b
    have hs : (namesV s).Pairwise (fun a b => leB a b = true) := List.pairwise_mergeSort tr tot _
    have hle := List.pairwise_iff_getElem.1 hs i (i + 1) hx1 hy1 (by omega)
    rw [hx2, hy2] at hle
    have hnd : (namesV s).Nodup := by
      have h1 := (names_perm s).nodup_iff.2 (UL_nodup hI.nmU)
      refine List.Pairwise.of_map ofBs (fun a b hab e => hab (by rw [e])) h1
    have hne := List.pairwise_iff_getElem.1 hnd i (i + 1) hx1 hy1 (by omega)
    rw [hx2, hy2] at hne
    simp only [leB, decide_eq_true_eq] at hle
    exact Decidable.byContradiction fun h => hne (List.le_antisymm hle (List.not_lt.1 h))
theorem list_size (hI : s.Inv T) {n : ByteArray} (hn : n ∈ listV s) : n.size ≤ 32 := by
  unfold listV at hn
  split at hn
  · cases hn
  · have h1 := (List.mem_filter.1 ((names_perm s).mem_iff.1 hn))
    obtain ⟨f, hf, rfl⟩ := List.mem_map.1 h1.1
    have h2 := (hI.okn f hf).resolve_left (by simpa using h1.2)
    unfold namedV at h2
    simp only [Bool.and_eq_true, decide_eq_true_eq] at h2
    exact h2.2.2
abbrev nFull : ByteArray := ⟨#[122, 122, 46, 102, 117, 108, 108]⟩
abbrev nOver : ByteArray := ⟨#[122, 122, 46, 111, 118, 101, 114]⟩
/-- behind a fuse that is far -/
def farS (s : DS) : DS := (s.fuse 1099511627776).2
theorem far_eq (ho : s.off = false) : s.fuse 1099511627776 = (0, { s with left := 1099511627776, off := false }) := by
  unfold DS.fuse
  rw [if_neg (by decide), ho]
  rfl
theorem full_step {n : ByteArray} (hn : namedV n = true) (ho : s.off = false) (kind : Int) (b : List Int) (hw : s.wantN n > s.names ∨ s.wantB kind n b > s.room) : s.step [n] (fun s => s.put kind n b) = (62, s) := by
  have e : s.put kind n b = (62, s) := by unfold DS.put; rw [if_pos hw]
  unfold DS.step
  rw [show ([n].all namedV) = true by simp [hn], ho]
  show (if (s.put kind n b).1 = 0 then (0, (s.put kind n b).2.tick) else s.put kind n b) = _
  rw [e]
  rfl
theorem want_N (s : DS) (n : ByteArray) : (s.count : Int) ≤ s.wantN n := by
  unfold DS.wantN
  split <;> omega
theorem want_B2 (s : DS) (n : ByteArray) (b : List Int) : s.wantB 2 n b = s.used + b.length := by
  unfold DS.wantB
  split
  · rw [if_neg (by decide)]; omega
  · omega
theorem now_used {i : Nat} {f : PF} (hi : s.files[i]? = some f) (hn : f.name ≠ nameless) : f.now.length ≤ s.used := by
  unfold DS.used
  exact sum_ge (List.mem_map_of_mem (f := fun f : PF => f.now.length) (List.mem_filter.2 ⟨List.mem_of_getElem? hi, by simpa using hn⟩))
theorem want_B1 (s : DS) {n : ByteArray} (hn : n ≠ nameless) (b : List Int) : (b.length : Int) ≤ s.wantB 1 n b := by
  unfold DS.wantB
  cases hf : s.find n with
  | none => show (b.length : Int) ≤ (s.used : Int) + b.length - 0; omega
  | some i =>
    obtain ⟨f, hfi, hfn, _⟩ := spot_find hf
    have h1 := now_used hfi (by rw [hfn]; exact hn)
    show (b.length : Int) ≤ (s.used : Int) + b.length - (if (1 : Int) = 1 then ((s.nowAt i).length : Int) else 0)
    rw [if_pos rfl]
    unfold DS.nowAt
    rw [hfi]
    show (b.length : Int) ≤ (s.used : Int) + b.length - (f.now.length : Int)
    omega
end
end Go.Proofs.Ytnegcjgolaakcaa

/- DiskRoom: the law's walk. -/
namespace Go.Proofs.Ytnegcjgolaakcaa
open Go.RowKit Go.Maps Go.Sort
open Go.Proofs.YtnegcjgolaakcaaW.PrintWords Go.Proofs.YtnegcjgolaakcaaW.PrintLast Go.Proofs.YtnegcjgolaakcaaW.PrintMore
open Pbulk (S62 k62 z62 rd_T62 at_T62)
set_option linter.unusedVariables false
set_option linter.unusedSimpArgs false
section
variable {w w1 w' : World} {g B T T' : Nat} {s s' : DS}
theorem lw_list (h : Lw B T w g s) : Calls Try.prog 29 #[ptrV g] w fun e w' => ∃ A c, e = .returned (.slice A (listV s).length c) ∧ Kd.string.R 9 w' w.heap.size (fun _ => True) (.slice A (listV s).length c) (listV s) ∧ Below w.heap.size w w' := by
  obtain ⟨⟨base, ok, nb, fb, v, ad, h1, h2⟩, h3, h4⟩ := h
  exact list_calls h2 h3 h4
theorem lw_free (h : Lw B T w g s) : Calls Try.prog 37 #[ptrV g] w fun e w' => e = .returned (.tuple #[.int .i64 s.Free.1, .int .i64 s.Free.2]) ∧ Below w.heap.size w w' := by
  obtain ⟨⟨base, ok, nb, fb, v, ad, h1, h2⟩, h3, h4⟩ := h
  exact free_calls h2 h3 h4
/-- how much room there is does not turn -/
def SameR (s s' : DS) : Prop := s'.names = s.names ∧ s'.room = s.room
theorem same_step {ns : List ByteArray} {act : DS → Int × DS} (h : SameR s (act s).2) : SameR s (s.step ns act).2 := by
  unfold DS.step
  split
  · split
    · exact ⟨rfl, rfl⟩
    · split
      · show SameR s (act s).2.tick
        unfold DS.tick
        split
        · exact h
        · exact h
      · exact h
  · exact ⟨rfl, rfl⟩
theorem same_put (kind : Int) (n : ByteArray) (b : List Int) : SameR s (s.put kind n b).2 := by
  unfold DS.put
  split
  · exact ⟨rfl, rfl⟩
  · show SameR s (s.fresh n)
    unfold DS.fresh
    split <;> exact ⟨rfl, rfl⟩
theorem same_settle (is : PW → Bool) : SameR s (s.settle is) := ⟨(fold_head _ s).2.2.1, (fold_head _ s).2.2.2⟩
theorem same_op (o : S62) : SameR s (opS s o) := by
  unfold opS
  split
  · exact same_step (same_put 1 _ _)
  split
  · exact same_step (same_put 2 _ _)
  split
  · refine same_step ?_
    unfold DS.flush
    split
    · exact same_settle _
    · exact ⟨rfl, rfl⟩
  split
  · refine same_step ?_
    unfold DS.rename
    cases s.find o.f1 with
    | none => exact ⟨rfl, rfl⟩
    | some i =>
      dsimp only
      split
      · exact ⟨rfl, rfl⟩
      · show SameR s (s.give i o.f2)
        rw [DS.give_head]
        exact ⟨rfl, rfl⟩
  split
  · refine same_step ?_
    unfold DS.remove
    split <;> exact ⟨rfl, rfl⟩
  split
  · exact same_step (same_settle _)
  split
  · unfold DS.fuse
    split
    · exact ⟨rfl, rfl⟩
    · split <;> exact ⟨rfl, rfl⟩
  split
  · exact ⟨rfl, rfl⟩
  · exact ⟨rfl, rfl⟩
theorem told_head : ∀ (l : List S62) (s : DS), SameR s (toldS s l)
  | [], s => ⟨rfl, rfl⟩
  | o :: l, s => by
    have h1 := same_op (s := s) o
    have h2 := told_head l (opS s o)
    exact ⟨h2.1.trans h1.1, h2.2.trans h1.2⟩
theorem drawn_below {w w' : World} (h : Drawn0 w w') : Below w.heap.size w w' := by
  obtain ⟨n, rfl⟩ := h.out
  exact pw_below_drewN (Below.refl _ _) n
theorem sum_next (s : DS) {L : List ByteArray} {i : Nat} {n : ByteArray} (h : L[i]? = some n) : ((L.take (i + 1)).map (lenOf s)).sum = ((L.take i).map (lenOf s)).sum + lenOf s n := by
  obtain ⟨hl, rfl⟩ := List.getElem?_eq_some_iff.1 h
  rw [List.take_succ_eq_append_getElem hl, List.map_append, List.sum_append]
  simp
theorem sum_take (f : ByteArray → Nat) (L : List ByteArray) (i : Nat) : ((L.take i).map f).sum ≤ (L.map f).sum := by
  conv => rhs; rw [← List.take_append_drop i L]
  rw [List.map_append, List.sum_append]
  omega
end
def F10RT15 : Bool × List (List Nat × List Nat) := (true, [([], []), ([0], [0]), ([1], [1]), ([2], [2]), ([2], [2]), ([4, 2], [2, 4]), ([3, 5, 2], [2, 3, 5]), ([6, 2], [2, 6]), ([2], [2]), ([2], [2]), ([8, 9, 2], [2, 8, 9]), ([10, 2], [2, 10]), ([7, 11, 2], [2, 7, 11]), ([2, 12], [2, 12])])
def F10RB15 : List Nat := [0, 1, 3, 7, 7, 23, 63, 127, 7, 7, 775, 1799, 4095, 8191]
theorem F10Rtab15 : rtab .any (opsOf Try.f10 15) = F10RT15 := by kernel_rfl
theorem F10Rbits15 : waitsOk F10RT15.2 F10RB15 = true := by kernel_rfl
set_option maxHeartbeats 4000000 in
set_option maxRecDepth 100000 in
theorem room_walk (x y : Int) (l : List S62) (A : Option Addr) (c : Nat) (w : World) (hC : Kd.C k62 w A l.length l) (hc : l.length ≤ c) (hz : SzOk l) (hl : ∀ o ∈ l, OpOk' o) :
    Calls Try.prog 10 #[.int .i64 x, .int .i64 y, .slice A l.length c] w fun e w' => e = .returned (.bool true) ∧ Below w.heap.size w w' := by
  have HC := Aside0.mk hC
  have HCC := Aside0.mk hc
  have HZ := Aside0.mk hz
  have HL := Aside0.mk hl
  clear hC hc hz hl
  go_enter Try.func10, Try.ntmps10
  go_wp2_with fail
  cases hg : goodNew x y with
  | false =>
    refine (new_bad x y w hg).mono ?_
    rintro e w1 ⟨rfl, hb⟩
    have HB1 := Aside0.mk hb
    clear hb hg
    go_wp2_with fail
    refine (alive_calls w1).mono ?_
    rintro e w2 ⟨rfl, hb⟩
    have HB2 := Aside0.mk (HB1.out.trans (hb.mono HB1.out.size))
    clear hb
    go_wp2_with fail
    go_ret
    exact ⟨rfl, HB2.out⟩
  | true =>
    refine (lw_new x y w hg).mono ?_
    rintro e w1 ⟨g, rfl, hd, hb⟩
    have HG := Aside0.mk hg
    have H1 := Aside0.mk hd
    have HB1 := Aside0.mk hb
    obtain ⟨k, r, hk, hr⟩ := bulk_some l HZ.out
    have HK := Aside0.mk hk
    have HR := Aside0.mk hr
    clear hd hb hg hk hr
    go_wp2_with fail
    refine (Pbulk.pupillaw24_bulk.calls k A c l r w1 (Kd.C_below HC.out HB1.out) HCC.out HK.out).mono ?_
    rintro e w2 ⟨rfl, hdr⟩
    have hb2 := drawn_below hdr
    have H2 := Aside0.mk (H1.out.below hb2)
    have HB2 := Aside0.mk (HB1.out.trans (hb2.mono HB1.out.size))
    clear hdr hb2 H1 HB1
    by_cases hr2 : 200000 < r
    · have d1 : decide (200000 < r) = true := decide_eq_true hr2
      clear hr2
      go_wp2_with fail
      refine (alive_calls w2).mono ?_
      rintro e w3 ⟨rfl, hb⟩
      have HB3 := Aside0.mk (HB2.out.trans (hb.mono HB2.out.size))
      clear hb
      go_wp2_with fail
      go_ret
      exact ⟨rfl, HB3.out⟩
    have d1 : decide (200000 < r) = false := decide_eq_false hr2
    have HNB : Aside0 (opN l ≤ 400000) := ⟨by have h1 := HR.out (by omega); have h2 := opN_bulk l; omega⟩
    have HOK := Aside0.mk (ok_of_bulk HL.out (HR.out (by omega)))
    clear hr2
    go_wp2_with fail
    refine (told_calls l A c H2.out (fun W' hW => Kd.C_below HC.out (HB2.out.trans hW)) HOK.out (by have := HNB.out; omega)).mono ?_
    rintro e w3 ⟨rfl, hd, hb⟩
    have HSR := Aside0.mk (told_head l (DS.new x y))
    generalize toldS (DS.new x y) l = S at *
    have H3 := Aside0.mk (hd.more (T' := 400000) (by have := HNB.out; omega) (by decide))
    have HB3 := Aside0.mk (HB2.out.trans hb)
    have HNM : Aside0 (S.names = x ∧ S.room = y ∧ 1 ≤ x ∧ x ≤ 64 ∧ 0 ≤ y ∧ y ≤ 4194304) := ⟨by
      have h1 := HG.out
      simp only [goodNew, Bool.and_eq_true, decide_eq_true_eq] at h1
      exact ⟨HSR.out.1, HSR.out.2, by omega⟩⟩
    clear hd hb H2 HB2 d1 HK HR HSR HG HNB HOK
    go_wp2_with fail
    refine (lw_free H3.out).mono ?_
    rintro e w4 ⟨rfl, hb⟩
    have H4 := Aside0.mk (H3.out.below hb)
    have HB4 := Aside0.mk (HB3.out.trans (hb.mono HB3.out.size))
    clear hb H3 HB3
    go_wp2_with fail
    refine (lw_on H4.out).mono ?_
    rintro e w5 ⟨rfl, hw5⟩
    have hw5' := hw5.symm
    subst hw5'
    clear hw5
    cases ho : S.off with
    | true =>
      have hfr : S.Free = (0, 0) := by unfold DS.Free; rw [ho]; rfl
      have HLN : Aside0 ((listV S).length = 0) := ⟨by unfold listV; rw [ho]; rfl⟩
      rw [hfr]
      clear ho hfr
      go_wp2_with fail
      refine (lw_list H4.out).mono ?_
      rintro e w6 ⟨A6, c6, rfl, _, hb⟩
      rw [HLN.out]
      have HB6 := Aside0.mk (HB4.out.trans (hb.mono HB4.out.size))
      clear hb
      go_wp2_with fail
      refine (alive_calls w6).mono ?_
      rintro e w7 ⟨rfl, hb⟩
      have HB7 := Aside0.mk (HB6.out.trans (hb.mono HB6.out.size))
      clear hb
      go_wp2_with fail
      go_ret
      exact ⟨rfl, HB7.out⟩
    | false =>
      have HO := Aside0.mk ho
      have hfr : S.Free = (x - (S.count : Int), y - (S.used : Int)) := by unfold DS.Free; rw [ho, HNM.out.1, HNM.out.2.1]; rfl
      have HFR := Aside0.mk hfr
      rw [hfr]
      clear hfr ho
      go_wp2_with fail
      refine (lw_list H4.out).mono ?_
      rintro e w6 ⟨A6, c6, rfl, hR6, hb⟩
      have HC6 := Aside0.mk (Kd.R_reads' hR6).2.2
      have H6 := Aside0.mk (H4.out.below hb)
      have HB6 := Aside0.mk (HB4.out.trans (hb.mono HB4.out.size))
      have HLU := Aside0.mk (list_used H4.out.2.1 HO.out)
      have HLN := Aside0.mk (list_len HO.out)
      have HLT := Aside0.mk (fun (i : Nat) (a b : ByteArray) ha hb => list_lt H4.out.2.1 (i := i) (a := a) (b := b) ha hb)
      have HLS := Aside0.mk (fun (n : ByteArray) hn => list_size H4.out.2.1 (n := n) hn)
      have HUS : Aside0 (S.used ≤ 400000 ∧ S.count ≤ 400000) := ⟨by have h1 := used_le S; have h2 := H4.out.2.1.now; have h3 := count_le S; have h4 := H4.out.2.1.lf; omega⟩
      generalize listV S = L at *
      clear hR6 hb H4 HB4
      go_wp2_with fail
      go_loopg [12, 13] L.length (fun kq v12 v13 w' => ∃ (i t : Nat), v13 = .int .i64 i ∧ v12 = .int .i64 t ∧ Aside0 (i + kq = L.length ∧ t = ((L.take i).map (lenOf S)).sum) ∧ Aside0 (Lw w.heap.size 400000 w' g S) ∧ Aside0 (Kd.string.C w' A6 L.length L) ∧ Aside0 (Below w.heap.size w w'))
      case atStart => exact ⟨0, 0, rfl, rfl, ⟨by omega, rfl⟩, H6, HC6, HB6⟩
      case round =>
        clear H6 HC6 HB6
        obtain ⟨i, t, rfl, rfl, HI, H6, HC6, HB6⟩ := hrel
        by_cases hlt : i < L.length
        · have d6 : decide ((i : Int) < (L.length : Int)) = true := decide_eq_true (by omega)
          have d7 : decide (i < L.length) = true := decide_eq_true hlt
          have j0 : (0 : Int) ≤ (i : Int) := by omega
          have j1 : (i : Int) < (L.length : Int) := by omega
          obtain ⟨ad2, hli, hA0, k0⟩ := at_S HC6.out i hlt
          subst hA0
          have HAT := Aside0.mk (List.getElem?_eq_getElem hli)
          generalize L[i] = n at k0 HAT
          have HNX := Aside0.mk (sum_next S HAT.out)
          have HTK := Aside0.mk (sum_take (lenOf S) L (i + 1))
          have HLTI := Aside0.mk hlt
          clear hli hlt
          go_wp2_with fail
          refine (lw_read n H6.out (by have := HLS.out n (List.mem_of_getElem? HAT.out); simp only [maxLen]; omega)).mono ?_
          rintro e w7 ⟨vb, rfl, hR, hb⟩
          obtain ⟨A7, c7, rfl⟩ := Kd.R_slice hR
          have H7 := Aside0.mk (H6.out.below hb)
          have HC7 := Aside0.mk (Kd.C_below HC6.out hb)
          have HB7 := Aside0.mk (HB6.out.trans (hb.mono HB6.out.size))
          obtain ⟨m, hm⟩ : ∃ m, m = lenOf S n := ⟨_, rfl⟩
          have HM := Aside0.mk hm
          rw [show (S.read n).1.length = m from hm.symm]
          clear hR hb hm H6 HC6 HB6 k0
          have HTT : Aside0 (wrap64 ((t : Int) + (m : Int)) = ((t + m : Nat) : Int) ∧ t + m = ((L.take (i + 1)).map (lenOf S)).sum) := ⟨by
            have h1 := HTK.out
            have h2 := HNX.out
            have h3 := HI.out.2
            have h4 := HM.out
            have h5 := HLU.out
            have h6 := HUS.out.1
            refine ⟨?_, by omega⟩
            rw [IntWalk.wrap64_in _ (by omega)]
            omega⟩
          by_cases hi0 : i = 0
          · have d9 : decide (0 < (i : Int)) = false := decide_eq_false (by omega)
            have d9' : decide (0 < i) = false := decide_eq_false (by omega)
            clear hi0
            go_upto_region 15 with fail
            refine start_ (n := 14) (S := fun w' => True) (ds := []) #[false, false, false, false, false, false, false, false, false, false, false, false, false, false] (by kernel_rfl) rfl rfl trivial (fun hHeld => ?_)
            refine with_tabW F10Rtab15 F10Rbits15 (fun HT_ HW_ => ?_)
            refine pure_ (i := 0) (N := some 83) (v := ?_) (a' := ?_) #[true, false, false, false, false, false, false, false, false, false, false, false, false, false] rfl rfl (any_of HT_.out (by kernel_rfl)) (fun _ _ _ h => h) (Or.inl ⟨by rfl, ?_⟩) ?_ ?_
            rotate_left
            · intro w'
              go_simp
              with_reducible rfl
            rotate_left
            · simp only [Act.put, List.setIfInBounds_toArray, List.set_cons_zero, List.set_cons_succ, i64_w, i32_w]
              rfl
            refine pure_ (i := 1) (N := some 84) (v := ?_) (a' := ?_) #[true, true, false, false, false, false, false, false, false, false, false, false, false, false] rfl rfl (any_of HT_.out (by kernel_rfl)) (fun _ _ _ h => h) (Or.inl ⟨by rfl, ?_⟩) ?_ ?_
            rotate_left
            · intro w'
              go_simp
              with_reducible rfl
            rotate_left
            · simp only [Act.put, List.setIfInBounds_toArray, List.set_cons_zero, List.set_cons_succ, i64_w, i32_w]
              rfl
            refine pure_ (i := 2) (N := some 85) (v := ?_) (a' := ?_) #[true, true, true, false, false, false, false, false, false, false, false, false, false, false] rfl rfl (any_of HT_.out (by kernel_rfl)) (fun _ _ _ h => h) (Or.inl ⟨by rfl, ?_⟩) ?_ ?_
            rotate_left
            · intro w'
              go_simp
              with_reducible rfl
            rotate_left
            · simp only [Act.put, List.setIfInBounds_toArray, List.set_cons_zero, List.set_cons_succ, i64_w, i32_w]
              rfl
            refine pure_ (i := 3) (N := some 86) (v := undef) (a' := ?_) #[true, true, true, true, false, false, false, false, false, false, false, false, false, false] rfl rfl (any_of HT_.out (by kernel_rfl)) (fun _ _ _ h => h) (Or.inr ⟨by rfl, rfl⟩) ?_ ?_
            rotate_left
            · simp only [Act.put, List.setIfInBounds_toArray, List.set_cons_zero, List.set_cons_succ, i64_w, i32_w]
              rfl
            refine pure_ (i := 4) (N := some 87) (v := undef) (a' := ?_) #[true, true, true, true, true, false, false, false, false, false, false, false, false, false] rfl rfl (any_of HT_.out (by kernel_rfl)) (fun _ _ _ h => h) (Or.inr ⟨by rfl, rfl⟩) ?_ ?_
            rotate_left
            · simp only [Act.put, List.setIfInBounds_toArray, List.set_cons_zero, List.set_cons_succ, i64_w, i32_w]
              rfl
            refine pure_ (i := 5) (N := some 88) (v := undef) (a' := ?_) #[true, true, true, true, true, true, false, false, false, false, false, false, false, false] rfl rfl (any_of HT_.out (by kernel_rfl)) (fun _ _ _ h => h) (Or.inr ⟨by rfl, rfl⟩) ?_ ?_
            rotate_left
            · simp only [Act.put, List.setIfInBounds_toArray, List.set_cons_zero, List.set_cons_succ, i64_w, i32_w]
              rfl
            refine pure_ (i := 6) (N := some 89) (v := undef) (a' := ?_) #[true, true, true, true, true, true, true, false, false, false, false, false, false, false] rfl rfl (any_of HT_.out (by kernel_rfl)) (fun _ _ _ h => h) (Or.inr ⟨by rfl, rfl⟩) ?_ ?_
            rotate_left
            · simp only [Act.put, List.setIfInBounds_toArray, List.set_cons_zero, List.set_cons_succ, i64_w, i32_w]
              rfl
            refine pure_ (i := 7) (N := some 90) (v := undef) (a' := ?_) #[true, true, true, true, true, true, true, true, false, false, false, false, false, false] rfl rfl (any_of HT_.out (by kernel_rfl)) (fun _ _ _ h => h) (Or.inr ⟨by rfl, rfl⟩) ?_ ?_
            rotate_left
            · simp only [Act.put, List.setIfInBounds_toArray, List.set_cons_zero, List.set_cons_succ, i64_w, i32_w]
              rfl
            refine pure_ (i := 8) (N := some 91) (v := undef) (a' := ?_) #[true, true, true, true, true, true, true, true, true, false, false, false, false, false] rfl rfl (any_of HT_.out (by kernel_rfl)) (fun _ _ _ h => h) (Or.inr ⟨by rfl, rfl⟩) ?_ ?_
            rotate_left
            · simp only [Act.put, List.setIfInBounds_toArray, List.set_cons_zero, List.set_cons_succ, i64_w, i32_w]
              rfl
            refine pure_ (i := 9) (N := some 92) (v := undef) (a' := ?_) #[true, true, true, true, true, true, true, true, true, true, false, false, false, false] rfl rfl (any_of HT_.out (by kernel_rfl)) (fun _ _ _ h => h) (Or.inr ⟨by rfl, rfl⟩) ?_ ?_
            rotate_left
            · simp only [Act.put, List.setIfInBounds_toArray, List.set_cons_zero, List.set_cons_succ, i64_w, i32_w]
              rfl
            refine pure_ (i := 10) (N := some 93) (v := undef) (a' := ?_) #[true, true, true, true, true, true, true, true, true, true, true, false, false, false] rfl rfl (any_of HT_.out (by kernel_rfl)) (fun _ _ _ h => h) (Or.inr ⟨by rfl, rfl⟩) ?_ ?_
            rotate_left
            · simp only [Act.put, List.setIfInBounds_toArray, List.set_cons_zero, List.set_cons_succ, i64_w, i32_w]
              rfl
            refine pure_ (i := 11) (N := some 94) (v := undef) (a' := ?_) #[true, true, true, true, true, true, true, true, true, true, true, true, false, false] rfl rfl (any_of HT_.out (by kernel_rfl)) (fun _ _ _ h => h) (Or.inr ⟨by rfl, rfl⟩) ?_ ?_
            rotate_left
            · simp only [Act.put, List.setIfInBounds_toArray, List.set_cons_zero, List.set_cons_succ, i64_w, i32_w]
              rfl
            refine pure_ (i := 12) (N := some 95) (v := undef) (a' := ?_) #[true, true, true, true, true, true, true, true, true, true, true, true, true, false] rfl rfl (any_of HT_.out (by kernel_rfl)) (fun _ _ _ h => h) (Or.inr ⟨by rfl, rfl⟩) ?_ ?_
            rotate_left
            · simp only [Act.put, List.setIfInBounds_toArray, List.set_cons_zero, List.set_cons_succ, i64_w, i32_w]
              rfl
            refine pure_ (i := 13) (N := some 96) (v := ?_) (a' := ?_) #[true, true, true, true, true, true, true, true, true, true, true, true, true, true] rfl rfl (any_of HT_.out (by kernel_rfl)) (fun _ _ _ h => h) (Or.inl ⟨by rfl, ?_⟩) ?_ ?_
            rotate_left
            · intro w'
              go_simp
              with_reducible rfl
            rotate_left
            · simp only [Act.put, List.setIfInBounds_toArray, List.set_cons_zero, List.set_cons_succ, i64_w, i32_w]
              rfl
            refine done_ (done_of HT_.out (by kernel_rfl)) ?_
            have H8 := Aside0.mk (H7.out.below (w' := w7.drew) (below_drew (Below.refl _ _)))
            have HC8 := Aside0.mk (Kd.C_below HC7.out (w1 := w7.drew) (below_drew (Below.refl _ _)))
            have HB8 := Aside0.mk (show Below w.heap.size w w7.drew from HB7.out.drew)
            generalize w7.drew = w8 at *
            go_wp2_with fail
            go_roundg (gk - 1)
            case measure => have := HI.out.1; have := HLTI.out; omega
            case rel => exact ⟨i + 1, t + m, next_i6 (by have := HLTI.out; have := HLN.out; have := HUS.out.2; omega), by rw [HTT.out.1], ⟨by have := HI.out.1; have := HLTI.out; omega, HTT.out.2⟩, H8, HC8, HB8⟩
          · have d9 : decide (0 < (i : Int)) = true := decide_eq_true (by omega)
            have d9' : decide (0 < i) = true := decide_eq_true (by omega)
            obtain ⟨j, hj⟩ : ∃ j, i = j + 1 := ⟨i - 1, by omega⟩
            have hs : wrap64 ((i : Int) - 1) = (j : Int) := by rw [IntWalk.wrap64_in _ (by have := HLTI.out; have := HLN.out; have := HUS.out.2; omega)]; omega
            have p0 : (0 : Int) ≤ (j : Int) := by omega
            have p1 : (j : Int) < (L.length : Int) := by omega
            have p2 : 0 ≤ wrap64 ((i : Int) - 1) := by rw [hs]; exact p0
            have p3 : wrap64 ((i : Int) - 1) < (L.length : Int) := by rw [hs]; exact p1
            obtain ⟨ad3, hlj, hA3, k1⟩ := at_S HC7.out j (by omega)
            obtain ⟨ad4, hli4, hA4, k2⟩ := at_S HC7.out i HLTI.out
            cases hA3
            cases hA4
            have hn4 : L[i] = n := by have h := HAT.out; rw [List.getElem?_eq_getElem hli4] at h; exact Option.some.inj h
            rw [hn4] at k2
            have hlt9 := HLT.out j L[j] n (List.getElem?_eq_getElem hlj) (by rw [← hj]; exact HAT.out)
            generalize L[j] = n1 at k1 hlt9
            have hless : Op.bytesLess n1.toList n.toList = true := by rw [bytesLess_eq, ByteArray.toList_eq, ByteArray.toList_eq]; exact decide_eq_true hlt9
            clear hi0 hlj hli4 hn4 hlt9 hj
            go_upto_region 15 with fail
            refine start_ (n := 14) (S := fun w' => w'.cell? (ad2.add j) = some (.string n1) ∧ w'.cell? (ad2.add i) = some (.string n)) (ds := []) #[false, false, false, false, false, false, false, false, false, false, false, false, false, false] (by kernel_rfl) rfl rfl ⟨k1, k2⟩ (fun hHeld => ?_)
            refine with_tabW F10Rtab15 F10Rbits15 (fun HT_ HW_ => ?_)
            refine pure_ (i := 0) (N := some 83) (v := ?_) (a' := ?_) #[true, false, false, false, false, false, false, false, false, false, false, false, false, false] rfl rfl (any_of HT_.out (by kernel_rfl)) (fun _ _ _ h => h) (Or.inl ⟨by rfl, ?_⟩) ?_ ?_
            rotate_left
            · intro w'
              go_simp
              with_reducible rfl
            rotate_left
            · simp only [Act.put, List.setIfInBounds_toArray, List.set_cons_zero, List.set_cons_succ, i64_w, i32_w]
              rfl
            refine pure_ (i := 1) (N := some 84) (v := ?_) (a' := ?_) #[true, true, false, false, false, false, false, false, false, false, false, false, false, false] rfl rfl (any_of HT_.out (by kernel_rfl)) (fun _ _ _ h => h) (Or.inl ⟨by rfl, ?_⟩) ?_ ?_
            rotate_left
            · intro w'
              go_simp
              with_reducible rfl
            rotate_left
            · simp only [Act.put, List.setIfInBounds_toArray, List.set_cons_zero, List.set_cons_succ, i64_w, i32_w]
              rfl
            refine pure_ (i := 2) (N := some 85) (v := ?_) (a' := ?_) #[true, true, true, false, false, false, false, false, false, false, false, false, false, false] rfl rfl (any_of HT_.out (by kernel_rfl)) (fun _ _ _ h => h) (Or.inl ⟨by rfl, ?_⟩) ?_ ?_
            rotate_left
            · intro w'
              go_simp
              with_reducible rfl
            rotate_left
            · simp only [Act.put, List.setIfInBounds_toArray, List.set_cons_zero, List.set_cons_succ, i64_w, i32_w]
              rfl
            refine pure_ (i := 3) (N := some 86) (v := ?_) (a' := ?_) #[true, true, true, true, false, false, false, false, false, false, false, false, false, false] rfl rfl (any_of HT_.out (by kernel_rfl)) (fun _ _ _ h => h) (Or.inl ⟨by rfl, ?_⟩) ?_ ?_
            rotate_left
            · intro w'
              go_simp
              with_reducible rfl
            rotate_left
            · simp only [Act.put, List.setIfInBounds_toArray, List.set_cons_zero, List.set_cons_succ, i64_w, i32_w]
              rfl
            refine pure_ (i := 4) (N := some 87) (v := ?_) (a' := ?_) #[true, true, true, true, true, false, false, false, false, false, false, false, false, false] rfl rfl (any_of HT_.out (by kernel_rfl)) (fun _ _ _ h => h) (Or.inl ⟨by rfl, ?_⟩) ?_ ?_
            rotate_left
            · intro w'
              go_simp
              with_reducible rfl
            rotate_left
            · simp only [Act.put, List.setIfInBounds_toArray, List.set_cons_zero, List.set_cons_succ, i64_w, i32_w]
              rfl
            refine pure_ (i := 5) (N := some 88) (v := ?_) (a' := ?_) #[true, true, true, true, true, true, false, false, false, false, false, false, false, false] rfl rfl (any_of HT_.out (by kernel_rfl)) (fun _ _ _ h => h) (Or.inl ⟨by rfl, ?_⟩) ?_ ?_
            rotate_left
            · intro w'
              go_simp
              with_reducible rfl
            rotate_left
            · simp only [Act.put, List.setIfInBounds_toArray, List.set_cons_zero, List.set_cons_succ, i64_w, i32_w]
              rfl
            refine pure_ (i := 6) (N := some 89) (v := ?_) (a' := ?_) #[true, true, true, true, true, true, true, false, false, false, false, false, false, false] rfl rfl (any_of HT_.out (by kernel_rfl)) (fun _ _ _ h => h) (Or.inl ⟨by rfl, ?_⟩) ?_ ?_
            rotate_left
            · intro w'
              go_simp
              with_reducible rfl
            rotate_left
            · simp only [Act.put, List.setIfInBounds_toArray, List.set_cons_zero, List.set_cons_succ, i64_w, i32_w]
              rfl
            refine pure_ (i := 8) (N := some 91) (v := ?_) (a' := ?_) #[true, true, true, true, true, true, true, false, true, false, false, false, false, false] rfl rfl (any_of HT_.out (by kernel_rfl)) (fun _ _ _ h => h) (Or.inl ⟨by rfl, ?_⟩) ?_ ?_
            rotate_left
            · intro w'
              go_simp
              with_reducible rfl
            rotate_left
            · simp only [Act.put, List.setIfInBounds_toArray, List.set_cons_zero, List.set_cons_succ, i64_w, i32_w]
              rfl
            refine pure_ (i := 9) (N := some 92) (v := ?_) (a' := ?_) #[true, true, true, true, true, true, true, false, true, true, false, false, false, false] rfl rfl (any_of HT_.out (by kernel_rfl)) (fun _ _ _ h => h) (Or.inl ⟨by rfl, ?_⟩) ?_ ?_
            rotate_left
            · intro w'
              go_simp
              with_reducible rfl
            rotate_left
            · simp only [Act.put, List.setIfInBounds_toArray, List.set_cons_zero, List.set_cons_succ, i64_w, i32_w]
              rfl
            refine pure_ (i := 10) (N := some 93) (v := ?_) (a' := ?_) #[true, true, true, true, true, true, true, false, true, true, true, false, false, false] rfl rfl (any_of HT_.out (by kernel_rfl)) (fun _ _ _ h => h) (Or.inl ⟨by rfl, ?_⟩) ?_ ?_
            rotate_left
            · intro w'
              go_simp
              with_reducible rfl
            rotate_left
            · simp only [Act.put, List.setIfInBounds_toArray, List.set_cons_zero, List.set_cons_succ, i64_w, i32_w]
              rfl
            refine take_ (i := 7) (N := some 90) (v := ?_) (a' := ?_) #[true, true, true, true, true, true, true, true, true, true, true, false, false, false] rfl rfl (take_ofW HT_.out HW_.out (by kernel_rfl)) (fun _ _ _ h => h) (Or.inl ⟨by rfl, ?_⟩) hHeld ?_ ?_
            rotate_left
            · rintro w' ⟨s0, s1⟩
              go_simp
              with_reducible rfl
            rotate_left
            · simp only [Act.put, List.setIfInBounds_toArray, List.set_cons_zero, List.set_cons_succ, i64_w, i32_w]
              rfl
            refine take_ (i := 11) (N := some 94) (v := ?_) (a' := ?_) #[true, true, true, true, true, true, true, true, true, true, true, true, false, false] rfl rfl (take_ofW HT_.out HW_.out (by kernel_rfl)) (fun _ _ _ h => h) (Or.inl ⟨by rfl, ?_⟩) hHeld ?_ ?_
            rotate_left
            · rintro w' ⟨s0, s1⟩
              go_simp
              with_reducible rfl
            rotate_left
            · simp only [Act.put, List.setIfInBounds_toArray, List.set_cons_zero, List.set_cons_succ, i64_w, i32_w]
              rfl
            refine pure_ (i := 12) (N := some 95) (v := ?_) (a' := ?_) #[true, true, true, true, true, true, true, true, true, true, true, true, true, false] rfl rfl (any_of HT_.out (by kernel_rfl)) (fun _ _ _ h => h) (Or.inl ⟨by rfl, ?_⟩) ?_ ?_
            rotate_left
            · intro w'
              go_simp
              with_reducible rfl
            rotate_left
            · simp only [Act.put, List.setIfInBounds_toArray, List.set_cons_zero, List.set_cons_succ, i64_w, i32_w]
              rfl
            refine pure_ (i := 13) (N := some 96) (v := ?_) (a' := ?_) #[true, true, true, true, true, true, true, true, true, true, true, true, true, true] rfl rfl (any_of HT_.out (by kernel_rfl)) (fun _ _ _ h => h) (Or.inl ⟨by rfl, ?_⟩) ?_ ?_
            rotate_left
            · intro w'
              go_simp
              with_reducible rfl
            rotate_left
            · simp only [Act.put, List.setIfInBounds_toArray, List.set_cons_zero, List.set_cons_succ, i64_w, i32_w]
              rfl
            refine done_ (done_of HT_.out (by kernel_rfl)) ?_
            have H8 := Aside0.mk (H7.out.below (w' := w7.drew) (below_drew (Below.refl _ _)))
            have HC8 := Aside0.mk (Kd.C_below HC7.out (w1 := w7.drew) (below_drew (Below.refl _ _)))
            have HB8 := Aside0.mk (show Below w.heap.size w w7.drew from HB7.out.drew)
            clear hHeld k1 k2
            generalize w7.drew = w8 at *
            go_wp2_with fail
            go_roundg (gk - 1)
            case measure => have := HI.out.1; have := HLTI.out; omega
            case rel => exact ⟨i + 1, t + m, next_i6 (by have := HLTI.out; have := HLN.out; have := HUS.out.2; omega), by rw [HTT.out.1], ⟨by have := HI.out.1; have := HLTI.out; omega, HTT.out.2⟩, H8, HC8, HB8⟩
        · have d6 : decide ((i : Int) < (L.length : Int)) = false := decide_eq_false (by omega)
          have d7 : decide (i < L.length) = false := decide_eq_false hlt
          obtain rfl : i = L.length := by have := HI.out.1; omega
          obtain rfl : t = S.used := by have h := HI.out.2; rw [List.take_length] at h; exact h.trans HLU.out
          rw [HLN.out]
          have e1 : wrap64 (x - (S.count : Int)) = x - S.count := IntWalk.wrap64_in _ (by have := HNM.out; have := HUS.out.2; omega)
          have e2 : wrap64 (y - (S.used : Int)) = y - S.used := IntWalk.wrap64_in _ (by have := HNM.out; have := HUS.out.1; omega)
          clear d6 d7 hlt
          by_cases hx : x - (S.count : Int) < 0
          · have f1 : decide (x - (S.count : Int) < 0) = true := decide_eq_true hx
            have HX := Aside0.mk hx
            clear hx
            go_wp2_with fail
            refine (lw_fuse 1099511627776 H6.out (by decide)).mono ?_
            rintro e wa ⟨rfl, hd, hf⟩
            rw [far_eq HO.out] at hd ⊢
            have HFS : Aside0 (({ S with left := 1099511627776, off := false } : DS).off = false ∧ ({ S with left := 1099511627776, off := false } : DS).count = S.count ∧ ({ S with left := 1099511627776, off := false } : DS).used = S.used ∧ ({ S with left := 1099511627776, off := false } : DS).names = x ∧ ({ S with left := 1099511627776, off := false } : DS).room = y) := ⟨⟨rfl, rfl, rfl, HNM.out.1, HNM.out.2.1⟩⟩
            generalize ({ S with left := 1099511627776, off := false } : DS) = S2 at *
            have Ha := Aside0.mk hd
            have HBa := Aside0.mk (lw_below HB6.out H6.out.size hf)
            clear hd hf H6 HB6 HC6
            have HNN : Aside0 ((0 : Int) ≤ 1 ∧ (1 : Int) ≤ 4194400) := ⟨by decide, by decide⟩
            go_wp2_with (first | (refine Kd.R_make bK (w0 := wa) wa.heap.size 5 rfl rfl 30 _ _ rfl 1 rfl rfl Try.underlying30 (.int .u8 0) 1 info5 rfl (by decide) (by decide) 0 (ok := fun _ => True) (okp := fun _ => True) rfl (fun _ _ => trivial) trivial ?p0 ?pl (Below.refl _ _) (Nat.le_refl _) ?_; (case p0 => exact HNN.out.1); (case pl => have := HNN.out.2; omega); intro v7 w7 ho hb hg hat; generalize hbb : List.replicate _ (0 : Int) = bb at ho; have HBB := Aside0.mk hbb; have HO7 := Aside0.mk ho; have HB7 := Aside0.mk hb; obtain ⟨A7, c7, hv7⟩ := Kd.R_slice HO7.out; clear ho hb hg hat hbb; subst hv7) | fail)
            have hfull : S2.Append nFull bb = (62, S2) := full_step (by decide) HFS.out.1 2 bb (.inl (by have h1 := want_N S2 nFull; rw [HFS.out.2.1] at h1; rw [HFS.out.2.2.2.1]; have := HX.out; omega))
            refine (lw_append nFull bb A7 c7 Ha.out HB7.out (by rw [← HBB.out, List.length_replicate]; decide) (by decide) (Kd.R_reads' HO7.out).2.1 (Kd.R_reads' HO7.out).2.2 (row_mine HO7.out)).mono ?_
            rintro e wb ⟨rfl, hd, hf⟩
            rw [hfull] at hd ⊢
            have HBb := Aside0.mk (lw_below (HBa.out.trans (HB7.out.mono Ha.out.size)) (Nat.le_trans Ha.out.size HB7.out.size) hf)
            clear hd hf hfull
            go_wp2_with fail
            refine (alive_calls wb).mono ?_
            rintro e wc ⟨rfl, hb⟩
            have HBc := Aside0.mk (HBb.out.trans (hb.mono HBb.out.size))
            clear hb
            go_wp2_with fail
            go_ret
            exact ⟨rfl, HBc.out⟩
          · have f1 : decide (x - (S.count : Int) < 0) = false := decide_eq_false hx
            clear hx
            by_cases hy : y - (S.used : Int) < 0
            · have f2 : decide (y - (S.used : Int) < 0) = true := decide_eq_true hy
              have HX := Aside0.mk hy
              clear hy
              go_wp2_with fail
              refine (lw_fuse 1099511627776 H6.out (by decide)).mono ?_
              rintro e wa ⟨rfl, hd, hf⟩
              rw [far_eq HO.out] at hd ⊢
              have HFS : Aside0 (({ S with left := 1099511627776, off := false } : DS).off = false ∧ ({ S with left := 1099511627776, off := false } : DS).count = S.count ∧ ({ S with left := 1099511627776, off := false } : DS).used = S.used ∧ ({ S with left := 1099511627776, off := false } : DS).names = x ∧ ({ S with left := 1099511627776, off := false } : DS).room = y) := ⟨⟨rfl, rfl, rfl, HNM.out.1, HNM.out.2.1⟩⟩
              generalize ({ S with left := 1099511627776, off := false } : DS) = S2 at *
              have Ha := Aside0.mk hd
              have HBa := Aside0.mk (lw_below HB6.out H6.out.size hf)
              clear hd hf H6 HB6 HC6
              have HNN : Aside0 ((0 : Int) ≤ 1 ∧ (1 : Int) ≤ 4194400) := ⟨by decide, by decide⟩
              go_wp2_with (first | (refine Kd.R_make bK (w0 := wa) wa.heap.size 5 rfl rfl 30 _ _ rfl 1 rfl rfl Try.underlying30 (.int .u8 0) 1 info5 rfl (by decide) (by decide) 0 (ok := fun _ => True) (okp := fun _ => True) rfl (fun _ _ => trivial) trivial ?p0 ?pl (Below.refl _ _) (Nat.le_refl _) ?_; (case p0 => exact HNN.out.1); (case pl => have := HNN.out.2; omega); intro v7 w7 ho hb hg hat; generalize hbb : List.replicate _ (0 : Int) = bb at ho; have HBB := Aside0.mk hbb; have HO7 := Aside0.mk ho; have HB7 := Aside0.mk hb; obtain ⟨A7, c7, hv7⟩ := Kd.R_slice HO7.out; clear ho hb hg hat hbb; subst hv7) | fail)
              have hfull : S2.Append nFull bb = (62, S2) := full_step (by decide) HFS.out.1 2 bb (.inr (by rw [want_B2, HFS.out.2.2.1, HFS.out.2.2.2.2, ← HBB.out, List.length_replicate]; have := HX.out; omega))
              refine (lw_append nFull bb A7 c7 Ha.out HB7.out (by rw [← HBB.out, List.length_replicate]; decide) (by decide) (Kd.R_reads' HO7.out).2.1 (Kd.R_reads' HO7.out).2.2 (row_mine HO7.out)).mono ?_
              rintro e wb ⟨rfl, hd, hf⟩
              rw [hfull] at hd ⊢
              have HBb := Aside0.mk (lw_below (HBa.out.trans (HB7.out.mono Ha.out.size)) (Nat.le_trans Ha.out.size HB7.out.size) hf)
              clear hd hf hfull
              go_wp2_with fail
              refine (alive_calls wb).mono ?_
              rintro e wc ⟨rfl, hb⟩
              have HBc := Aside0.mk (HBb.out.trans (hb.mono HBb.out.size))
              clear hb
              go_wp2_with fail
              go_ret
              exact ⟨rfl, HBc.out⟩
            · have f2 : decide (y - (S.used : Int) < 0) = false := decide_eq_false hy
              have HX := Aside0.mk hy
              clear hy
              go_wp2_with fail
              refine (lw_fuse 1099511627776 H6.out (by decide)).mono ?_
              rintro e wa ⟨rfl, hd, hf⟩
              rw [far_eq HO.out] at hd ⊢
              have HFS : Aside0 (({ S with left := 1099511627776, off := false } : DS).off = false ∧ ({ S with left := 1099511627776, off := false } : DS).count = S.count ∧ ({ S with left := 1099511627776, off := false } : DS).used = S.used ∧ ({ S with left := 1099511627776, off := false } : DS).names = x ∧ ({ S with left := 1099511627776, off := false } : DS).room = y) := ⟨⟨rfl, rfl, rfl, HNM.out.1, HNM.out.2.1⟩⟩
              generalize ({ S with left := 1099511627776, off := false } : DS) = S2 at *
              have Ha := Aside0.mk hd
              have HBa := Aside0.mk (lw_below HB6.out H6.out.size hf)
              clear hd hf H6 HB6 HC6
              go_wp2_with fail
              refine (lw_pend Ha.out).mono ?_
              rintro e wb ⟨Ab, cb, rfl, _, hb⟩
              have Hb := Aside0.mk (Ha.out.below hb)
              have HBb := Aside0.mk (HBa.out.trans (hb.mono HBa.out.size))
              clear hb Ha HBa
              have HNN : Aside0 ((0 : Int) ≤ wrap64 (y - (S.used : Int) + 1) ∧ (wrap64 (y - (S.used : Int) + 1)).toNat ≤ 4194400 ∧ y - (S.used : Int) + 1 = ((wrap64 (y - (S.used : Int) + 1)).toNat : Int)) := ⟨by
                have h := HNM.out
                have h2 := HUS.out.1
                have h3 := HX.out
                have e : wrap64 (y - (S.used : Int) + 1) = y - S.used + 1 := IntWalk.wrap64_in _ (by omega)
                rw [e]
                omega⟩
              go_wp2_with (first | (refine Kd.R_make bK (w0 := wb) wb.heap.size 5 rfl rfl 30 _ _ rfl (wrap64 (y - (S.used : Int) + 1)) rfl rfl Try.underlying30 (.int .u8 0) 1 info5 rfl (by decide) (by decide) 0 (ok := fun _ => True) (okp := fun _ => True) rfl (fun _ _ => trivial) trivial ?p0 ?pl (Below.refl _ _) (Nat.le_refl _) ?_; (case p0 => exact HNN.out.1); (case pl => have := HNN.out.2.1; omega); intro v7 w7 ho hb hg hat; generalize hbb : List.replicate _ (0 : Int) = bb at ho; have HBB := Aside0.mk hbb; have HO7 := Aside0.mk ho; have HB7 := Aside0.mk hb; obtain ⟨A7, c7, hv7⟩ := Kd.R_slice HO7.out; clear ho hb hg hat hbb; subst hv7) | fail)
              have hfull : S2.Append nFull bb = (62, S2) := full_step (by decide) HFS.out.1 2 bb (.inr (by rw [want_B2, HFS.out.2.2.1, HFS.out.2.2.2.2, ← HBB.out, List.length_replicate]; have := HNN.out.2.2; omega))
              refine (lw_append nFull bb A7 c7 Hb.out HB7.out (by rw [← HBB.out, List.length_replicate]; have := HNN.out.2.1; omega) (by decide) (Kd.R_reads' HO7.out).2.1 (Kd.R_reads' HO7.out).2.2 (row_mine HO7.out)).mono ?_
              rintro e wc ⟨rfl, hd, hf⟩
              rw [hfull] at hd ⊢
              have Hc := Aside0.mk (hd.more (T' := 9000000) (by rw [← HBB.out, List.length_replicate]; have := HNN.out.2.1; omega) (by decide))
              have HBc := Aside0.mk (lw_below (HBb.out.trans (HB7.out.mono Hb.out.size)) (Nat.le_trans Hb.out.size HB7.out.size) hf)
              clear hd hf hfull Hb HBb HB7 HO7 HBB HNN
              have HNN : Aside0 ((0 : Int) ≤ wrap64 (y + 1) ∧ (wrap64 (y + 1)).toNat ≤ 4194400 ∧ y + 1 = ((wrap64 (y + 1)).toNat : Int)) := ⟨by
                have h := HNM.out
                have e : wrap64 (y + 1) = y + 1 := IntWalk.wrap64_in _ (by omega)
                rw [e]
                omega⟩
              go_wp2_with (first | (refine Kd.R_make bK (w0 := wc) wc.heap.size 5 rfl rfl 30 _ _ rfl (wrap64 (y + 1)) rfl rfl Try.underlying30 (.int .u8 0) 1 info5 rfl (by decide) (by decide) 0 (ok := fun _ => True) (okp := fun _ => True) rfl (fun _ _ => trivial) trivial ?p0 ?pl (Below.refl _ _) (Nat.le_refl _) ?_; (case p0 => exact HNN.out.1); (case pl => have := HNN.out.2.1; omega); intro v7 w7 ho hb hg hat; generalize hbb : List.replicate _ (0 : Int) = bb at ho; have HBB := Aside0.mk hbb; have HO7 := Aside0.mk ho; have HB7 := Aside0.mk hb; obtain ⟨A7, c7, hv7⟩ := Kd.R_slice HO7.out; clear ho hb hg hat hbb; subst hv7) | fail)
              have hfull : S2.Write nOver bb = (62, S2) := full_step (by decide) HFS.out.1 1 bb (.inr (by have h1 := want_B1 S2 (n := nOver) (not_nameless (by decide)) bb; have h3 : bb.length = (wrap64 (y + 1)).toNat := (by rw [← HBB.out, List.length_replicate]); have h4 := HNN.out.2.2; have h5 := HFS.out.2.2.2.2; show S2.room < S2.wantB 1 nOver bb; omega))
              refine (lw_write nOver bb A7 c7 Hc.out HB7.out (by rw [← HBB.out, List.length_replicate]; have := HNN.out.2.1; omega) (by decide) (Kd.R_reads' HO7.out).2.1 (Kd.R_reads' HO7.out).2.2 (row_mine HO7.out)).mono ?_
              rintro e wd ⟨rfl, hd, hf⟩
              rw [hfull] at hd ⊢
              have Hd := Aside0.mk (hd.more (T' := 18000000) (by rw [← HBB.out, List.length_replicate]; have := HNN.out.2.1; omega) (by decide))
              have HBd := Aside0.mk (lw_below (HBc.out.trans (HB7.out.mono Hc.out.size)) (Nat.le_trans Hc.out.size HB7.out.size) hf)
              clear hd hf hfull Hc HBc HB7 HO7 HBB HNN
              go_wp2_with fail
              refine (lw_free Hd.out).mono ?_
              rintro e we ⟨rfl, hb⟩
              have hfr2 : S2.Free = (x - (S.count : Int), y - (S.used : Int)) := by unfold DS.Free; rw [HFS.out.1, HFS.out.2.1, HFS.out.2.2.1, HFS.out.2.2.2.1, HFS.out.2.2.2.2]; rfl
              rw [hfr2]
              have He := Aside0.mk (Hd.out.below hb)
              have HBe := Aside0.mk (HBd.out.trans (hb.mono HBd.out.size))
              clear hb hfr2 Hd HBd
              go_wp2_with fail
              refine (lw_pend He.out).mono ?_
              rintro e wf ⟨Af, cf, rfl, _, hb⟩
              have HBf := Aside0.mk (HBe.out.trans (hb.mono HBe.out.size))
              clear hb He HBe
              go_wp2_with fail
              refine (alive_calls wf).mono ?_
              rintro e wg ⟨rfl, hb⟩
              have HBg := Aside0.mk (HBf.out.trans (hb.mono HBf.out.size))
              clear hb
              go_wp2_with fail
              go_ret
              exact ⟨rfl, HBg.out⟩
end Go.Proofs.Ytnegcjgolaakcaa

/- What an argument of a kind is, with its weights: its cells read as a list, a struct, a string, a number; a script of calls. -/
namespace Go.Proofs.Ytnegcjgolaakcaa
open Go.RowKit
open Go.Proofs.YtnegcjgolaakcaaW.PrintWords
open Go.ChangeShapes Go.WideShapes
open Pbulk (S62 k62)
set_option linter.unusedVariables false

/-- a value of type t reads as one of kind k, of which p holds, where its rows are no longer than memory reaches -/
def Opens {α : Type} (P : Program) (w : World) (t : TypeId) (k : Kd α) (p : α → Prop) : Prop :=
  ∀ (H : Type) (enc : TypeId × Value → H) (base : Nat) (spare : Nat → Bool) (held : Bool) (fuel : Nat) (cs : List Value) (y : DataW H × List MemPlace), DataW.trod enc P w base spare held fuel t cs = some y → (∀ n ∈ DataW.weights P t y.1, n ≤ reachBytes) → ∃ x, k.K w x cs ∧ p x

theorem Opens.int {P : Program} {w : World} {t : TypeId} {k : IntKind} (ht : P.underlying t = some (.int k)) : Opens P w t (Kd.int k) (fun x => (Lit.int k x).wf = true) := by
  intro H enc base spare held fuel cs y h _
  obtain ⟨n, rfl, _, hw⟩ := DataW.trod_int ht h
  exact ⟨n, rfl, hw⟩

theorem Opens.imp {α : Type} {P : Program} {w : World} {t : TypeId} {k : Kd α} {p q : α → Prop} (h : Opens P w t k p) (hpq : ∀ x, p x → q x) : Opens P w t k q := by
  intro H enc base spare held fuel cs y hy hz
  obtain ⟨x, h1, h2⟩ := h H enc base spare held fuel cs y hy hz
  exact ⟨x, h1, hpq x h2⟩

theorem weightsAll_mem {H : Type} {P : Program} {e : TypeId} : ∀ {ds : List (DataW H)} {j : Nat} {d : DataW H}, ds[j]? = some d → ∀ n ∈ d.weights P e, n ∈ DataW.weightsAll P e ds
  | d0 :: ds, 0, d, hd, n, hn => by
    simp only [List.getElem?_cons_zero, Option.some.injEq] at hd
    subst hd
    simp only [DataW.weightsAll, List.mem_append]
    exact Or.inl hn
  | d0 :: ds, j + 1, d, hd, n, hn => by
    simp only [List.getElem?_cons_succ] at hd
    simp only [DataW.weightsAll, List.mem_append]
    exact Or.inr (weightsAll_mem hd n hn)
  | [], _, _, hd, _, _ => by simp at hd

theorem Opens.slice {α : Type} {P : Program} {w : World} {t e : TypeId} {k : Kd α} {p : α → Prop} (ht : P.underlying t = some (.slice e)) (hs : P.cellsOf e = k.sz) (he : Opens P w e k p) : Opens P w t (Kd.slice e k) (fun l => l.length ≤ 9223372036854775807 ∧ l.length * P.bytesOf e ≤ reachBytes ∧ ∀ x ∈ l, p x) := by
  intro H enc base spare held fuel cs y h hz
  rcases DataW.trod_slice ht h with ⟨rfl, _⟩ | ⟨a, len, cap, elems, rest, n, _, rfl, rfl, hb, hl, hm, hlen, hel, _, _⟩
  · exact ⟨[], ⟨none, 0, rfl, Nat.le_refl _, ⟨rfl, by simp, fun h => absurd h (Nat.lt_irrefl 0)⟩⟩, by simp, by simp, by simp⟩
  have hzl : len * P.bytesOf e ≤ reachBytes := by
    have := hz ((elems.length + rest.length) * P.bytesOf e) (by simp [DataW.weights, ht])
    have h2 : elems.length * P.bytesOf e ≤ (elems.length + rest.length) * P.bytesOf e := Nat.mul_le_mul_right _ (Nat.le_add_right _ _)
    rw [← hlen]
    omega
  have each : ∀ i : Fin len, ∃ x : α, p x ∧ ∃ c, c.length = k.sz ∧ k.K w x c ∧ ∀ j u, c[j]? = some u → w.cell? (a.add (i.1 * k.sz + j)) = some u := by
    intro i
    have h1 := hel i.1 i.2
    have hei : elems[i.1]? = some (elems[i.1]'(by omega)) := List.getElem?_eq_getElem (by omega)
    rw [hei, Option.bind_eq_some_iff] at h1
    obtain ⟨c, hc, hy⟩ := h1
    obtain ⟨x, hx1, hx2⟩ := he H enc base spare held n c _ hy (fun m hm' => hz m (by
      simp only [DataW.weights, ht, List.mem_cons, List.mem_append]
      exact Or.inr (Or.inl (weightsAll_mem (j := i.1) (by rw [List.getElem?_map, hei]; rfl) m hm'))))
    have h2 := World.cells?_some hc
    refine ⟨x, hx2, c, by rw [h2.2.1, hs], hx1, fun j u hu => ?_⟩
    have hj : j < c.length := by
      rcases Nat.lt_or_ge j c.length with h | h
      · exact h
      · rw [List.getElem?_eq_none h] at hu; cases hu
    have h3 := h2.2.2 j (by rw [← h2.2.1]; exact hj)
    rw [add_add, hs] at h3
    rw [h3]
    exact hu
  obtain ⟨f, hf⟩ := Classical.axiomOfChoice each
  refine ⟨List.ofFn f, ⟨some a, cap, by simp, by simpa using hl, ⟨rfl, by simp only [List.length_ofFn]; simp only [maxLen] at hm; omega, fun _ => ⟨a, rfl, fun j q hj => ?_⟩⟩⟩, by simp only [List.length_ofFn]; simp only [maxLen] at hm; omega, by rw [List.length_ofFn]; exact hzl, fun x hx => ?_⟩
  · rw [List.getElem?_ofFn] at hj
    split at hj
    · rename_i hlt
      injection hj with hj
      subst hj
      obtain ⟨_, c, h1, h2, h3⟩ := hf ⟨j, hlt⟩
      exact ⟨c, h1, h2, h3⟩
    · cases hj
  · rw [List.mem_ofFn] at hx
    obtain ⟨i, rfl⟩ := hx
    exact (hf i).1

/-- two fields, one behind the other -/
theorem cut_two {cs : List Value} {a b : Nat} (h : cs.length = a + b) : cs = (cs.drop 0).take a ++ (cs.drop a).take b := by
  rw [List.drop_zero, List.take_of_length_le (l := cs.drop a) (by rw [List.length_drop]; omega), List.take_append_drop]

theorem drop_take {cs : List Value} {a b c : Nat} : (cs.drop a).take (b + c) = (cs.drop a).take b ++ (cs.drop (a + b)).take c := by
  rw [List.take_add, List.drop_drop]

theorem Opens.iso {α β : Type} {P : Program} {w : World} {t : TypeId} {k : Kd α} {p : α → Prop} (f : β → α) (g : α → β) (hfg : ∀ x, f (g x) = x) (h : Opens P w t k p) : Opens P w t (Kd.iso k f) (fun x => p (f x)) := by
  intro H enc base spare held fuel cs y hy hz
  obtain ⟨x, h1, h2⟩ := h H enc base spare held fuel cs y hy hz
  exact ⟨g x, by show k.K w (f (g x)) cs; rw [hfg]; exact h1, by show p (f (g x)); rw [hfg]; exact h2⟩

/-- an argument's weights -/
theorem weights_arg {H : Type} {P : Program} {ts : List TypeId} {ds : List (DataW H)} (h : (DataW.weightsEach P ts ds).all (· ≤ reachBytes) = true) {j : Nat} {t : TypeId} {d : DataW H} (ht : ts[j]? = some t) (hd : ds[j]? = some d) : ∀ n ∈ d.weights P t, n ≤ reachBytes := fun n hn => by
  have := List.all_eq_true.1 h _ (DataW.weights_mem_each ht hd n hn)
  simpa using this
theorem Opens.struct6 {α β γ δ ε ζ : Type} {P : Program} {w : World} {t : TypeId} {f0 f1 f2 f3 f4 f5 : Field} {a : Kd α} {b : Kd β} {c : Kd γ} {d : Kd δ} {e : Kd ε} {z : Kd ζ} {p0 : α → Prop} {p1 : β → Prop} {p2 : γ → Prop} {p3 : δ → Prop} {p4 : ε → Prop} {p5 : ζ → Prop} (ht : P.underlying t = some (.struct #[f0, f1, f2, f3, f4, f5]))
    (hc : P.cellsOf t = a.sz + (b.sz + (c.sz + (d.sz + (e.sz + z.sz))))) (o0 : f0.offset = 0) (o1 : f1.offset = a.sz) (o2 : f2.offset = a.sz + b.sz) (o3 : f3.offset = a.sz + b.sz + c.sz) (o4 : f4.offset = a.sz + b.sz + c.sz + d.sz) (o5 : f5.offset = a.sz + b.sz + c.sz + d.sz + e.sz)
    (s0 : P.cellsOf f0.type = a.sz) (s1 : P.cellsOf f1.type = b.sz) (s2 : P.cellsOf f2.type = c.sz) (s3 : P.cellsOf f3.type = d.sz) (s4 : P.cellsOf f4.type = e.sz) (s5 : P.cellsOf f5.type = z.sz)
    (h0 : Opens P w f0.type a p0) (h1 : Opens P w f1.type b p1) (h2 : Opens P w f2.type c p2) (h3 : Opens P w f3.type d p3) (h4 : Opens P w f4.type e p4) (h5 : Opens P w f5.type z p5) :
    Opens P w t (Kd.pair a (Kd.pair b (Kd.pair c (Kd.pair d (Kd.pair e z))))) (fun x => p0 x.1 ∧ p1 x.2.1 ∧ p2 x.2.2.1 ∧ p3 x.2.2.2.1 ∧ p4 x.2.2.2.2.1 ∧ p5 x.2.2.2.2.2) := by
  intro H enc base spare held fuel cs y h hz
  obtain ⟨xs, n, _, rfl, hl, hx, hf⟩ := DataW.trod_struct ht h
  match xs, hx with
  | [y0, y1, y2, y3, y4, y5], _ =>
    have g0 := hf 0 f0 rfl
    have g1 := hf 1 f1 rfl
    have g2 := hf 2 f2 rfl
    have g3 := hf 3 f3 rfl
    have g4 := hf 4 f4 rfl
    have g5 := hf 5 f5 rfl
    rw [o0, s0] at g0
    rw [o1, s1] at g1
    rw [o2, s2] at g2
    rw [o3, s3] at g3
    rw [o4, s4] at g4
    rw [o5, s5] at g5
    have hw : ∀ (j : Nat) (f : TypeId) (z : DataW H), [f0.type, f1.type, f2.type, f3.type, f4.type, f5.type][j]? = some f → [y0.1, y1.1, y2.1, y3.1, y4.1, y5.1][j]? = some z → ∀ m ∈ DataW.weights P f z, m ≤ reachBytes := fun j f z hf' hz' m hm => hz m (by
      simp only [DataW.weights, ht]
      exact DataW.weights_mem_each (j := j) hf' hz' m hm)
    obtain ⟨x0, k0, q0⟩ := h0 _ _ _ _ _ _ _ _ g0 (hw 0 f0.type y0.1 rfl rfl)
    obtain ⟨x1, k1, q1⟩ := h1 _ _ _ _ _ _ _ _ g1 (hw 1 f1.type y1.1 rfl rfl)
    obtain ⟨x2, k2, q2⟩ := h2 _ _ _ _ _ _ _ _ g2 (hw 2 f2.type y2.1 rfl rfl)
    obtain ⟨x3, k3, q3⟩ := h3 _ _ _ _ _ _ _ _ g3 (hw 3 f3.type y3.1 rfl rfl)
    obtain ⟨x4, k4, q4⟩ := h4 _ _ _ _ _ _ _ _ g4 (hw 4 f4.type y4.1 rfl rfl)
    obtain ⟨x5, k5, q5⟩ := h5 _ _ _ _ _ _ _ _ g5 (hw 5 f5.type y5.1 rfl rfl)
    refine ⟨(x0, x1, x2, x3, x4, x5), ⟨_, _, ?_, k0, _, _, rfl, k1, _, _, rfl, k2, _, _, rfl, k3, _, _, rfl, k4, k5⟩, q0, q1, q2, q3, q4, q5⟩
    rw [← drop_take, ← drop_take, ← drop_take, ← drop_take, ← cut_two (by rw [hl, hc])]
theorem Opens.string {P : Program} {w : World} {t : TypeId} (ht : P.underlying t = some .string) : Opens P w t Kd.string (fun s => s.size ≤ maxLen ∧ s.size ≤ reachBytes) := by
  intro H enc base spare held fuel cs y h hz
  obtain ⟨s, rfl, rfl, hs⟩ := DataW.trod_string ht h
  refine ⟨s, rfl, hs, ?_⟩
  have := hz s.data.toList.length (by simp [DataW.weights])
  rw [Array.length_toList] at this
  exact this
theorem i64_le {x : Int} (h : (Lit.int .i64 x).wf = true) : x ≤ 9223372036854775807 := by
  simp only [Lit.wf, Bool.and_eq_true, decide_eq_true_eq] at h
  have h1 : (IntKind.i64.max : Int) = 9223372036854775807 := rfl
  omega
/-- a call that came in -/
def OpCame (o : S62) : Prop := OpOk' o ∧ o.f3.length ≤ 281474976710656 ∧ o.f5.length ≤ 281474976710656 ∧ o.f1.size ≤ 281474976710656 ∧ o.f2.size ≤ 281474976710656
theorem opOpen (W : World) : Opens Try.prog W 62 k62 OpCame :=
  (Opens.iso (fun x : S62 => (x.f0, x.f1, x.f2, x.f3, x.f4, x.f5)) (fun y => ⟨y.1, y.2.1, y.2.2.1, y.2.2.2.1, y.2.2.2.2.1, y.2.2.2.2.2⟩) (fun _ => rfl) (Opens.struct6 Try.underlying62 (by kernel_rfl) rfl rfl rfl rfl rfl rfl (by kernel_rfl) (by kernel_rfl) (by kernel_rfl) (by kernel_rfl) (by kernel_rfl) (by kernel_rfl) (Opens.int Try.underlying3) (Opens.string Try.underlying9) (Opens.string Try.underlying9) (Opens.slice Try.underlying30 (by kernel_rfl) (Opens.int Try.underlying5)) (Opens.int Try.underlying3) (Opens.slice Try.underlying37 (by kernel_rfl) (Opens.int Try.underlying3)))).imp fun m h => by
    obtain ⟨_, ⟨h1, h1b⟩, ⟨h2, h2b⟩, ⟨_, h3, _⟩, h4, ⟨_, h5, h6⟩⟩ := h
    have b5 : Try.prog.bytesOf 5 = 1 := by kernel_rfl
    have b3 : Try.prog.bytesOf 3 = 8 := by kernel_rfl
    rw [b5] at h3
    rw [b3] at h5
    simp only [reachBytes] at h3 h5 h1b h2b
    exact ⟨⟨h1, h2, i64_le h4, fun x hx => i64_le (h6 x hx)⟩, by omega, by omega, by omega, by omega⟩
theorem opsOpen (W : World) : Opens Try.prog W 39 (Kd.slice 62 k62) (fun l => SzOk l ∧ ∀ o ∈ l, OpOk' o) :=
  (Opens.slice Try.underlying39 (by kernel_rfl) (opOpen W)).imp fun l h => by
    have h1 := h.2.1
    have b : Try.prog.bytesOf 62 = 96 := by kernel_rfl
    rw [b] at h1
    simp only [reachBytes] at h1
    exact ⟨⟨by omega, fun o ho => (h.2.2 o ho).2⟩, fun o ho => (h.2.2 o ho).1⟩
end Go.Proofs.Ytnegcjgolaakcaa
