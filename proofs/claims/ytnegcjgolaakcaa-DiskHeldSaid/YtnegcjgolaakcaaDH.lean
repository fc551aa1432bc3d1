/- The disk's calls, as a law with held memory uses them: what lies in S stays. -/
import Derived.Test.YtnegcjgolaakcaaDR
import Derived.Test.YtnegcjgolaakcaaWEqStruct
import Derived.Sort.Walk0
import Derived.Laws.Cover1
import Derived.Test.YtnegcjgolaakcaaOpK
namespace Go.Proofs.Ytnegcjgolaakcaa
open Go.RowKit Go.Maps
open Go.Proofs.YtnegcjgolaakcaaW.PrintWords Go.Proofs.YtnegcjgolaakcaaW.PrintLast Go.Proofs.YtnegcjgolaakcaaW.PrintMore
set_option linter.unusedVariables false
set_option linter.unusedSimpArgs false
/-- a disk, all of whose blocks have come since B, and apart from what is held -/
structure Lx (S : Nat → Prop) (w0 : World) (B T : Nat) (w : World) (g : Nat) (s : DS) : Prop where
  at' : ∃ base ok nb fb v ad, B ≤ base ∧ (∀ k, ok k → ¬ S k) ∧ DiskAt w g s base ok nb fb v ad
  old : ∀ k, S k → k < w0.heap.size
  ge : w0.heap.size ≤ w.heap.size
  keep : ∀ k, S k → w.heap[k]? = w0.heap[k]?
  inv : s.Inv T
  le : T ≤ 1073741824
section
variable {w w0 w1 w' : World} {g B T T' : Nat} {s s' : DS} {S S' : Nat → Prop}
theorem Lw.hold (h : Lw B T w g s) : Lx (fun _ => False) w B T w g s := by
  obtain ⟨⟨base, ok, nb, fb, v, ad, h1, h2⟩, h3, h4⟩ := h
  exact ⟨⟨base, ok, nb, fb, v, ad, h1, fun _ _ h => h, h2⟩, fun _ h => h.elim, Nat.le_refl _, fun _ h => h.elim, h3, h4⟩
theorem Lx.lw (h : Lx S w0 B T w g s) : Lw B T w g s := by
  obtain ⟨⟨base, ok, nb, fb, v, ad, h1, h2, h3⟩, _, _, _, h4, h5⟩ := h
  exact ⟨⟨base, ok, nb, fb, v, ad, h1, h3⟩, h4, h5⟩
theorem Lx.anchor (h : Lx S w0 B T w g s) : Lx S w B T w g s := ⟨h.at', fun k hk => Nat.lt_of_lt_of_le (h.old k hk) h.ge, Nat.le_refl _, fun _ _ => rfl, h.inv, h.le⟩
theorem Lx.below (h : Lx S w0 B T w g s) (hb : Below w.heap.size w w') : Lx S w0 B T w' g s := by
  obtain ⟨⟨base, ok, nb, fb, v, ad, h1, h2, h3⟩, a1, a2, a3, h4, h5⟩ := h
  exact ⟨⟨base, ok, nb, fb, v, ad, h1, h2, h3.below hb⟩, a1, Nat.le_trans a2 hb.size, fun k hk => (hb.block k (Nat.lt_of_lt_of_le (a1 k hk) a2)).trans (a3 k hk), h4, h5⟩
theorem Lx.size (h : Lx S w0 B T w g s) : B ≤ w.heap.size := h.lw.size
theorem Lx.more (h : Lx S w0 B T w g s) (ht : T ≤ T') (h2 : T' ≤ 1073741824) : Lx S w0 B T' w g s := ⟨h.at', h.old, h.ge, h.keep, Inv.mono h.inv ht, h2⟩
/-- what has come since is held too -/
theorem Lx.hold (h : Lx S w0 B T w g s) (hb : Below w.heap.size w w') : Lx (fun k => S k ∨ (w.heap.size ≤ k ∧ k < w'.heap.size)) w' B T w' g s := by
  obtain ⟨⟨base, ok, nb, fb, v, ad, h1, h2, h3⟩, a1, a2, a3, h4, h5⟩ := h
  refine ⟨⟨base, _, nb, fb, v, ad, h1, ?_, h3.bound.below hb⟩, ?_, Nat.le_refl _, fun _ _ => rfl, h4, h5⟩
  · rintro k ⟨hk1, hk2, hk3⟩ (hk | hk)
    · exact h2 k hk1 hk
    · omega
  · rintro k (hk | hk)
    · exact Nat.lt_of_lt_of_le (Nat.lt_of_lt_of_le (a1 k hk) a2) hb.size
    · exact hk.2
theorem Lx.less (h : Lx S w0 B T w g s) (hS : ∀ k, S' k → S k) : Lx S' w0 B T w g s := by
  obtain ⟨⟨base, ok, nb, fb, v, ad, h1, h2, h3⟩, a1, a2, a3, h4, h5⟩ := h
  exact ⟨⟨base, ok, nb, fb, v, ad, h1, fun k hk hs => h2 k hk (hS k hs), h3⟩, fun k hk => a1 k (hS k hk), a2, fun k hk => a3 k (hS k hk), h4, h5⟩
/-- a held row stays -/
theorem Lx.row {α : Type} {d : Kd α} {e base : Nat} {v : Value} {xs : List α} (h : Lx S w0 B T w g s) (hr : d.R e w0 base S v xs) : d.R e w base S v xs := Kd.R_step hr (fun k hk _ => h.keep k hk)
/-- what a call leaves -/
def LxPost (S : Nat → Prop) (w0 : World) (B T lo : Nat) (w1 : World) (g : Nat) (r : Int × DS) (e : Ending) (w2 : World) : Prop := e = .returned (.int .i64 r.1) ∧ Lx S w0 B T w2 g r.2 ∧ Fr (Mine B lo w1.heap.size) w1 w2
def MineX (S : Nat → Prop) (B lo hi : Nat) (k : Nat) : Prop := Mine B lo hi k ∧ ¬ S k
theorem lx_mine (h : Lx S w0 B T w g s) (hb : Below w.heap.size w w1) : ∃ base nb fb v ad, B ≤ base ∧ DiskAt w1 g s base (MineX S B w.heap.size w1.heap.size) nb fb v ad := by
  obtain ⟨⟨base, ok, nb, fb, v, ad, h1, h2, h3⟩, a1, a2, a3, h4, h5⟩ := h
  exact ⟨base, nb, fb, v, ad, h1, (h3.bound.below hb).mono (fun k hk => ⟨⟨Nat.le_trans h1 hk.2.1, .inl hk.2.2⟩, h2 k hk.1⟩)⟩
theorem lx_fresh (h : Lx S w0 B T w g s) (hb : Below w.heap.size w w1) (k : Nat) (hk : w1.heap.size ≤ k) : MineX S B w.heap.size w1.heap.size k := by
  refine ⟨mine_fresh (Nat.le_trans h.size hb.size) k hk, fun hs => ?_⟩
  have h1 := h.old k hs
  have h2 := h.ge
  have h3 := hb.size
  omega
theorem lx_after {w2 : World} {base nb fb : Nat} {v : Value} {ad : List Nat} (h : Lx S w0 B T w g s) (hb : Below w.heap.size w w1) (hB : B ≤ base) (hd : DiskAt w2 g s' base (MineX S B w.heap.size w1.heap.size) nb fb v ad) (hf : Fr (MineX S B w.heap.size w1.heap.size) w1 w2) (hi : s'.Inv T') (hT : T' ≤ 1073741824) : Lx S w0 B T' w2 g s' := by
  refine ⟨⟨base, _, nb, fb, v, ad, hB, fun k hk => hk.2, hd⟩, h.old, Nat.le_trans h.ge (Nat.le_trans hb.size hf.size), fun k hk => ?_, hi, hT⟩
  have h1 := h.old k hk
  have h2 := h.ge
  have h3 := hb.size
  have h4 : w2.heap[k]? = w1.heap[k]? := hf.block k (by omega) (fun hm => hm.2 hk)
  rw [h4, hb.block k (by omega), h.keep k hk]
theorem lx_put {f : FuncId} {act : Int × DS} (args : Array Value) (h : Lx S w0 B T w g s) (hb : Below w.heap.size w w1) (hT : T' ≤ 1073741824) (hi : act.2.Inv T')
    (hc : ∀ base nb fb v ad, DiskAt w1 g s base (MineX S B w.heap.size w1.heap.size) nb fb v ad → (∀ k, w1.heap.size ≤ k → MineX S B w.heap.size w1.heap.size k) → Calls Try.prog f args w1 (DiskPost w1 g base (MineX S B w.heap.size w1.heap.size) nb fb act)) :
    Calls Try.prog f args w1 (LxPost S w0 B T' w.heap.size w1 g act) := by
  obtain ⟨base, nb, fb, v, ad, h1, h2⟩ := lx_mine h hb
  refine (hc base nb fb v ad h2 (lx_fresh h hb)).mono ?_
  rintro e w2 ⟨rfl, ⟨v', ad', hd⟩, hf⟩
  exact ⟨rfl, lx_after h hb h1 hd hf hi hT, hf.mono (fun k hk => hk.1)⟩
theorem lx_write (n : ByteArray) (b : List Int) (A : Option Addr) (c : Nat) (h : Lx S w0 B T w g s) (hb : Below w.heap.size w w1) (hT : T + 2 + b.length ≤ 1073741824) (hs : n.size ≤ maxLen) (hc : b.length ≤ c) (hC : bK.C w1 A b.length b) (hA : ∀ a, A = some a → ¬ Mine B w.heap.size w1.heap.size a.block) :
    Calls Try.prog 12 #[ptrV g, .string n, .slice A b.length c] w1 (LxPost S w0 B (T + 2 + b.length) w.heap.size w1 g (s.Write n b)) :=
  lx_put _ h hb hT (Inv.Write h.inv n b) (fun base nb fb v ad hd hfr => write_calls n b A c hd h.inv h.le hfr hs (by omega) hc (fun W' hW => C_fr hC (fun a ha hm => hA a ha hm.1) hW))
theorem lx_append (n : ByteArray) (b : List Int) (A : Option Addr) (c : Nat) (h : Lx S w0 B T w g s) (hb : Below w.heap.size w w1) (hT : T + 2 + b.length ≤ 1073741824) (hs : n.size ≤ maxLen) (hc : b.length ≤ c) (hC : bK.C w1 A b.length b) (hA : ∀ a, A = some a → ¬ Mine B w.heap.size w1.heap.size a.block) :
    Calls Try.prog 17 #[ptrV g, .string n, .slice A b.length c] w1 (LxPost S w0 B (T + 2 + b.length) w.heap.size w1 g (s.Append n b)) :=
  lx_put _ h hb hT (Inv.Append h.inv n b) (fun base nb fb v ad hd hfr => append_calls n b A c hd h.inv h.le hfr hs (by omega) hc (fun W' hW => C_fr hC (fun a ha hm => hA a ha hm.1) hW))
theorem lx_flush (n : ByteArray) (h : Lx S w0 B T w g s) (hs : n.size ≤ maxLen) : Calls Try.prog 18 #[ptrV g, .string n] w (LxPost S w0 B T w.heap.size w g (s.Flush n)) :=
  lx_put _ h (Below.refl _ _) h.le (Inv.Flush h.inv n) (fun base nb fb v ad hd hfr => flush_calls n hd h.inv h.le hfr hs)
theorem lx_rename (a b : ByteArray) (h : Lx S w0 B T w g s) (hT : T + 1 ≤ 1073741824) (ha : a.size ≤ maxLen) (hb : b.size ≤ maxLen) : Calls Try.prog 13 #[ptrV g, .string a, .string b] w (LxPost S w0 B (T + 1) w.heap.size w g (s.Rename a b)) :=
  lx_put _ h (Below.refl _ _) hT (Inv.Rename h.inv a b) (fun base nb fb v ad hd hfr => rename_calls a b hd h.inv h.le hfr ha hb)
theorem lx_remove (n : ByteArray) (h : Lx S w0 B T w g s) (hT : T + 1 ≤ 1073741824) (hs : n.size ≤ maxLen) : Calls Try.prog 14 #[ptrV g, .string n] w (LxPost S w0 B (T + 1) w.heap.size w g (s.Remove n)) :=
  lx_put _ h (Below.refl _ _) hT (Inv.Remove h.inv n) (fun base nb fb v ad hd hfr => remove_calls n hd h.inv h.le hfr hs)
theorem lx_sync (h : Lx S w0 B T w g s) : Calls Try.prog 20 #[ptrV g] w (LxPost S w0 B T w.heap.size w g s.Sync) :=
  lx_put _ h (Below.refl _ _) h.le (Inv.Sync h.inv) (fun base nb fb v ad hd hfr => sync_calls hd h.inv h.le hfr)
theorem lx_fuse (n : Int) (h : Lx S w0 B T w g s) (hn : n ≤ 9223372036854775807) : Calls Try.prog 19 #[ptrV g, .int .i64 n] w (LxPost S w0 B T w.heap.size w g (s.fuse n)) := by
  obtain ⟨base, nb, fb, v, ad, h1, h2⟩ := lx_mine h (Below.refl _ _)
  refine (fuse_calls h2 n).mono ?_
  rintro e w2 ⟨rfl, hd2, hf⟩
  have hf' := hf.mono (S' := MineX S B w.heap.size w.heap.size) (fun k hk => by subst hk; exact h2.okg.1)
  exact ⟨rfl, lx_after h (Below.refl _ _) h1 hd2 hf' (Inv.fuse h.inv n hn) h.le, hf'.mono (fun k hk => hk.1)⟩
theorem lx_on (h : Lx S w0 B T w g s) : Calls Try.prog 21 #[ptrV g] w fun e w' => e = .returned (.bool (!s.off)) ∧ w' = w := lw_on h.lw
theorem lx_crash (keep : List Int) (K : Option Addr) (kc : Nat) (h : Lx S w0 B T w g s) (hb : Below w.heap.size w w1) (hk : ∀ x ∈ keep, x ≤ 9223372036854775807) (hC : (Kd.int .i64).C w1 K keep.length keep) (hA : ∀ a, K = some a → ¬ Mine B w.heap.size w1.heap.size a.block) :
    Calls Try.prog 22 #[ptrV g, .slice K keep.length kc] w1 fun e w2 => e = .returned (.tuple #[]) ∧ Lx S w0 B T w2 g (s.crash keep) ∧ Fr (Mine B w.heap.size w1.heap.size) w1 w2 := by
  obtain ⟨base, nb, fb, v, ad, h1, h2⟩ := lx_mine h hb
  refine (crash_calls keep K kc h2 h.inv h.le (lx_fresh h hb) hk (fun W' hW => C_fr hC (fun a ha hm => hA a ha hm.1) hW)).mono ?_
  rintro e w2 ⟨rfl, ⟨nb', v', ad', hd⟩, hf⟩
  exact ⟨rfl, lx_after h hb h1 hd hf (Inv.crash h.inv keep) h.le, hf.mono (fun k hk => hk.1)⟩
theorem lx_read (n : ByteArray) (h : Lx S w0 B T w g s) (hs : n.size ≤ maxLen) : Calls Try.prog 16 #[ptrV g, .string n] w (ReadPost w (s.read n)) := lw_read n h.lw hs
theorem lx_pend (h : Lx S w0 B T w g s) : Calls Try.prog 31 #[ptrV g] w fun e w' => ∃ A c, e = .returned (.slice A s.works.length c) ∧ pendK.R 74 w' w.heap.size (fun _ => True) (.slice A s.works.length c) (s.works.map pendOf) ∧ Below w.heap.size w w' := lw_pend h.lw
theorem lx_list (h : Lx S w0 B T w g s) : Calls Try.prog 29 #[ptrV g] w fun e w' => ∃ A c, e = .returned (.slice A (listV s).length c) ∧ Kd.string.R 9 w' w.heap.size (fun _ => True) (.slice A (listV s).length c) (listV s) ∧ Below w.heap.size w w' := lw_list h.lw
/-- a row that has come, held -/
theorem row_hold {α : Type} {d : Kd α} {e : Nat} {v : Value} {xs : List α} {lo : Nat} {ok : Nat → Prop} (hr : d.R e w' lo ok v xs) : d.R e w' lo (fun k => S k ∨ (lo ≤ k ∧ k < w'.heap.size)) v xs := by
  refine Kd.R_mono (Kd.R_bound hr) (fun k hk => ?_)
  exact .inr ⟨hk.2.1, hk.2.2.1⟩
end
end Go.Proofs.Ytnegcjgolaakcaa

/- told, with held memory. -/
namespace Go.Proofs.Ytnegcjgolaakcaa
open Go.RowKit Go.Maps
open Go.Proofs.YtnegcjgolaakcaaW.PrintWords Go.Proofs.YtnegcjgolaakcaaW.PrintLast Go.Proofs.YtnegcjgolaakcaaW.PrintMore
set_option linter.unusedVariables false
set_option linter.unusedSimpArgs false
open Pbulk (S62 k62 z62 rd_T62 at_T62)
section
variable {w w0 : World} {g B T : Nat} {s : DS} {S : Nat → Prop}
set_option maxHeartbeats 4000000 in
set_option maxRecDepth 100000 in
theorem told_held (l : List S62) (A : Option Addr) (c : Nat) (h : Lx S w0 B T w g s) (hC : ∀ W', Below B w W' → Kd.C k62 W' A l.length l) (hl : ∀ o ∈ l, OpOk o) (hT : T + opN l ≤ 1073741824) :
    Calls Try.prog 24 #[ptrV g, .slice A l.length c] w fun e w' => e = .returned (.tuple #[]) ∧ Lx S w0 B (T + opN l) w' g (toldS s l) ∧ Below B w w' := by
  have H := Aside0.mk h
  have HC := Aside0.mk hC
  have HL := Aside0.mk hl
  have HT := Aside0.mk hT
  have HLL := Aside0.mk (opN_len l)
  clear h hC hl hT
  go_enter Try.func24, Try.ntmps24
  go_wp2_with fail
  go_loopg [4] l.length (fun kq v4 w' => ∃ i : Nat, v4 = .int .i64 i ∧ Aside0 (i + kq = l.length) ∧ Aside0 (Lx S w0 B (T + opN (l.take i)) w' g (toldS s (l.take i))) ∧ Aside0 (Below B w w'))
  case atStart => exact ⟨0, rfl, ⟨by omega⟩, H, ⟨Below.refl _ _⟩⟩
  case round =>
    obtain ⟨i, rfl, HI, HD, HB⟩ := hrel
    by_cases hlt : i < l.length
    · have d6 : decide ((i : Int) < (l.length : Int)) = true := decide_eq_true (by omega)
      have d7 : decide (i < l.length) = true := decide_eq_true hlt
      have j0 : (0 : Int) ≤ (i : Int) := by omega
      have j1 : (i : Int) < (l.length : Int) := by omega
      obtain ⟨o, ho⟩ : ∃ o, l[i]? = some o := ⟨_, List.getElem?_eq_getElem hlt⟩
      have hrd : rd_T62 l (i : Int) = o := by unfold rd_T62; rw [List.getD_eq_getElem?_getD, Int.toNat_natCast, ho]; rfl
      obtain ⟨ad0, A3, c3, A5, c5, hA0, k0, k1, k2, k3, k4, k5, hc3, hC3, hc5, hC5⟩ := at_T62 (HC.out wr HB.out) (i : Int) j0 j1
      rw [hrd] at k0 k1 k2 k3 k4 k5 hc3 hC3 hc5 hC5
      rw [Int.toNat_natCast] at k0 k1 k2 k3 k4 k5
      subst hA0
      have HC3 := Aside0.mk (And.intro hc3 hC3)
      have HC5 := Aside0.mk (And.intro hc5 hC5)
      have HO := Aside0.mk (HL.out o (List.mem_of_getElem? ho))
      have HN := Aside0.mk (told_next s ho)
      have HNN := Aside0.mk (opN_next ho)
      have HTT : Aside0 (T + opN (l.take (i + 1)) ≤ 1073741824) := ⟨by have h1 := opN_take l (i + 1); have h2 := HT.out; omega⟩
      have HLT := Aside0.mk hlt
      clear hc3 hC3 hc5 hC5 ho hrd hlt
      go_upto_region 4 with fail
      have H1 := Aside0.mk (HD.out.below (w' := wr.alloc (.cells #[.int .i64 o.f0, .string o.f1, .string o.f2, .slice A3 o.f3.length c3, .int .i64 o.f4, .slice A5 o.f5.length c5] 62)) (below_alloc (Below.refl _ _) _))
      have HB1 := Aside0.mk (show Below wr.heap.size wr (wr.alloc (.cells #[.int .i64 o.f0, .string o.f1, .string o.f2, .slice A3 o.f3.length c3, .int .i64 o.f4, .slice A5 o.f5.length c5] 62)) from below_alloc (Below.refl _ _) _)
      have HW1 := Aside0.mk (blk_new wr (.cells #[.int .i64 o.f0, .string o.f1, .string o.f2, .slice A3 o.f3.length c3, .int .i64 o.f4, .slice A5 o.f5.length c5] 62))
      generalize wr.alloc (.cells #[.int .i64 o.f0, .string o.f1, .string o.f2, .slice A3 o.f3.length c3, .int .i64 o.f4, .slice A5 o.f5.length c5] 62) = w2 at *
      have HC3' := Aside0.mk (Kd.C_below HC3.out.2 HB1.out)
      have HC5' := Aside0.mk (Kd.C_below HC5.out.2 HB1.out)
      have HB2 := Aside0.mk (HB.out.trans (HB1.out.mono (Nat.le_trans HD.out.size (Nat.le_refl _))))
      clear k0 k1 k2 k3 k4 k5
      generalize wr.heap.size = gx at *
      have k0 : w2.cell? ⟨gx, 0, none⟩ = some (.int .i64 o.f0) := (blk_cell HW1.out 0).trans rfl
      have k1 : w2.cell? ⟨gx, 1, none⟩ = some (.string o.f1) := (blk_cell HW1.out 1).trans rfl
      have k2 : w2.cell? ⟨gx, 2, none⟩ = some (.string o.f2) := (blk_cell HW1.out 2).trans rfl
      have k3 : w2.cell? ⟨gx, 3, none⟩ = some (.slice A3 o.f3.length c3) := (blk_cell HW1.out 3).trans rfl
      have k4 : w2.cell? ⟨gx, 4, none⟩ = some (.int .i64 o.f4) := (blk_cell HW1.out 4).trans rfl
      have k5 : w2.cell? ⟨gx, 5, none⟩ = some (.slice A5 o.f5.length c5) := (blk_cell HW1.out 5).trans rfl
      have hgx := blk_lt HW1.out
      obtain ⟨n3, hn3⟩ : ∃ n3, n3 = o.f3.length := ⟨_, rfl⟩
      rw [← hn3] at k3 HC3'
      have HN3 := Aside0.mk hn3
      have HL3 : Aside0 (n3 ≤ 1073741824) := ⟨by have h1 := HTT.out; have h2 := HNN.out; omega⟩
      clear hn3
      go_upto_region 5 with ((with_reducible refine gate_builtin (b := .append) (xs := #[.const (.slice none 0 0), .tmp 18]) rfl ?_); at_builtin; refine Kd.R_append_rows bK (Rr := bK.K w2) (w0 := w2) w2.heap.size rfl (.const (.slice none 0 0)) (.tmp 18) 30 5 (.int .u8 0) 1 rfl Try.underlying30 info5 rfl (by decide) (by decide) (.slice none 0 0) [] o.f3 A3 n3 c3 (fun _ => True) (fun _ => False) rfl rfl ?aO ?aR ?aK (fun _ hk => hk.elim) (fun _ _ => trivial) ?aB ?aS ?aL ?_; (case aO => exact Kd.R_nil _ _ _ _ _); (case aR => exact HC3'.out); (case aK => exact fun x cs h => h); (case aB => exact Below.refl _ _); (case aS => exact Nat.le_refl _); (case aL => have := HL3.out; simp only [List.length_nil]; omega); intro v6 w3 ho hb hg hat; rw [List.nil_append] at ho; have HO3 := Aside0.mk ho; have HB3 := Aside0.mk hb; clear ho hb hg hat)
      obtain ⟨A6, c6, hv6⟩ := Kd.R_slice HO3.out
      subst hv6
      have HW3 := Aside0.mk (blk_below HW1.out HB3.out)
      have HC6 := Aside0.mk (Kd.R_reads' HO3.out).2
      clear k0 k1 k2 k3 k4 k5 hgx
      have k0 : w3.cell? ⟨gx, 0, none⟩ = some (.int .i64 o.f0) := (blk_cell HW3.out 0).trans rfl
      have k1 : w3.cell? ⟨gx, 1, none⟩ = some (.string o.f1) := (blk_cell HW3.out 1).trans rfl
      have k2 : w3.cell? ⟨gx, 2, none⟩ = some (.string o.f2) := (blk_cell HW3.out 2).trans rfl
      have k4 : w3.cell? ⟨gx, 4, none⟩ = some (.int .i64 o.f4) := (blk_cell HW3.out 4).trans rfl
      have k5 : w3.cell? ⟨gx, 5, none⟩ = some (.slice A5 o.f5.length c5) := (blk_cell HW3.out 5).trans rfl
      have hgx := blk_lt HW3.out
      have H3 := Aside0.mk (H1.out.below HB3.out)
      have HBw3 := Aside0.mk (HB2.out.trans (HB3.out.mono H1.out.size))
      by_cases z0 : o.f0 = 0
      · have HOP : Aside0 (opS (toldS s (l.take i)) o = ((toldS s (l.take i)).Write o.f1 o.f3).2) := ⟨by unfold opS; rw [if_pos z0]⟩
        have y0 : (o.f0 == 0) = true := by simp [z0]
        clear z0
        go_wp2_with fail
        refine (lx_write o.f1 o.f3 A6 c6 H1.out HB3.out (by have h1 := HTT.out; have h2 := HNN.out; have h3 := HN3.out; omega) HO.out.1 HC6.out.1 HC6.out.2 (row_mine HO3.out)).mono ?_
        rintro e w4 ⟨rfl, hd, hf⟩
        have HB4 := Aside0.mk (lw_below HBw3.out H3.out.size hf)
        have H4 := Aside0.mk hd
        clear hd hf
        go_wp2_with fail
        go_roundg (gk - 1)
        case measure => have := HI.out; have := HLT.out; omega
        case rel => exact ⟨i + 1, next_i6 (by have h1 := HLL.out; have h2 := HT.out; have := HLT.out; omega), ⟨by have := HI.out; have := HLT.out; omega⟩, ⟨by rw [HN.out, HOP.out]; exact H4.out.more (by rw [HNN.out]; omega) HTT.out⟩, HB4⟩
      have y0 : (o.f0 == 0) = false := by simpa using z0
      by_cases z1 : o.f0 = 1
      · have HOP : Aside0 (opS (toldS s (l.take i)) o = ((toldS s (l.take i)).Append o.f1 o.f3).2) := ⟨by unfold opS; rw [if_neg z0, if_pos z1]⟩
        have y1 : (o.f0 == 1) = true := by simp [z1]
        clear z0 z1
        go_wp2_with fail
        refine (lx_append o.f1 o.f3 A6 c6 H1.out HB3.out (by have h1 := HTT.out; have h2 := HNN.out; have h3 := HN3.out; omega) HO.out.1 HC6.out.1 HC6.out.2 (row_mine HO3.out)).mono ?_
        rintro e w4 ⟨rfl, hd, hf⟩
        have HB4 := Aside0.mk (lw_below HBw3.out H3.out.size hf)
        have H4 := Aside0.mk hd
        clear hd hf
        go_wp2_with fail
        go_roundg (gk - 1)
        case measure => have := HI.out; have := HLT.out; omega
        case rel => exact ⟨i + 1, next_i6 (by have h1 := HLL.out; have h2 := HT.out; have := HLT.out; omega), ⟨by have := HI.out; have := HLT.out; omega⟩, ⟨by rw [HN.out, HOP.out]; exact H4.out.more (by rw [HNN.out]; omega) HTT.out⟩, HB4⟩
      have y1 : (o.f0 == 1) = false := by simpa using z1
      by_cases z2 : o.f0 = 2
      · have HOP : Aside0 (opS (toldS s (l.take i)) o = ((toldS s (l.take i)).Flush o.f1).2) := ⟨by unfold opS; rw [if_neg z0, if_neg z1, if_pos z2]⟩
        have y2 : (o.f0 == 2) = true := by simp [z2]
        clear z0 z1 z2
        go_wp2_with fail
        refine (lx_flush o.f1 H3.out HO.out.1).mono ?_
        rintro e w4 ⟨rfl, hd, hf⟩
        have HB4 := Aside0.mk (lw_below HBw3.out H3.out.size hf)
        have H4 := Aside0.mk hd
        clear hd hf
        go_wp2_with fail
        go_roundg (gk - 1)
        case measure => have := HI.out; have := HLT.out; omega
        case rel => exact ⟨i + 1, next_i6 (by have h1 := HLL.out; have h2 := HT.out; have := HLT.out; omega), ⟨by have := HI.out; have := HLT.out; omega⟩, ⟨by rw [HN.out, HOP.out]; exact H4.out.more (by rw [HNN.out]; omega) HTT.out⟩, HB4⟩
      have y2 : (o.f0 == 2) = false := by simpa using z2
      by_cases z3 : o.f0 = 3
      · have HOP : Aside0 (opS (toldS s (l.take i)) o = ((toldS s (l.take i)).Rename o.f1 o.f2).2) := ⟨by unfold opS; rw [if_neg z0, if_neg z1, if_neg z2, if_pos z3]⟩
        have y3 : (o.f0 == 3) = true := by simp [z3]
        clear z0 z1 z2 z3
        go_wp2_with fail
        refine (lx_rename o.f1 o.f2 H3.out (by have h1 := HTT.out; have h2 := HNN.out; omega) HO.out.1 HO.out.2.1).mono ?_
        rintro e w4 ⟨rfl, hd, hf⟩
        have HB4 := Aside0.mk (lw_below HBw3.out H3.out.size hf)
        have H4 := Aside0.mk hd
        clear hd hf
        go_wp2_with fail
        go_roundg (gk - 1)
        case measure => have := HI.out; have := HLT.out; omega
        case rel => exact ⟨i + 1, next_i6 (by have h1 := HLL.out; have h2 := HT.out; have := HLT.out; omega), ⟨by have := HI.out; have := HLT.out; omega⟩, ⟨by rw [HN.out, HOP.out]; exact H4.out.more (by rw [HNN.out]; omega) HTT.out⟩, HB4⟩
      have y3 : (o.f0 == 3) = false := by simpa using z3
      by_cases z4 : o.f0 = 4
      · have HOP : Aside0 (opS (toldS s (l.take i)) o = ((toldS s (l.take i)).Remove o.f1).2) := ⟨by unfold opS; rw [if_neg z0, if_neg z1, if_neg z2, if_neg z3, if_pos z4]⟩
        have y4 : (o.f0 == 4) = true := by simp [z4]
        clear z0 z1 z2 z3 z4
        go_wp2_with fail
        refine (lx_remove o.f1 H3.out (by have h1 := HTT.out; have h2 := HNN.out; omega) HO.out.1).mono ?_
        rintro e w4 ⟨rfl, hd, hf⟩
        have HB4 := Aside0.mk (lw_below HBw3.out H3.out.size hf)
        have H4 := Aside0.mk hd
        clear hd hf
        go_wp2_with fail
        go_roundg (gk - 1)
        case measure => have := HI.out; have := HLT.out; omega
        case rel => exact ⟨i + 1, next_i6 (by have h1 := HLL.out; have h2 := HT.out; have := HLT.out; omega), ⟨by have := HI.out; have := HLT.out; omega⟩, ⟨by rw [HN.out, HOP.out]; exact H4.out.more (by rw [HNN.out]; omega) HTT.out⟩, HB4⟩
      have y4 : (o.f0 == 4) = false := by simpa using z4
      by_cases z5 : o.f0 = 5
      · have HOP : Aside0 (opS (toldS s (l.take i)) o = (toldS s (l.take i)).Sync.2) := ⟨by unfold opS; rw [if_neg z0, if_neg z1, if_neg z2, if_neg z3, if_neg z4, if_pos z5]⟩
        have y5 : (o.f0 == 5) = true := by simp [z5]
        clear z0 z1 z2 z3 z4 z5
        go_wp2_with fail
        refine (lx_sync H3.out).mono ?_
        rintro e w4 ⟨rfl, hd, hf⟩
        have HB4 := Aside0.mk (lw_below HBw3.out H3.out.size hf)
        have H4 := Aside0.mk hd
        clear hd hf
        go_wp2_with fail
        go_roundg (gk - 1)
        case measure => have := HI.out; have := HLT.out; omega
        case rel => exact ⟨i + 1, next_i6 (by have h1 := HLL.out; have h2 := HT.out; have := HLT.out; omega), ⟨by have := HI.out; have := HLT.out; omega⟩, ⟨by rw [HN.out, HOP.out]; exact H4.out.more (by rw [HNN.out]; omega) HTT.out⟩, HB4⟩
      have y5 : (o.f0 == 5) = false := by simpa using z5
      by_cases z6 : o.f0 = 6
      · have HOP : Aside0 (opS (toldS s (l.take i)) o = ((toldS s (l.take i)).fuse o.f4).2) := ⟨by unfold opS; rw [if_neg z0, if_neg z1, if_neg z2, if_neg z3, if_neg z4, if_neg z5, if_pos z6]⟩
        have y6 : (o.f0 == 6) = true := by simp [z6]
        clear z0 z1 z2 z3 z4 z5 z6
        go_wp2_with fail
        refine (lx_fuse o.f4 H3.out HO.out.2.2.1).mono ?_
        rintro e w4 ⟨rfl, hd, hf⟩
        have HB4 := Aside0.mk (lw_below HBw3.out H3.out.size hf)
        have H4 := Aside0.mk hd
        clear hd hf
        go_wp2_with fail
        go_roundg (gk - 1)
        case measure => have := HI.out; have := HLT.out; omega
        case rel => exact ⟨i + 1, next_i6 (by have h1 := HLL.out; have h2 := HT.out; have := HLT.out; omega), ⟨by have := HI.out; have := HLT.out; omega⟩, ⟨by rw [HN.out, HOP.out]; exact H4.out.more (by rw [HNN.out]; omega) HTT.out⟩, HB4⟩
      have y6 : (o.f0 == 6) = false := by simpa using z6
      by_cases z7 : o.f0 = 7
      · have HOP : Aside0 (opS (toldS s (l.take i)) o = (toldS s (l.take i)).crash o.f5) := ⟨by unfold opS; rw [if_neg z0, if_neg z1, if_neg z2, if_neg z3, if_neg z4, if_neg z5, if_neg z6, if_pos z7]⟩
        have y7 : (o.f0 == 7) = true := by simp [z7]
        clear z0 z1 z2 z3 z4 z5 z6 z7
        obtain ⟨n5, hn5⟩ : ∃ n5, n5 = o.f5.length := ⟨_, rfl⟩
        rw [← hn5] at k5 HC5'
        have HN5 := Aside0.mk hn5
        have HL5 : Aside0 (n5 ≤ 1000000000000) := ⟨by rw [hn5]; exact HO.out.2.2.2.2⟩
        have HC5w := Aside0.mk (Kd.C_below HC5'.out HB3.out)
        clear hn5
        go_wp2_with ((with_reducible refine gate_builtin (b := .append) (xs := #[.const (.slice none 0 0), .tmp 70]) rfl ?_); at_builtin; refine Kd.R_append_rows (Kd.int .i64) (Rr := (Kd.int .i64).K w3) (w0 := w3) w3.heap.size rfl (.const (.slice none 0 0)) (.tmp 70) 37 3 (.int .i64 0) 8 rfl Try.underlying37 info3 rfl (by decide) (by decide) (.slice none 0 0) [] o.f5 A5 n5 c5 (fun _ => True) (fun _ => False) rfl rfl ?aO ?aR ?aK (fun _ hk => hk.elim) (fun _ _ => trivial) ?aB ?aS ?aL ?_; (case aO => exact Kd.R_nil _ _ _ _ _); (case aR => exact HC5w.out); (case aK => exact fun x cs h => h); (case aB => exact Below.refl _ _); (case aS => exact Nat.le_refl _); (case aL => have := HL5.out; simp only [List.length_nil]; omega); intro v7 w4 ho hb hg hat; rw [List.nil_append] at ho; have HO7 := Aside0.mk ho; have HB7 := Aside0.mk hb; obtain ⟨A7, c7, hv7⟩ := Kd.R_slice HO7.out; clear ho hb hg hat k0 k1 k2 k4 k5 hgx; subst hv7)
        refine (lx_crash o.f5 A7 c7 H3.out HB7.out HO.out.2.2.2.1 (Kd.R_reads' HO7.out).2.2 (row_mine HO7.out)).mono ?_
        rintro e w5 ⟨rfl, hd, hf⟩
        have HB4 := Aside0.mk (lw_below (HBw3.out.trans (HB7.out.mono H3.out.size)) (Nat.le_trans H3.out.size HB7.out.size) hf)
        have H4 := Aside0.mk hd
        clear hd hf
        go_wp2_with fail
        go_roundg (gk - 1)
        case measure => have := HI.out; have := HLT.out; omega
        case rel => exact ⟨i + 1, next_i6 (by have h1 := HLL.out; have h2 := HT.out; have := HLT.out; omega), ⟨by have := HI.out; have := HLT.out; omega⟩, ⟨by rw [HN.out, HOP.out]; exact H4.out.more (by rw [HNN.out]; omega) HTT.out⟩, HB4⟩
      have y7 : (o.f0 == 7) = false := by simpa using z7
      have HOP : Aside0 (opS (toldS s (l.take i)) o = toldS s (l.take i)) := ⟨by unfold opS; rw [if_neg z0, if_neg z1, if_neg z2, if_neg z3, if_neg z4, if_neg z5, if_neg z6, if_neg z7]⟩
      have H4 := H3
      have HB4 := HBw3
      clear z0 z1 z2 z3 z4 z5 z6 z7
      go_wp2_with fail
      go_roundg (gk - 1)
      case measure => have := HI.out; have := HLT.out; omega
      case rel => exact ⟨i + 1, next_i6 (by have h1 := HLL.out; have h2 := HT.out; have := HLT.out; omega), ⟨by have := HI.out; have := HLT.out; omega⟩, ⟨by rw [HN.out, HOP.out]; exact H4.out.more (by rw [HNN.out]; omega) HTT.out⟩, HB4⟩
    · have d6 : decide ((i : Int) < (l.length : Int)) = false := decide_eq_false (by omega)
      have d7 : decide (i < l.length) = false := decide_eq_false hlt
      obtain rfl : i = l.length := by have := HI.out; omega
      rw [List.take_length] at HD
      clear hlt
      go_wp2_with fail
      go_end0
      exact ⟨rfl, HD.out, HB.out⟩
end
end Go.Proofs.Ytnegcjgolaakcaa

/- naming: is any work that waits one of names? -/
namespace Go.Proofs.Ytnegcjgolaakcaa
open Go.RowKit Go.Maps
open Go.Proofs.YtnegcjgolaakcaaW.PrintWords Go.Proofs.YtnegcjgolaakcaaW.PrintLast Go.Proofs.YtnegcjgolaakcaaW.PrintMore
set_option linter.unusedVariables false
set_option linter.unusedSimpArgs false
/-- a work that waits, in a row -/
theorem at_P {w : World} {A : Option Addr} {n : Nat} {xs : List (Int × ByteArray × ByteArray × Int)} (h : pendK.C w A n xs) (i : Nat) (h1 : i < n) : ∃ (ad : Addr) (x : Int × ByteArray × ByteArray × Int), A = some ad ∧ xs[i]? = some x ∧ w.cell? (ad.add (i * 4)) = some (.int .i64 x.1) ∧ w.cell? (ad.add (i * 4 + 1)) = some (.string x.2.1) ∧ w.cell? (ad.add (i * 4 + 2)) = some (.string x.2.2.1) ∧ w.cell? (ad.add (i * 4 + 3)) = some (.int .i64 x.2.2.2) := by
  have hl : i < xs.length := by have := h.1; omega
  obtain ⟨ad, c, e, _, hK, hc0⟩ := Kd.C_get h xs[i] (i : Int) (by omega) (by omega)
  have hx : xs.getD ((i : Int)).toNat xs[i] = xs[i] := by
    rw [List.getD_eq_getElem?_getD, Int.toNat_natCast, List.getElem?_eq_getElem hl]
    rfl
  rw [hx] at hK
  have hc : ∀ j u, c[j]? = some u → w.cell? (ad.add (i * 4 + j)) = some u := hc0
  obtain ⟨_, _, rfl, rfl, _, _, rfl, rfl, _, _, rfl, rfl, rfl⟩ := hK
  exact ⟨ad, xs[i], e, List.getElem?_eq_getElem hl, hc 0 _ rfl, hc 1 _ rfl, hc 2 _ rfl, hc 3 _ rfl⟩
def namingV (s : DS) : Bool := s.works.any (fun p => decide (2 < p.kind))
section
variable {w w0 : World} {g B T : Nat} {s : DS} {S : Nat → Prop}
set_option maxHeartbeats 4000000 in
set_option maxRecDepth 100000 in
theorem nam_calls (h : Lw B T w g s) : Calls Try.prog 30 #[ptrV g] w fun e w' => e = .returned (.bool (namingV s)) ∧ Below w.heap.size w w' := by
  have H := Aside0.mk h
  clear h
  go_enter Try.func30, Try.ntmps30
  go_wp2_with fail
  refine (lw_pend H.out).mono ?_
  rintro e w1 ⟨A, c, rfl, hR, hb⟩
  have HC := Aside0.mk (Kd.R_reads' hR).2.2
  have HB := Aside0.mk hb
  have HN := Aside0.mk (show namingV s = s.works.any (fun p => decide (2 < p.kind)) from rfl)
  have HW : Aside0 (s.works.length ≤ 1073741824) := ⟨by have h1 := H.out.2.1.lw; have h2 := H.out.2.2; omega⟩
  generalize s.works = W at *
  clear hR hb
  go_wp2_with fail
  go_loopg [4] W.length (fun kq v4 w' => ∃ i : Nat, v4 = .int .i64 i ∧ Aside0 (i + kq = W.length ∧ ∀ p ∈ W.take i, ¬ 2 < p.kind) ∧ Aside0 (w' = w1))
  case atStart => exact ⟨0, rfl, ⟨by omega, by simp⟩, ⟨rfl⟩⟩
  case round =>
    obtain ⟨i, rfl, HI, HWW⟩ := hrel
    obtain rfl := HWW.out
    by_cases hlt : i < W.length
    · have d6 : decide ((i : Int) < (W.length : Int)) = true := decide_eq_true (by omega)
      have d7 : decide (i < W.length) = true := decide_eq_true hlt
      have j0 : (0 : Int) ≤ (i : Int) := by omega
      have j1 : (i : Int) < (W.length : Int) := by omega
      obtain ⟨ad, x, hA, hx, k0, k1, k2, k3⟩ := at_P HC.out i (by rw [List.length_map]; exact hlt)
      subst hA
      rw [List.getElem?_map, List.getElem?_eq_getElem hlt] at hx
      have hx' : pendOf W[i] = x := Option.some.inj hx
      have hk : x.1 = W[i].kind := by rw [← hx']; rfl
      have HK := Aside0.mk hk
      generalize x.1 = kk at *
      clear hx hx' k1 k2 k3 hk
      by_cases hz : 2 < kk
      · have d8 : decide (2 < kk) = true := decide_eq_true hz
        have hV : namingV s = true := by rw [HN.out]; exact List.any_eq_true.2 ⟨W[i], List.getElem_mem hlt, decide_eq_true (by rw [← HK.out]; exact hz)⟩
        clear hz
        go_wp2_with fail
        go_ret
        exact ⟨rfl, HB.out⟩
      · have d8 : decide (2 < kk) = false := decide_eq_false hz
        have HZ := Aside0.mk hz
        clear hz
        go_wp2_with fail
        go_roundg (gk - 1)
        case measure => have := HI.out.1; omega
        case rel =>
          refine ⟨i + 1, next_i6 (by have := HW.out; omega), ⟨by have := HI.out.1; omega, fun p hp => ?_⟩, ⟨rfl⟩⟩
          rw [List.take_succ_eq_append_getElem hlt, List.mem_append] at hp
          rcases hp with hp | hp
          · exact HI.out.2 p hp
          · rw [List.mem_singleton.1 hp, ← HK.out]; exact HZ.out
    · have d6 : decide ((i : Int) < (W.length : Int)) = false := decide_eq_false (by omega)
      have d7 : decide (i < W.length) = false := decide_eq_false hlt
      have hV : namingV s = false := by
        rw [HN.out]
        refine List.any_eq_false.2 (fun p hp => ?_)
        have h1 := HI.out.2 p (by rw [List.take_of_length_le (by omega)]; exact hp)
        simpa using h1
      go_wp2_with fail
      go_ret
      exact ⟨rfl, HB.out⟩
end
end Go.Proofs.Ytnegcjgolaakcaa

/- What a disk tells in lists: in memory. -/
namespace Go.Proofs.Ytnegcjgolaakcaa
open Go.RowKit Go.Maps
open Go.Proofs.YtnegcjgolaakcaaW.PrintWords Go.Proofs.YtnegcjgolaakcaaW.PrintLast Go.Proofs.YtnegcjgolaakcaaW.PrintMore
set_option linter.unusedVariables false
set_option linter.unusedSimpArgs false
structure Sn where
  names : List ByteArray
  works : List (Int × ByteArray × ByteArray × Int)
  bytes : List (List Int)
def readsOf (s : DS) (n : ByteArray) : List Int := (s.read n).1
def seenOf (s : DS) : Sn := ⟨listV s, s.works.map pendOf, (listV s).map (readsOf s)⟩
abbrev bbK : Kd (List Int) := Kd.slice 5 bK
structure SeenR (w : World) (base : Nat) (ok : Nat → Prop) (v0 v1 v2 : Value) (x : Sn) : Prop where
  n : Kd.string.R 9 w base ok v0 x.names
  p : pendK.R 74 w base ok v1 x.works
  b : bbK.R 30 w base ok v2 x.bytes
section
variable {w w0 w' : World} {base : Nat} {ok ok' S : Nat → Prop} {v0 v1 v2 : Value} {x : Sn} {B T g : Nat} {s : DS}
theorem SeenR.step (h : SeenR w base ok v0 v1 v2 x) (hm : ∀ k, ok k → k < w.heap.size → w'.heap[k]? = w.heap[k]?) : SeenR w' base ok v0 v1 v2 x := ⟨Kd.R_step h.n hm, Kd.R_step h.p hm, Kd.R_step h.b hm⟩
theorem SeenR.mono (h : SeenR w base ok v0 v1 v2 x) (hk : ∀ k, ok k → ok' k) : SeenR w base ok' v0 v1 v2 x := ⟨Kd.R_mono h.n hk, Kd.R_mono h.p hk, Kd.R_mono h.b hk⟩
theorem SeenR.below (h : SeenR w base ok v0 v1 v2 x) (hb : Below w.heap.size w w') : SeenR w' base ok v0 v1 v2 x := h.step (fun k _ hk => hb.block k hk)
theorem SeenR.bound (h : SeenR w base ok v0 v1 v2 x) : SeenR w base (fun k => ok k ∧ base ≤ k ∧ k < w.heap.size) v0 v1 v2 x :=
  ⟨Kd.R_mono (Kd.R_bound h.n) (fun k hk => ⟨hk.1, hk.2.1, hk.2.2.1⟩), Kd.R_mono (Kd.R_bound h.p) (fun k hk => ⟨hk.1, hk.2.1, hk.2.2.1⟩), Kd.R_mono (Kd.R_bound h.b) (fun k hk => ⟨hk.1, hk.2.1, hk.2.2.1⟩)⟩
theorem SeenR.hold {lo : Nat} (h : SeenR w' lo ok v0 v1 v2 x) : SeenR w' lo (fun k => S k ∨ (lo ≤ k ∧ k < w'.heap.size)) v0 v1 v2 x := h.bound.mono (fun k hk => .inr hk.2)
theorem Lx.seen (h : Lx S w0 B T w g s) (hr : SeenR w0 base S v0 v1 v2 x) : SeenR w base S v0 v1 v2 x := hr.step (fun k hk _ => h.keep k hk)
theorem SeenR.lower {base' : Nat} (h : SeenR w base ok v0 v1 v2 x) (hb : base' ≤ base) : SeenR w base' ok v0 v1 v2 x := ⟨Kd.R_lower h.n hb, Kd.R_lower h.p hb, Kd.R_lower h.b hb⟩
/-- a cell of a struct's block is set: rows stay -/
theorem SeenR.set {gx t : Nat} {cs : Array Value} (h : SeenR w base ok v0 v1 v2 x) (hI : IsB w gx cs t) (ht : t ≠ 9 ∧ t ≠ 74 ∧ t ≠ 30 ∧ t ≠ 5) (j : Nat) (u : Value) : SeenR (w.setCell ⟨gx, j, none⟩ u) base ok v0 v1 v2 x := by
  have e0 : ∀ q, q ∈ 9 :: Kd.string.E → q ≠ t := by
    intro q hq
    have hq' : q ∈ [9] := hq
    rw [List.mem_singleton.1 hq']
    exact fun h => ht.1 h.symm
  have e1 : ∀ q, q ∈ 74 :: pendK.E → q ≠ t := by
    intro q hq
    have hq' : q ∈ [74] := hq
    rw [List.mem_singleton.1 hq']
    exact fun h => ht.2.1 h.symm
  have e2 : ∀ q, q ∈ 30 :: bbK.E → q ≠ t := by
    intro q hq
    have hq' : q ∈ [30, 5] := hq
    rcases List.mem_cons.1 hq' with rfl | hq'
    · exact fun h => ht.2.2.1 h.symm
    · rw [List.mem_singleton.1 hq']
      exact fun h => ht.2.2.2 h.symm
  exact ⟨Kd.R_set h.n hI e0 j u, Kd.R_set h.p hI e1 j u, Kd.R_set h.b hI e2 j u⟩
end
/-- two works that wait, compared (printed by the kit's print.py) -/
theorem eqA74 (d : Nat) (w : World) (x0 y0 : Int) (x1 y1 : ByteArray) (x2 y2 : ByteArray) (x3 y3 : Int) :
    (Op.equalIn (d + 2) 74 (.agg #[.int .i64 x0, .string x1, .string x2, .int .i64 x3]) (.agg #[.int .i64 y0, .string y1, .string y2, .int .i64 y3])).run Try.prog w = .ok (x0 == y0 && (x1.toList == y1.toList && (x2.toList == y2.toList && (x3 == y3)))) w := by
  refine eqA_of Try.underlying74 (by kernel_rfl) ?_
  refine eqf_cons (by rfl) (by go_simp; rfl) (by go_simp; rfl) (by go_simp) ?_
  refine eqf_cons (by rfl) (by go_simp; rfl) (by go_simp; rfl) (by go_simp) ?_
  refine eqf_cons (by rfl) (by go_simp; rfl) (by go_simp; rfl) (by go_simp) ?_
  exact eqf_last (by rfl) (by go_simp; rfl) (by go_simp; rfl) (by go_simp)
theorem E_str (q : Nat) (h : q ∈ 9 :: Kd.string.E) : q ≠ 30 ∧ q ≠ 5 := by
  have hq' : q ∈ [9] := h
  rw [List.mem_singleton.1 hq']
  decide
theorem E_pend (q : Nat) (h : q ∈ 74 :: pendK.E) : q ≠ 30 ∧ q ≠ 5 ∧ q ≠ 9 := by
  have hq' : q ∈ [74] := h
  rw [List.mem_singleton.1 hq']
  decide
end Go.Proofs.Ytnegcjgolaakcaa

/- is: two that are told the same are the same. -/
namespace Go.Proofs.Ytnegcjgolaakcaa
open Go.RowKit Go.Maps
open Go.Proofs.YtnegcjgolaakcaaW.PrintWords Go.Proofs.YtnegcjgolaakcaaW.PrintLast Go.Proofs.YtnegcjgolaakcaaW.PrintMore
set_option linter.unusedVariables false
set_option linter.unusedSimpArgs false
attribute [local go_sem high] eqA74
/-- what is told, read -/
structure SeenC (w : World) (v0 v1 v2 : Value) (n0 n1 n2 : Nat) (x : Sn) : Prop where
  n : ∃ A c, v0 = .slice A n0 c ∧ n0 ≤ c ∧ n0 = x.names.length ∧ Kd.string.C w A n0 x.names
  p : ∃ A c, v1 = .slice A n1 c ∧ n1 ≤ c ∧ n1 = x.works.length ∧ pendK.C w A n1 x.works
  b : ∃ A c, v2 = .slice A n2 c ∧ n2 ≤ c ∧ n2 = x.bytes.length ∧ bbK.C w A n2 x.bytes
section
variable {w w' : World} {base : Nat} {ok : Nat → Prop} {v0 v1 v2 u0 u1 u2 : Value} {x : Sn} {n0 n1 n2 : Nat}
theorem SeenR.reads (h : SeenR w base ok v0 v1 v2 x) : SeenC w v0 v1 v2 x.names.length x.works.length x.bytes.length x := by
  obtain ⟨A0, c0, e0, l0, C0⟩ := Kd.R_reads h.n
  obtain ⟨A1, c1, e1, l1, C1⟩ := Kd.R_reads h.p
  obtain ⟨A2, c2, e2, l2, C2⟩ := Kd.R_reads h.b
  exact ⟨⟨A0, c0, e0, l0, rfl, C0⟩, ⟨A1, c1, e1, l1, rfl, C1⟩, ⟨A2, c2, e2, l2, rfl, C2⟩⟩
theorem SeenC.below (h : SeenC w v0 v1 v2 n0 n1 n2 x) (hb : Below w.heap.size w w') : SeenC w' v0 v1 v2 n0 n1 n2 x := by
  obtain ⟨⟨A0, c0, e0, l0, m0, C0⟩, ⟨A1, c1, e1, l1, m1, C1⟩, ⟨A2, c2, e2, l2, m2, C2⟩⟩ := h
  exact ⟨⟨A0, c0, e0, l0, m0, Kd.C_below C0 hb⟩, ⟨A1, c1, e1, l1, m1, Kd.C_below C1 hb⟩, ⟨A2, c2, e2, l2, m2, Kd.C_below C2 hb⟩⟩
theorem SeenC.shape (h : SeenC w v0 v1 v2 n0 n1 n2 x) : ∃ A0 c0 A1 c1 A2 c2, v0 = .slice A0 n0 c0 ∧ v1 = .slice A1 n1 c1 ∧ v2 = .slice A2 n2 c2 := by
  obtain ⟨⟨A0, c0, e0, _⟩, ⟨A1, c1, e1, _⟩, ⟨A2, c2, e2, _⟩⟩ := h
  exact ⟨A0, c0, A1, c1, A2, c2, e0, e1, e2⟩
theorem SeenC.nC {A : Option Addr} {c : Nat} (h : SeenC w (.slice A n0 c) v1 v2 n0 n1 n2 x) : Kd.string.C w A n0 x.names := by
  obtain ⟨⟨A0, c0, e0, l0, m0, C0⟩, _⟩ := h
  cases e0
  exact C0
theorem SeenC.pC {A : Option Addr} {c : Nat} (h : SeenC w v0 (.slice A n1 c) v2 n0 n1 n2 x) : pendK.C w A n1 x.works := by
  obtain ⟨_, ⟨A0, c0, e0, l0, m0, C0⟩, _⟩ := h
  cases e0
  exact C0
theorem SeenC.bC {A : Option Addr} {c : Nat} (h : SeenC w v0 v1 (.slice A n2 c) n0 n1 n2 x) : bbK.C w A n2 x.bytes := by
  obtain ⟨_, _, ⟨A0, c0, e0, l0, m0, C0⟩⟩ := h
  cases e0
  exact C0
/-- a row of bytes in a row -/
theorem at_B {A : Option Addr} {n : Nat} {xs : List (List Int)} (h : bbK.C w A n xs) (i : Nat) (h1 : i < n) : ∃ (ad : Addr) (hi : i < xs.length) (B : Option Addr) (c : Nat), A = some ad ∧ w.cell? (ad.add i) = some (.slice B (xs[i]).length c) ∧ (xs[i]).length ≤ c ∧ bK.C w B (xs[i]).length xs[i] := by
  have hl : i < xs.length := by have := h.1; omega
  obtain ⟨ad, cs, e, _, hK, hc0⟩ := Kd.C_get h xs[i] (i : Int) (by omega) (by omega)
  have hx : xs.getD ((i : Int)).toNat xs[i] = xs[i] := by
    rw [List.getD_eq_getElem?_getD, Int.toNat_natCast, List.getElem?_eq_getElem hl]
    rfl
  rw [hx] at hK
  have hc : ∀ j u, cs[j]? = some u → w.cell? (ad.add (i * 1 + j)) = some u := hc0
  obtain ⟨B, c, rfl, hle, hC⟩ := hK
  refine ⟨ad, hl, B, c, e, ?_, hle, hC⟩
  have hq := hc 0 _ rfl
  rw [Nat.mul_one, Nat.add_zero] at hq
  exact hq
theorem str_C {A : Option Addr} {n c : Nat} {l : List Int} (h : bK.C w A n l) (hn : n = l.length) : (convert 30 9 (.slice A n c)).run Try.prog w = .ok (.string (strOfNums l)) w := by
  subst hn
  exact Kd.C_string (P := Try.prog) (A := A) (c := c) Try.underlying30 Try.underlying5 Try.underlying9 h
def F27RT6 : Bool × List (List Nat × List Nat) := (true, [([], []), ([0], [0]), ([], []), ([1, 2], [1, 2]), ([3], [3]), ([], []), ([5], [5]), ([], []), ([6, 7], [6, 7]), ([8], [8]), ([4, 9], [4, 9]), ([10], [10]), ([11], [11]), ([12, 11], [11, 12]), ([11], [11]), ([13, 14, 11], [11, 13, 14]), ([15, 11], [11, 15]), ([16, 11], [11, 16]), ([11], [11]), ([18, 11], [11, 18]), ([11], [11]), ([19, 20, 11], [11, 19, 20]), ([21, 11], [11, 21]), ([22, 11], [11, 22]), ([17, 23, 11], [11, 17, 23]), ([11, 24], [11, 24])])
def F27RB6 : List Nat := [0, 1, 0, 7, 15, 0, 32, 0, 224, 480, 1023, 2047, 4095, 8191, 4095, 32767, 65535, 131071, 4095, 266239, 4095, 1839103, 3936255, 8130559, 16777215, 33554431]
theorem F27Rtab6 : rtab .any (opsOf Try.f27 6) = F27RT6 := by kernel_rfl
theorem F27Rbits6 : waitsOk F27RT6.2 F27RB6 = true := by kernel_rfl
def F27RT11 : Bool × List (List Nat × List Nat) := (true, [([], []), ([0], [0]), ([], []), ([1, 2], [1, 2]), ([3], [3]), ([], []), ([5], [5]), ([], []), ([6, 7], [6, 7]), ([8], [8]), ([4, 9], [4, 9])])
def F27RB11 : List Nat := [0, 1, 0, 7, 15, 0, 32, 0, 224, 480, 1023]
theorem F27Rtab11 : rtab .any (opsOf Try.f27 11) = F27RT11 := by kernel_rfl
theorem F27Rbits11 : waitsOk F27RT11.2 F27RB11 = true := by kernel_rfl
set_option maxHeartbeats 4000000 in
set_option maxRecDepth 100000 in
theorem is_calls (h : SeenC w v0 v1 v2 n0 n1 n2 x) (h' : SeenC w u0 u1 u2 n0 n1 n2 x) (he : n0 = n2) (hl : n0 ≤ 1073741824 ∧ n1 ≤ 1073741824) :
    Calls Try.prog 27 #[.agg #[v0, v1, v2], .agg #[u0, u1, u2]] w fun e w' => e = .returned (.bool true) ∧ Below w.heap.size w w' := by
  subst he
  have H := Aside0.mk h
  have H' := Aside0.mk h'
  have HL := Aside0.mk hl
  clear h h' hl
  obtain ⟨A0, c0, A1, c1, A2, c2, rfl, rfl, rfl⟩ := H.out.shape
  obtain ⟨B0, d0, B1, d1, B2, d2, rfl, rfl, rfl⟩ := H'.out.shape
  go_enter Try.func27, Try.ntmps27
  go_upto_region 1 with fail
  generalize hw1 : ((w.alloc (Obj.cells #[Value.slice A0 n0 c0, Value.slice A1 n1 c1, Value.slice A2 n0 c2] 46)).alloc (Obj.cells #[Value.slice B0 n0 d0, Value.slice B1 n1 d1, Value.slice B2 n0 d2] 46)) = w1
  have HB : Aside0 (Below w.heap.size w w1) := ⟨by rw [← hw1]; exact below_alloc (below_alloc (Below.refl _ _) _) _⟩
  have HI1 : Aside0 (IsB w1 w.heap.size #[Value.slice A0 n0 c0, Value.slice A1 n1 c1, Value.slice A2 n0 c2] 46) := ⟨by rw [← hw1]; exact blk_alloc (blk_new w _) _⟩
  have HI2 : Aside0 (IsB w1 (w.heap.size + 1) #[Value.slice B0 n0 d0, Value.slice B1 n1 d1, Value.slice B2 n0 d2] 46) := ⟨by rw [← hw1]; have h := blk_new (w.alloc (Obj.cells #[Value.slice A0 n0 c0, Value.slice A1 n1 c1, Value.slice A2 n0 c2] 46)) (Obj.cells #[Value.slice B0 n0 d0, Value.slice B1 n1 d1, Value.slice B2 n0 d2] 46); rw [World.size_alloc] at h; exact h⟩
  have H1 := Aside0.mk (H.out.below HB.out)
  have H1' := Aside0.mk (H'.out.below HB.out)
  clear hw1 H H'
  obtain ⟨gx, hgx⟩ : ∃ gx, gx = w.heap.size := ⟨_, rfl⟩
  obtain ⟨gy, hgy⟩ : ∃ gy, gy = w.heap.size + 1 := ⟨_, rfl⟩
  rw [← hgy] at HI2 ⊢
  rw [← hgx] at HI1 ⊢
  clear hgx hgy
  have m0 : w1.cell? ⟨gx, 0, none⟩ = some (.slice A0 n0 c0) := (blk_cell HI1.out 0).trans rfl
  have m1 : w1.cell? ⟨gx, 1, none⟩ = some (.slice A1 n1 c1) := (blk_cell HI1.out 1).trans rfl
  have m2 : w1.cell? ⟨gx, 2, none⟩ = some (.slice A2 n0 c2) := (blk_cell HI1.out 2).trans rfl
  have r0 : w1.cell? ⟨gy, 0, none⟩ = some (.slice B0 n0 d0) := (blk_cell HI2.out 0).trans rfl
  have r1 : w1.cell? ⟨gy, 1, none⟩ = some (.slice B1 n1 d1) := (blk_cell HI2.out 1).trans rfl
  have r2 : w1.cell? ⟨gy, 2, none⟩ = some (.slice B2 n0 d2) := (blk_cell HI2.out 2).trans rfl
  go_wp2_with fail
  clear m0 m1 m2 r0 r1 r2
  go_loopg [5] n0 (fun kq v5 w' => ∃ i : Nat, v5 = .int .i64 i ∧ Aside0 (i + kq = n0) ∧ Aside0 (Below w1.heap.size w1 w'))
  case atStart => exact ⟨0, rfl, ⟨by omega⟩, ⟨Below.refl _ _⟩⟩
  case round =>
    obtain ⟨i, rfl, HI, HBr⟩ := hrel
    have HR := Aside0.mk (H1.out.below HBr.out)
    have HR' := Aside0.mk (H1'.out.below HBr.out)
    have HJ1 := Aside0.mk (blk_below HI1.out HBr.out)
    have HJ2 := Aside0.mk (blk_below HI2.out HBr.out)
    have m0 : wr.cell? ⟨gx, 0, none⟩ = some (.slice A0 n0 c0) := (blk_cell HJ1.out 0).trans rfl
    have m2 : wr.cell? ⟨gx, 2, none⟩ = some (.slice A2 n0 c2) := (blk_cell HJ1.out 2).trans rfl
    have r0 : wr.cell? ⟨gy, 0, none⟩ = some (.slice B0 n0 d0) := (blk_cell HJ2.out 0).trans rfl
    have r2 : wr.cell? ⟨gy, 2, none⟩ = some (.slice B2 n0 d2) := (blk_cell HJ2.out 2).trans rfl
    by_cases hlt : i < n0
    · have d6 : decide ((i : Int) < (n0 : Int)) = true := decide_eq_true (by omega)
      have d7 : decide (i < n0) = true := decide_eq_true hlt
      have j0 : (0 : Int) ≤ (i : Int) := by omega
      have j1 : (i : Int) < (n0 : Int) := by omega
      have HLT := Aside0.mk hlt
      have HBd := Aside0.mk (show Below w1.heap.size w1 wr.drew from HBr.out.drew)
      have HD := Aside0.mk (H1.out.below HBd.out)
      have HD' := Aside0.mk (H1'.out.below HBd.out)
      obtain ⟨a0, l0, hA0, k0⟩ := at_S HD.out.nC i hlt
      obtain ⟨a1, l1, hA1, k1⟩ := at_S HD'.out.nC i hlt
      obtain ⟨a2, l2, P2, p2, hA2, k2, hE2, hC2⟩ := at_B HD.out.bC i hlt
      obtain ⟨a3, l3, P3, p3, hA3, k3, hE3, hC3⟩ := at_B HD'.out.bC i hlt
      subst hA0
      subst hA1
      subst hA2
      subst hA3
      have hs2 := str_C (c := p2) hC2 rfl
      have hs3 := str_C (c := p3) hC3 rfl
      generalize x.bytes[i].length = ln at k2 k3 hs2 hs3
      generalize strOfNums x.bytes[i] = st at hs2 hs3
      generalize x.names[i] = n at k0 k1
      have HK1 := Aside0.mk (blk_drew HJ1.out)
      have HK2 := Aside0.mk (blk_drew HJ2.out)
      have z0 : wr.drew.cell? ⟨gx, 0, none⟩ = some (.slice (some a0) n0 c0) := (blk_cell HK1.out 0).trans rfl
      have z2 : wr.drew.cell? ⟨gx, 2, none⟩ = some (.slice (some a2) n0 c2) := (blk_cell HK1.out 2).trans rfl
      have y0 : wr.drew.cell? ⟨gy, 0, none⟩ = some (.slice (some a1) n0 d0) := (blk_cell HK2.out 0).trans rfl
      have y2 : wr.drew.cell? ⟨gy, 2, none⟩ = some (.slice (some a3) n0 d2) := (blk_cell HK2.out 2).trans rfl
      clear hE2 hE3 hC2 hC3
      clear hlt
      go_upto_region 6 with fail
      clear m0 m2 r0 r2
      refine start_ (n := 26) (S := fun w' => w'.cell? ⟨gx, 0, none⟩ = some (.slice (some a0) n0 c0) ∧ w'.cell? ⟨gx, 2, none⟩ = some (.slice (some a2) n0 c2) ∧ w'.cell? ⟨gy, 0, none⟩ = some (.slice (some a1) n0 d0) ∧ w'.cell? ⟨gy, 2, none⟩ = some (.slice (some a3) n0 d2) ∧ w'.cell? (a0.add i) = some (.string n) ∧ w'.cell? (a1.add i) = some (.string n) ∧ w'.cell? (a2.add i) = some (.slice P2 ln p2) ∧ w'.cell? (a3.add i) = some (.slice P3 ln p3) ∧ (convert 30 9 (.slice P2 ln p2)).run Try.prog w' = .ok (.string st) w' ∧ (convert 30 9 (.slice P3 ln p3)).run Try.prog w' = .ok (.string st) w') (ds := []) #[false, false, false, false, false, false, false, false, false, false, false, false, false, false, false, false, false, false, false, false, false, false, false, false, false, false] (by kernel_rfl) rfl rfl ⟨z0, z2, y0, y2, k0, k1, k2, k3, hs2, hs3⟩ (fun hHeld => ?_)
      refine with_tabW F27Rtab6 F27Rbits6 (fun HT_ HW_ => ?_)
      refine pure_ (i := 0) (N := some 39) (v := ?_) (a' := ?_) #[true, false, false, false, false, false, false, false, false, false, false, false, false, false, false, false, false, false, false, false, false, false, false, false, false, false] rfl rfl (any_of HT_.out (by kernel_rfl)) (fun _ _ _ h => h) (Or.inl ⟨by rfl, ?_⟩) ?_ ?_
      rotate_left
      · intro w'
        go_simp
        with_reducible rfl
      rotate_left
      · simp only [Act.put, List.setIfInBounds_toArray, List.set_cons_zero, List.set_cons_succ, i64_w, i32_w]
        rfl
      refine pure_ (i := 2) (N := some 41) (v := ?_) (a' := ?_) #[true, false, true, false, false, false, false, false, false, false, false, false, false, false, false, false, false, false, false, false, false, false, false, false, false, false] rfl rfl (any_of HT_.out (by kernel_rfl)) (fun _ _ _ h => h) (Or.inl ⟨by rfl, ?_⟩) ?_ ?_
      rotate_left
      · intro w'
        go_simp
        with_reducible rfl
      rotate_left
      · simp only [Act.put, List.setIfInBounds_toArray, List.set_cons_zero, List.set_cons_succ, i64_w, i32_w]
        rfl
      refine pure_ (i := 5) (N := some 44) (v := ?_) (a' := ?_) #[true, false, true, false, false, true, false, false, false, false, false, false, false, false, false, false, false, false, false, false, false, false, false, false, false, false] rfl rfl (any_of HT_.out (by kernel_rfl)) (fun _ _ _ h => h) (Or.inl ⟨by rfl, ?_⟩) ?_ ?_
      rotate_left
      · intro w'
        go_simp
        with_reducible rfl
      rotate_left
      · simp only [Act.put, List.setIfInBounds_toArray, List.set_cons_zero, List.set_cons_succ, i64_w, i32_w]
        rfl
      refine pure_ (i := 7) (N := some 46) (v := ?_) (a' := ?_) #[true, false, true, false, false, true, false, true, false, false, false, false, false, false, false, false, false, false, false, false, false, false, false, false, false, false] rfl rfl (any_of HT_.out (by kernel_rfl)) (fun _ _ _ h => h) (Or.inl ⟨by rfl, ?_⟩) ?_ ?_
      rotate_left
      · intro w'
        go_simp
        with_reducible rfl
      rotate_left
      · simp only [Act.put, List.setIfInBounds_toArray, List.set_cons_zero, List.set_cons_succ, i64_w, i32_w]
        rfl
      refine take_ (i := 1) (N := some 40) (v := ?_) (a' := ?_) #[true, true, true, false, false, true, false, true, false, false, false, false, false, false, false, false, false, false, false, false, false, false, false, false, false, false] rfl rfl (take_ofW HT_.out HW_.out (by kernel_rfl)) (fun _ _ _ h => h) (Or.inl ⟨by rfl, ?_⟩) hHeld ?_ ?_
      rotate_left
      · rintro w' ⟨s0, s1, s2, s3, s4, s5, s6, s7, s8, s9⟩
        go_simp
        with_reducible rfl
      rotate_left
      · simp only [Act.put, List.setIfInBounds_toArray, List.set_cons_zero, List.set_cons_succ, i64_w, i32_w]
        rfl
      refine pure_ (i := 3) (N := some 42) (v := ?_) (a' := ?_) #[true, true, true, true, false, true, false, true, false, false, false, false, false, false, false, false, false, false, false, false, false, false, false, false, false, false] rfl rfl (any_of HT_.out (by kernel_rfl)) (fun _ _ _ h => h) (Or.inl ⟨by rfl, ?_⟩) ?_ ?_
      rotate_left
      · intro w'
        go_simp
        with_reducible rfl
      rotate_left
      · simp only [Act.put, List.setIfInBounds_toArray, List.set_cons_zero, List.set_cons_succ, i64_w, i32_w]
        rfl
      refine take_ (i := 4) (N := some 43) (v := ?_) (a' := ?_) #[true, true, true, true, true, true, false, true, false, false, false, false, false, false, false, false, false, false, false, false, false, false, false, false, false, false] rfl rfl (take_ofW HT_.out HW_.out (by kernel_rfl)) (fun _ _ _ h => h) (Or.inl ⟨by rfl, ?_⟩) hHeld ?_ ?_
      rotate_left
      · rintro w' ⟨s0, s1, s2, s3, s4, s5, s6, s7, s8, s9⟩
        go_simp
        with_reducible rfl
      rotate_left
      · simp only [Act.put, List.setIfInBounds_toArray, List.set_cons_zero, List.set_cons_succ, i64_w, i32_w]
        rfl
      refine take_ (i := 6) (N := some 45) (v := ?_) (a' := ?_) #[true, true, true, true, true, true, true, true, false, false, false, false, false, false, false, false, false, false, false, false, false, false, false, false, false, false] rfl rfl (take_ofW HT_.out HW_.out (by kernel_rfl)) (fun _ _ _ h => h) (Or.inl ⟨by rfl, ?_⟩) hHeld ?_ ?_
      rotate_left
      · rintro w' ⟨s0, s1, s2, s3, s4, s5, s6, s7, s8, s9⟩
        go_simp
        with_reducible rfl
      rotate_left
      · simp only [Act.put, List.setIfInBounds_toArray, List.set_cons_zero, List.set_cons_succ, i64_w, i32_w]
        rfl
      refine pure_ (i := 8) (N := some 47) (v := ?_) (a' := ?_) #[true, true, true, true, true, true, true, true, true, false, false, false, false, false, false, false, false, false, false, false, false, false, false, false, false, false] rfl rfl (any_of HT_.out (by kernel_rfl)) (fun _ _ _ h => h) (Or.inl ⟨by rfl, ?_⟩) ?_ ?_
      rotate_left
      · intro w'
        go_simp
        with_reducible rfl
      rotate_left
      · simp only [Act.put, List.setIfInBounds_toArray, List.set_cons_zero, List.set_cons_succ, i64_w, i32_w]
        rfl
      refine take_ (i := 9) (N := some 48) (v := ?_) (a' := ?_) #[true, true, true, true, true, true, true, true, true, true, false, false, false, false, false, false, false, false, false, false, false, false, false, false, false, false] rfl rfl (take_ofW HT_.out HW_.out (by kernel_rfl)) (fun _ _ _ h => h) (Or.inl ⟨by rfl, ?_⟩) hHeld ?_ ?_
      rotate_left
      · rintro w' ⟨s0, s1, s2, s3, s4, s5, s6, s7, s8, s9⟩
        go_simp
        with_reducible rfl
      rotate_left
      · simp only [Act.put, List.setIfInBounds_toArray, List.set_cons_zero, List.set_cons_succ, i64_w, i32_w]
        rfl
      refine pure_ (i := 10) (N := some 49) (v := ?_) (a' := ?_) #[true, true, true, true, true, true, true, true, true, true, true, false, false, false, false, false, false, false, false, false, false, false, false, false, false, false] rfl rfl (any_of HT_.out (by kernel_rfl)) (fun _ _ _ h => h) (Or.inl ⟨by rfl, ?_⟩) ?_ ?_
      rotate_left
      · intro w'
        go_simp
        with_reducible rfl
      rotate_left
      · simp only [Act.put, List.setIfInBounds_toArray, List.set_cons_zero, List.set_cons_succ, i64_w, i32_w]
        rfl
      refine pure_ (i := 11) (N := some 50) (v := ?_) (a' := ?_) #[true, true, true, true, true, true, true, true, true, true, true, true, false, false, false, false, false, false, false, false, false, false, false, false, false, false] rfl rfl (any_of HT_.out (by kernel_rfl)) (fun _ _ _ h => h) (Or.inl ⟨by rfl, ?_⟩) ?_ ?_
      rotate_left
      · intro w'
        go_simp
        with_reducible rfl
      rotate_left
      · simp only [Act.put, List.setIfInBounds_toArray, List.set_cons_zero, List.set_cons_succ, i64_w, i32_w]
        rfl
      refine pure_ (i := 12) (N := some 51) (v := ?_) (a' := ?_) #[true, true, true, true, true, true, true, true, true, true, true, true, true, false, false, false, false, false, false, false, false, false, false, false, false, false] rfl rfl (any_of HT_.out (by kernel_rfl)) (fun _ _ _ h => h) (Or.inl ⟨by rfl, ?_⟩) ?_ ?_
      rotate_left
      · intro w'
        go_simp
        with_reducible rfl
      rotate_left
      · simp only [Act.put, List.setIfInBounds_toArray, List.set_cons_zero, List.set_cons_succ, i64_w, i32_w]
        rfl
      refine pure_ (i := 14) (N := some 53) (v := ?_) (a' := ?_) #[true, true, true, true, true, true, true, true, true, true, true, true, true, false, true, false, false, false, false, false, false, false, false, false, false, false] rfl rfl (any_of HT_.out (by kernel_rfl)) (fun _ _ _ h => h) (Or.inl ⟨by rfl, ?_⟩) ?_ ?_
      rotate_left
      · intro w'
        go_simp
        with_reducible rfl
      rotate_left
      · simp only [Act.put, List.setIfInBounds_toArray, List.set_cons_zero, List.set_cons_succ, i64_w, i32_w]
        rfl
      refine pure_ (i := 18) (N := some 57) (v := ?_) (a' := ?_) #[true, true, true, true, true, true, true, true, true, true, true, true, true, false, true, false, false, false, true, false, false, false, false, false, false, false] rfl rfl (any_of HT_.out (by kernel_rfl)) (fun _ _ _ h => h) (Or.inl ⟨by rfl, ?_⟩) ?_ ?_
      rotate_left
      · intro w'
        go_simp
        with_reducible rfl
      rotate_left
      · simp only [Act.put, List.setIfInBounds_toArray, List.set_cons_zero, List.set_cons_succ, i64_w, i32_w]
        rfl
      refine pure_ (i := 20) (N := some 59) (v := ?_) (a' := ?_) #[true, true, true, true, true, true, true, true, true, true, true, true, true, false, true, false, false, false, true, false, true, false, false, false, false, false] rfl rfl (any_of HT_.out (by kernel_rfl)) (fun _ _ _ h => h) (Or.inl ⟨by rfl, ?_⟩) ?_ ?_
      rotate_left
      · intro w'
        go_simp
        with_reducible rfl
      rotate_left
      · simp only [Act.put, List.setIfInBounds_toArray, List.set_cons_zero, List.set_cons_succ, i64_w, i32_w]
        rfl
      refine take_ (i := 13) (N := some 52) (v := ?_) (a' := ?_) #[true, true, true, true, true, true, true, true, true, true, true, true, true, true, true, false, false, false, true, false, true, false, false, false, false, false] rfl rfl (take_ofW HT_.out HW_.out (by kernel_rfl)) (fun _ _ _ h => h) (Or.inl ⟨by rfl, ?_⟩) hHeld ?_ ?_
      rotate_left
      · rintro w' ⟨s0, s1, s2, s3, s4, s5, s6, s7, s8, s9⟩
        go_simp
        with_reducible rfl
      rotate_left
      · simp only [Act.put, List.setIfInBounds_toArray, List.set_cons_zero, List.set_cons_succ, i64_w, i32_w]
        rfl
      refine pure_ (i := 15) (N := some 54) (v := ?_) (a' := ?_) #[true, true, true, true, true, true, true, true, true, true, true, true, true, true, true, true, false, false, true, false, true, false, false, false, false, false] rfl rfl (any_of HT_.out (by kernel_rfl)) (fun _ _ _ h => h) (Or.inl ⟨by rfl, ?_⟩) ?_ ?_
      rotate_left
      · intro w'
        go_simp
        with_reducible rfl
      rotate_left
      · simp only [Act.put, List.setIfInBounds_toArray, List.set_cons_zero, List.set_cons_succ, i64_w, i32_w]
        rfl
      refine take_ (i := 16) (N := some 55) (v := ?_) (a' := ?_) #[true, true, true, true, true, true, true, true, true, true, true, true, true, true, true, true, true, false, true, false, true, false, false, false, false, false] rfl rfl (take_ofW HT_.out HW_.out (by kernel_rfl)) (fun _ _ _ h => h) (Or.inl ⟨by rfl, ?_⟩) hHeld ?_ ?_
      rotate_left
      · rintro w' ⟨s0, s1, s2, s3, s4, s5, s6, s7, s8, s9⟩
        go_simp
        with_reducible rfl
      rotate_left
      · simp only [Act.put, List.setIfInBounds_toArray, List.set_cons_zero, List.set_cons_succ, i64_w, i32_w]
        rfl
      refine take_ (i := 17) (N := some 56) (v := ?_) (a' := ?_) #[true, true, true, true, true, true, true, true, true, true, true, true, true, true, true, true, true, true, true, false, true, false, false, false, false, false] rfl rfl (take_ofW HT_.out HW_.out (by kernel_rfl)) (fun _ _ _ h => h) (Or.inl ⟨by rfl, ?_⟩) hHeld ?_ ?_
      rotate_left
      · rintro w' ⟨s0, s1, s2, s3, s4, s5, s6, s7, s8, s9⟩
        go_simp
        with_reducible rfl
      rotate_left
      · simp only [Act.put, List.setIfInBounds_toArray, List.set_cons_zero, List.set_cons_succ, i64_w, i32_w]
        rfl
      refine take_ (i := 19) (N := some 58) (v := ?_) (a' := ?_) #[true, true, true, true, true, true, true, true, true, true, true, true, true, true, true, true, true, true, true, true, true, false, false, false, false, false] rfl rfl (take_ofW HT_.out HW_.out (by kernel_rfl)) (fun _ _ _ h => h) (Or.inl ⟨by rfl, ?_⟩) hHeld ?_ ?_
      rotate_left
      · rintro w' ⟨s0, s1, s2, s3, s4, s5, s6, s7, s8, s9⟩
        go_simp
        with_reducible rfl
      rotate_left
      · simp only [Act.put, List.setIfInBounds_toArray, List.set_cons_zero, List.set_cons_succ, i64_w, i32_w]
        rfl
      refine pure_ (i := 21) (N := some 60) (v := ?_) (a' := ?_) #[true, true, true, true, true, true, true, true, true, true, true, true, true, true, true, true, true, true, true, true, true, true, false, false, false, false] rfl rfl (any_of HT_.out (by kernel_rfl)) (fun _ _ _ h => h) (Or.inl ⟨by rfl, ?_⟩) ?_ ?_
      rotate_left
      · intro w'
        go_simp
        with_reducible rfl
      rotate_left
      · simp only [Act.put, List.setIfInBounds_toArray, List.set_cons_zero, List.set_cons_succ, i64_w, i32_w]
        rfl
      refine take_ (i := 22) (N := some 61) (v := ?_) (a' := ?_) #[true, true, true, true, true, true, true, true, true, true, true, true, true, true, true, true, true, true, true, true, true, true, true, false, false, false] rfl rfl (take_ofW HT_.out HW_.out (by kernel_rfl)) (fun _ _ _ h => h) (Or.inl ⟨by rfl, ?_⟩) hHeld ?_ ?_
      rotate_left
      · rintro w' ⟨s0, s1, s2, s3, s4, s5, s6, s7, s8, s9⟩
        go_simp
        with_reducible rfl
      rotate_left
      · simp only [Act.put, List.setIfInBounds_toArray, List.set_cons_zero, List.set_cons_succ, i64_w, i32_w]
        rfl
      refine take_ (i := 23) (N := some 62) (v := ?_) (a' := ?_) #[true, true, true, true, true, true, true, true, true, true, true, true, true, true, true, true, true, true, true, true, true, true, true, true, false, false] rfl rfl (take_ofW HT_.out HW_.out (by kernel_rfl)) (fun _ _ _ h => h) (Or.inl ⟨by rfl, ?_⟩) hHeld ?_ ?_
      rotate_left
      · rintro w' ⟨s0, s1, s2, s3, s4, s5, s6, s7, s8, s9⟩
        go_simp
        with_reducible rfl
      rotate_left
      · simp only [Act.put, List.setIfInBounds_toArray, List.set_cons_zero, List.set_cons_succ, i64_w, i32_w]
        rfl
      refine pure_ (i := 24) (N := some 63) (v := ?_) (a' := ?_) #[true, true, true, true, true, true, true, true, true, true, true, true, true, true, true, true, true, true, true, true, true, true, true, true, true, false] rfl rfl (any_of HT_.out (by kernel_rfl)) (fun _ _ _ h => h) (Or.inl ⟨by rfl, ?_⟩) ?_ ?_
      rotate_left
      · intro w'
        go_simp
        with_reducible rfl
      rotate_left
      · simp only [Act.put, List.setIfInBounds_toArray, List.set_cons_zero, List.set_cons_succ, i64_w, i32_w]
        rfl
      refine pure_ (i := 25) (N := some 64) (v := ?_) (a' := ?_) #[true, true, true, true, true, true, true, true, true, true, true, true, true, true, true, true, true, true, true, true, true, true, true, true, true, true] rfl rfl (any_of HT_.out (by kernel_rfl)) (fun _ _ _ h => h) (Or.inl ⟨by rfl, ?_⟩) ?_ ?_
      rotate_left
      · intro w'
        go_simp
        with_reducible rfl
      rotate_left
      · simp only [Act.put, List.setIfInBounds_toArray, List.set_cons_zero, List.set_cons_succ, i64_w, i32_w]
        rfl
      refine done_ (done_of HT_.out (by kernel_rfl)) ?_
      clear hHeld z0 z2 y0 y2 k0 k1 k2 k3 hs2 hs3
      generalize wr.drew = w8 at *
      go_wp2_with fail
      go_roundg (gk - 1)
      case measure => have := HI.out; have := HLT.out; omega
      case rel => exact ⟨i + 1, next_i6 (by have := HLT.out; have := HL.out; omega), ⟨by have := HI.out; have := HLT.out; omega⟩, HBd⟩
    · have d6 : decide ((i : Int) < (n0 : Int)) = false := decide_eq_false (by omega)
      have d7 : decide (i < n0) = false := decide_eq_false hlt
      clear hlt
      go_wp2_with fail
      clear m0 m2 r0 r2
      go_loopg [6] n1 (fun kq v6 w' => ∃ i : Nat, v6 = .int .i64 i ∧ Aside0 (i + kq = n1) ∧ Aside0 (Below w1.heap.size w1 w'))
      case atStart => exact ⟨0, rfl, ⟨by omega⟩, HBr⟩
      case round =>
        clear HI HBr HR HR' HJ1 HJ2 d6 d7
        obtain ⟨i, rfl, HI, HBr⟩ := hrel
        have HJ1 := Aside0.mk (blk_below HI1.out HBr.out)
        have HJ2 := Aside0.mk (blk_below HI2.out HBr.out)
        have m0 : wr.cell? ⟨gx, 1, none⟩ = some (.slice A1 n1 c1) := (blk_cell HJ1.out 1).trans rfl
        have r0 : wr.cell? ⟨gy, 1, none⟩ = some (.slice B1 n1 d1) := (blk_cell HJ2.out 1).trans rfl
        by_cases hlt : i < n1
        · have d6 : decide ((i : Int) < (n1 : Int)) = true := decide_eq_true (by omega)
          have d7 : decide (i < n1) = true := decide_eq_true hlt
          have j0 : (0 : Int) ≤ (i : Int) := by omega
          have j1 : (i : Int) < (n1 : Int) := by omega
          have HLT := Aside0.mk hlt
          have HBd := Aside0.mk (show Below w1.heap.size w1 wr.drew from HBr.out.drew)
          have HD := Aside0.mk (H1.out.below HBd.out)
          have HD' := Aside0.mk (H1'.out.below HBd.out)
          obtain ⟨a0, y, hA0, hy, k0, k1, k2, k3⟩ := at_P HD.out.pC i hlt
          obtain ⟨a1, y', hA1, hy', q0, q1, q2, q3⟩ := at_P HD'.out.pC i hlt
          obtain rfl : y = y' := Option.some.inj (hy.symm.trans hy')
          subst hA0
          subst hA1
          have HK1 := Aside0.mk (blk_drew HJ1.out)
          have HK2 := Aside0.mk (blk_drew HJ2.out)
          have z0 : wr.drew.cell? ⟨gx, 1, none⟩ = some (.slice (some a0) n1 c1) := (blk_cell HK1.out 1).trans rfl
          have y0 : wr.drew.cell? ⟨gy, 1, none⟩ = some (.slice (some a1) n1 d1) := (blk_cell HK2.out 1).trans rfl
          generalize y.1 = f0 at *
          generalize y.2.1 = f1 at *
          generalize y.2.2.1 = f2 at *
          generalize y.2.2.2 = f3 at *
          clear hlt hy hy'
          go_upto_region 11 with fail
          clear m0 r0
          refine start_ (n := 11) (S := fun w' => w'.cell? ⟨gx, 1, none⟩ = some (.slice (some a0) n1 c1) ∧ w'.cell? ⟨gy, 1, none⟩ = some (.slice (some a1) n1 d1) ∧ w'.cell? (a0.add (i * 4)) = some (.int .i64 f0) ∧ w'.cell? ⟨(a0.add (i * 4)).block, (a0.add (i * 4)).off + 1, none⟩ = some (.string f1) ∧ w'.cell? ⟨(a0.add (i * 4)).block, (a0.add (i * 4)).off + 2, none⟩ = some (.string f2) ∧ w'.cell? ⟨(a0.add (i * 4)).block, (a0.add (i * 4)).off + 3, none⟩ = some (.int .i64 f3) ∧ w'.cell? (a1.add (i * 4)) = some (.int .i64 f0) ∧ w'.cell? ⟨(a1.add (i * 4)).block, (a1.add (i * 4)).off + 1, none⟩ = some (.string f1) ∧ w'.cell? ⟨(a1.add (i * 4)).block, (a1.add (i * 4)).off + 2, none⟩ = some (.string f2) ∧ w'.cell? ⟨(a1.add (i * 4)).block, (a1.add (i * 4)).off + 3, none⟩ = some (.int .i64 f3)) (ds := []) #[false, false, false, false, false, false, false, false, false, false, false] (by kernel_rfl) rfl rfl ⟨z0, y0, k0, (by rw [← add_field _ _ 1 (by omega)]; exact k1), (by rw [← add_field _ _ 2 (by omega)]; exact k2), (by rw [← add_field _ _ 3 (by omega)]; exact k3), q0, (by rw [← add_field _ _ 1 (by omega)]; exact q1), (by rw [← add_field _ _ 2 (by omega)]; exact q2), (by rw [← add_field _ _ 3 (by omega)]; exact q3)⟩ (fun hHeld => ?_)
          refine with_tabW F27Rtab11 F27Rbits11 (fun HT_ HW_ => ?_)
          refine pure_ (i := 0) (N := some 72) (v := ?_) (a' := ?_) #[true, false, false, false, false, false, false, false, false, false, false] rfl rfl (any_of HT_.out (by kernel_rfl)) (fun _ _ _ h => h) (Or.inl ⟨by rfl, ?_⟩) ?_ ?_
          rotate_left
          · intro w'
            go_simp
            with_reducible rfl
          rotate_left
          · simp only [Act.put, List.setIfInBounds_toArray, List.set_cons_zero, List.set_cons_succ, i64_w, i32_w]
            rfl
          refine pure_ (i := 2) (N := some 74) (v := ?_) (a' := ?_) #[true, false, true, false, false, false, false, false, false, false, false] rfl rfl (any_of HT_.out (by kernel_rfl)) (fun _ _ _ h => h) (Or.inl ⟨by rfl, ?_⟩) ?_ ?_
          rotate_left
          · intro w'
            go_simp
            with_reducible rfl
          rotate_left
          · simp only [Act.put, List.setIfInBounds_toArray, List.set_cons_zero, List.set_cons_succ, i64_w, i32_w]
            rfl
          refine pure_ (i := 5) (N := some 77) (v := ?_) (a' := ?_) #[true, false, true, false, false, true, false, false, false, false, false] rfl rfl (any_of HT_.out (by kernel_rfl)) (fun _ _ _ h => h) (Or.inl ⟨by rfl, ?_⟩) ?_ ?_
          rotate_left
          · intro w'
            go_simp
            with_reducible rfl
          rotate_left
          · simp only [Act.put, List.setIfInBounds_toArray, List.set_cons_zero, List.set_cons_succ, i64_w, i32_w]
            rfl
          refine pure_ (i := 7) (N := some 79) (v := ?_) (a' := ?_) #[true, false, true, false, false, true, false, true, false, false, false] rfl rfl (any_of HT_.out (by kernel_rfl)) (fun _ _ _ h => h) (Or.inl ⟨by rfl, ?_⟩) ?_ ?_
          rotate_left
          · intro w'
            go_simp
            with_reducible rfl
          rotate_left
          · simp only [Act.put, List.setIfInBounds_toArray, List.set_cons_zero, List.set_cons_succ, i64_w, i32_w]
            rfl
          refine take_ (i := 1) (N := some 73) (v := ?_) (a' := ?_) #[true, true, true, false, false, true, false, true, false, false, false] rfl rfl (take_ofW HT_.out HW_.out (by kernel_rfl)) (fun _ _ _ h => h) (Or.inl ⟨by rfl, ?_⟩) hHeld ?_ ?_
          rotate_left
          · rintro w' ⟨s0, s1, s2, s3, s4, s5, s6, s7, s8, s9⟩
            go_simp
            with_reducible rfl
          rotate_left
          · simp only [Act.put, List.setIfInBounds_toArray, List.set_cons_zero, List.set_cons_succ, i64_w, i32_w]
            rfl
          refine pure_ (i := 3) (N := some 75) (v := ?_) (a' := ?_) #[true, true, true, true, false, true, false, true, false, false, false] rfl rfl (any_of HT_.out (by kernel_rfl)) (fun _ _ _ h => h) (Or.inl ⟨by rfl, ?_⟩) ?_ ?_
          rotate_left
          · intro w'
            go_simp
            with_reducible rfl
          rotate_left
          · simp only [Act.put, List.setIfInBounds_toArray, List.set_cons_zero, List.set_cons_succ, i64_w, i32_w]
            rfl
          refine take_ (i := 4) (N := some 76) (v := ?_) (a' := ?_) #[true, true, true, true, true, true, false, true, false, false, false] rfl rfl (take_ofW HT_.out HW_.out (by kernel_rfl)) (fun _ _ _ h => h) (Or.inl ⟨by rfl, ?_⟩) hHeld ?_ ?_
          rotate_left
          · rintro w' ⟨s0, s1, s2, s3, s4, s5, s6, s7, s8, s9⟩
            go_simp
            with_reducible rfl
          rotate_left
          · simp only [Act.put, List.setIfInBounds_toArray, List.set_cons_zero, List.set_cons_succ, i64_w, i32_w]
            rfl
          refine take_ (i := 6) (N := some 78) (v := ?_) (a' := ?_) #[true, true, true, true, true, true, true, true, false, false, false] rfl rfl (take_ofW HT_.out HW_.out (by kernel_rfl)) (fun _ _ _ h => h) (Or.inl ⟨by rfl, ?_⟩) hHeld ?_ ?_
          rotate_left
          · rintro w' ⟨s0, s1, s2, s3, s4, s5, s6, s7, s8, s9⟩
            go_simp
            with_reducible rfl
          rotate_left
          · simp only [Act.put, List.setIfInBounds_toArray, List.set_cons_zero, List.set_cons_succ, i64_w, i32_w]
            rfl
          refine pure_ (i := 8) (N := some 80) (v := ?_) (a' := ?_) #[true, true, true, true, true, true, true, true, true, false, false] rfl rfl (any_of HT_.out (by kernel_rfl)) (fun _ _ _ h => h) (Or.inl ⟨by rfl, ?_⟩) ?_ ?_
          rotate_left
          · intro w'
            go_simp
            with_reducible rfl
          rotate_left
          · simp only [Act.put, List.setIfInBounds_toArray, List.set_cons_zero, List.set_cons_succ, i64_w, i32_w]
            rfl
          refine take_ (i := 9) (N := some 81) (v := ?_) (a' := ?_) #[true, true, true, true, true, true, true, true, true, true, false] rfl rfl (take_ofW HT_.out HW_.out (by kernel_rfl)) (fun _ _ _ h => h) (Or.inl ⟨by rfl, ?_⟩) hHeld ?_ ?_
          rotate_left
          · rintro w' ⟨s0, s1, s2, s3, s4, s5, s6, s7, s8, s9⟩
            go_simp
            with_reducible rfl
          rotate_left
          · simp only [Act.put, List.setIfInBounds_toArray, List.set_cons_zero, List.set_cons_succ, i64_w, i32_w]
            rfl
          refine pure_ (i := 10) (N := some 82) (v := ?_) (a' := ?_) #[true, true, true, true, true, true, true, true, true, true, true] rfl rfl (any_of HT_.out (by kernel_rfl)) (fun _ _ _ h => h) (Or.inl ⟨by rfl, ?_⟩) ?_ ?_
          rotate_left
          · intro w'
            go_simp
            with_reducible rfl
          rotate_left
          · simp only [Act.put, List.setIfInBounds_toArray, List.set_cons_zero, List.set_cons_succ, i64_w, i32_w]
            rfl
          refine done_ (done_of HT_.out (by kernel_rfl)) ?_
          clear hHeld z0 y0 k0 k1 k2 k3 q0 q1 q2 q3
          generalize wr.drew = w8 at *
          go_wp2_with fail
          go_roundg (gk - 1)
          case measure => have := HI.out; have := HLT.out; omega
          case rel => exact ⟨i + 1, next_i6 (by have := HLT.out; have := HL.out; omega), ⟨by have := HI.out; have := HLT.out; omega⟩, HBd⟩
        · have d6 : decide ((i : Int) < (n1 : Int)) = false := decide_eq_false (by omega)
          have d7 : decide (i < n1) = false := decide_eq_false hlt
          clear hlt
          go_wp2_with fail
          go_ret
          exact ⟨rfl, HB.out.trans (HBr.out.mono HB.out.size)⟩
end
end Go.Proofs.Ytnegcjgolaakcaa

/- look: what a disk tells, in lists. -/
namespace Go.Proofs.Ytnegcjgolaakcaa
open Go.RowKit Go.Maps
open Go.Proofs.YtnegcjgolaakcaaW.PrintWords Go.Proofs.YtnegcjgolaakcaaW.PrintLast Go.Proofs.YtnegcjgolaakcaaW.PrintMore
set_option linter.unusedVariables false
set_option linter.unusedSimpArgs false
/-- in the midst of look -/
structure LkI (w w' : World) (s : DS) (gx gy : Nat) (v0 v1 vb : Value) (i : Nat) : Prop where
  bx : IsB w' gx #[v0, v1, vb] 46
  by' : IsB w' gy #[.slice none 0 0, .slice none 0 0, .slice none 0 0] 46
  sn : SeenR w' w.heap.size (fun _ => True) v0 v1 vb ⟨listV s, s.works.map pendOf, ((listV s).take i).map (readsOf s)⟩
  bl : Below w.heap.size w w'
section
variable {w w' : World} {g B T : Nat} {s : DS}
theorem reads_next (s : DS) {L : List ByteArray} {i : Nat} {n : ByteArray} (h : L[i]? = some n) : (L.take (i + 1)).map (readsOf s) = (L.take i).map (readsOf s) ++ [(s.read n).1] := by
  obtain ⟨hl, rfl⟩ := List.getElem?_eq_some_iff.1 h
  rw [List.take_succ_eq_append_getElem hl, List.map_append]
  rfl
theorem lk_grown {w9 : World} {gx gy i j : Nat} {v0 v1 vb v9 : Value} (h : LkI w w' s gx gy v0 v1 vb i) (hg : w'.grownBy w9 vb.ownBlock) (ho : bbK.R 30 w9 w.heap.size (fun _ => True) v9 (((listV s).take j).map (readsOf s))) (hb : Below w.heap.size w w9) : IsB w9 gx #[v0, v1, vb] 46 ∧ IsB w9 gy #[.slice none 0 0, .slice none 0 0, .slice none 0 0] 46 ∧ SeenR w9 w.heap.size (fun _ => True) v0 v1 v9 ⟨listV s, s.works.map pendOf, ((listV s).take j).map (readsOf s)⟩ ∧ Below w.heap.size w w9 :=
  ⟨blk_grown h.bx hg (Kd.R_ne h.sn.b h.bx (by decide)), blk_grown h.by' hg (Kd.R_ne h.sn.b h.by' (by decide)), ⟨Kd.R_over' h.sn.n (Kd.R_typed h.sn.b) (fun q hq => (E_str q hq).1) hg, Kd.R_over' h.sn.p (Kd.R_typed h.sn.b) (fun q hq => (E_pend q hq).1) hg, ho⟩, hb⟩
set_option maxHeartbeats 4000000 in
set_option maxRecDepth 100000 in
theorem look_calls (h : Lw B T w g s) : Calls Try.prog 25 #[ptrV g] w fun e w' => ∃ v0 v1 v2, e = .returned (.agg #[v0, v1, v2]) ∧ SeenR w' w.heap.size (fun _ => True) v0 v1 v2 (seenOf s) ∧ Below w.heap.size w w' := by
  have H := Aside0.mk h
  clear h
  go_enter Try.func25, Try.ntmps25
  go_wp2_with fail
  generalize hw1 : (w.alloc (Obj.cells #[Value.slice none 0 0, Value.slice none 0 0, Value.slice none 0 0] 46)) = w1
  have HB1 : Aside0 (Below w.heap.size w w1) := ⟨by rw [← hw1]; exact below_alloc (Below.refl _ _) _⟩
  have HY1 : Aside0 (IsB w1 w.heap.size #[Value.slice none 0 0, Value.slice none 0 0, Value.slice none 0 0] 46) := ⟨by rw [← hw1]; exact blk_new w _⟩
  have H1 := Aside0.mk (H.out.below HB1.out)
  clear hw1
  obtain ⟨gy, hgy⟩ : ∃ gy, gy = w.heap.size := ⟨_, rfl⟩
  rw [← hgy] at HY1 ⊢
  have HGY : Aside0 (w.heap.size ≤ gy) := ⟨by omega⟩
  clear hgy
  refine (lw_list H1.out).mono ?_
  rintro e w2 ⟨A2, c2, rfl, hR2, hb⟩
  have HR2 := Aside0.mk (Kd.R_lower hR2 HB1.out.size)
  have H2 := Aside0.mk (H1.out.below hb)
  have HY2 := Aside0.mk (blk_below HY1.out hb)
  have HB2 := Aside0.mk (HB1.out.trans (hb.mono HB1.out.size))
  clear hR2 hb H1 HY1 HB1
  have HLS := Aside0.mk (fun (n : ByteArray) hn => list_size H.out.2.1 (n := n) hn)
  have HLN : Aside0 ((listV s).length ≤ 1073741824) := ⟨by
    have h2 : (listV s).length ≤ s.count := by
      unfold listV
      split
      · exact Nat.zero_le _
      · rename_i ho
        have h1 := list_len (s := s) (by simpa using ho)
        unfold listV at h1
        rw [if_neg ho] at h1
        omega
    have h3 := count_le s
    have h4 := H.out.2.1.lf
    have h5 := H.out.2.2
    omega⟩
  obtain ⟨n2, hn2⟩ : ∃ n2, n2 = (listV s).length := ⟨_, rfl⟩
  have HN2 := Aside0.mk hn2
  rw [← hn2] at HR2 HLN ⊢
  clear hn2
  go_wp2_with fail
  refine (lw_pend H2.out).mono ?_
  rintro e w3 ⟨A3, c3, rfl, hR3, hb⟩
  have HR3 := Aside0.mk (Kd.R_lower hR3 HB2.out.size)
  have HR2' := Aside0.mk (Kd.R_below HR2.out hb)
  have H3 := Aside0.mk (H2.out.below hb)
  have HY3 := Aside0.mk (blk_below HY2.out hb)
  have HB3 := Aside0.mk (HB2.out.trans (hb.mono HB2.out.size))
  clear hR3 hb H2 HY2 HB2 HR2
  obtain ⟨pn, hpn⟩ : ∃ pn, pn = s.works.length := ⟨_, rfl⟩
  have HPN := Aside0.mk hpn
  rw [← hpn] at HR3 ⊢
  clear hpn
  go_upto_region 2 with fail
  have hb4 : Below w3.heap.size w3 (w3.alloc (Obj.cells #[Value.slice A2 n2 c2, Value.slice A3 pn c3, Value.slice none 0 0] 46)) := below_alloc (Below.refl _ _) _
  have HK4 : Aside0 (LkI w (w3.alloc (Obj.cells #[Value.slice A2 n2 c2, Value.slice A3 pn c3, Value.slice none 0 0] 46)) s w3.heap.size gy (.slice A2 n2 c2) (.slice A3 pn c3) (.slice none 0 0) 0) := ⟨⟨blk_new w3 _, blk_below HY3.out hb4, ⟨Kd.R_below HR2'.out hb4, Kd.R_below HR3.out hb4, Kd.R_nil _ _ _ _ _⟩, HB3.out.trans (hb4.mono HB3.out.size)⟩⟩
  have HGX : Aside0 (w.heap.size ≤ w3.heap.size ∧ gy < w3.heap.size) := ⟨HB3.out.size, blk_lt HY3.out⟩
  generalize (w3.alloc (Obj.cells #[Value.slice A2 n2 c2, Value.slice A3 pn c3, Value.slice none 0 0] 46)) = w4 at *
  generalize w3.heap.size = gx at *
  clear hb4 H3 HY3 HR2' HR3 HB3
  go_wp2_with fail
  go_loopg [4] n2 (fun kq v4 w' => ∃ (i : Nat) (vb : Value), v4 = .int .i64 i ∧ Aside0 (i + kq = n2) ∧ Aside0 (LkI w w' s gx gy (.slice A2 n2 c2) (.slice A3 pn c3) vb i))
  case atStart => exact ⟨0, _, rfl, ⟨by omega⟩, HK4⟩
  case round =>
    clear HK4
    obtain ⟨i, vb, rfl, HI, HK⟩ := hrel
    obtain ⟨A4, c4, hvb⟩ := Kd.R_slice HK.out.sn.b
    have k0 : wr.cell? ⟨gx, 0, none⟩ = some (.slice A2 n2 c2) := (blk_cell HK.out.bx 0).trans rfl
    by_cases hlt : i < n2
    · have d6 : decide ((i : Int) < (n2 : Int)) = true := decide_eq_true (by omega)
      have d7 : decide (i < n2) = true := decide_eq_true hlt
      have j0 : (0 : Int) ≤ (i : Int) := by omega
      have j1 : (i : Int) < (n2 : Int) := by omega
      have HLI : Aside0 ((((listV s).take i).map (readsOf s)).length = i) := ⟨by rw [List.length_map, List.length_take]; have := HN2.out; omega⟩
      rw [show (Sn.bytes ⟨listV s, s.works.map pendOf, ((listV s).take i).map (readsOf s)⟩).length = i from HLI.out] at hvb
      subst hvb
      have hCL : Kd.string.C wr A2 n2 (listV s) := by
        have h := (Kd.R_reads' HK.out.sn.n).2.2
        rw [show (Sn.names ⟨listV s, s.works.map pendOf, ((listV s).take i).map (readsOf s)⟩).length = n2 from HN2.out.symm] at h
        exact h
      obtain ⟨ad2, hli, hA0, k1⟩ := at_S hCL i hlt
      subst hA0
      have HAT := Aside0.mk (List.getElem?_eq_getElem hli)
      generalize (listV s)[i] = n at k1 HAT
      have HNX := Aside0.mk (reads_next s HAT.out)
      have HLJ : Aside0 ((((listV s).take (i + 1)).map (readsOf s)).length = i + 1) := ⟨by rw [List.length_map, List.length_take]; have := HN2.out; omega⟩
      have HSN : Aside0 (n.size ≤ maxLen) := ⟨by have := HLS.out n (List.mem_of_getElem? HAT.out); simp only [maxLen]; omega⟩
      have HLT := Aside0.mk hlt
      clear hli hlt hCL
      go_wp2_with fail
      refine (lw_read n (H.out.below HK.out.bl) HSN.out).mono ?_
      rintro e w7 ⟨v7, rfl, hR, hb⟩
      have hbs := HK.out.bl.size
      have hSN := HK.out.sn
      have HK7 : Aside0 (LkI w w7 s gx gy (.slice (some ad2) n2 c2) (.slice A3 pn c3) (.slice A4 i c4) i) := ⟨⟨blk_below HK.out.bx hb, blk_below HK.out.by' hb, hSN.below hb, HK.out.bl.trans (hb.mono hbs)⟩⟩
      have HR7 := Aside0.mk (Kd.R_mono (Kd.R_bound (Kd.R_lower hR hbs)) (ok' := fun k => True) (fun _ _ => trivial))
      have hown : ∀ k, (Value.slice A4 i c4).ownBlock = some k → k < wr.heap.size := Kd.R_lt hSN.b
      have HR8 : Aside0 (bK.R 5 w7 w.heap.size (fun k => some k ≠ (Value.slice A4 i c4).ownBlock) v7 (s.read n).1) := ⟨Kd.R_lower (Kd.R_mono (Kd.R_bound hR) (fun k hk e => by have h1 := hown k e.symm; have h2 := hk.2.1; omega)) hbs⟩
      obtain ⟨A7, c7, hv7⟩ := Kd.R_slice hR
      obtain ⟨m, hm⟩ : ∃ m, m = (s.read n).1.length := ⟨_, rfl⟩
      rw [← hm] at hv7
      subst hv7
      clear hR hb hm hown hSN hbs k0 k1 HK
      have k2 : w7.cell? ⟨gx, 2, none⟩ = some (.slice A4 i c4) := (blk_cell HK7.out.bx 2).trans rfl
      go_wp2_with (first | ((with_reducible refine gate_builtin (b := .append) (xs := #[.tmp 30, .tmp 32]) rfl ?_); at_builtin; refine Kd.R_append bbK (w0 := w) w.heap.size rfl (.tmp 30) (.tmp 32) 44 30 (.slice none 0 0) 24 rfl Try.underlying44 info30 rfl (by decide) (by decide) (.slice A4 i c4) (((listV s).take i).map (readsOf s)) (s.read n).1 [.slice A7 m c7] (fun _ => True) (fun k => some k ≠ (Value.slice A4 i c4).ownBlock) rfl rfl ?aP (fun _ hk => ⟨trivial, hk⟩) (fun _ _ => trivial) ?aO ?aB ?aS ?aL ?_; (case aP => exact ⟨_, rfl, HR8.out⟩); (case aO => exact HK7.out.sn.b); (case aB => exact HK7.out.bl); (case aS => exact HK7.out.bl.size); (case aL => rw [HLI.out]; have := HLN.out; have := HLT.out; omega); intro v9 w9 ho hb hg hat; rw [← HNX.out] at ho; have hK9 := lk_grown HK7.out hg ho hb; obtain ⟨A9, c9, hv9⟩ := Kd.R_slice ho; rw [HLJ.out] at hv9; have q2 : w9.cell? ⟨gx, 2, none⟩ = some (.slice A4 i c4) := (blk_cell hK9.1 2).trans rfl; have rf := blk_frozen hK9.1 2; clear ho hb hg hat; have HK9 := Aside0.mk hK9; clear hK9; subst hv9) | fail)
      have HKa : Aside0 (LkI w (w9.setCell ⟨gx, 2, none⟩ (.slice A9 (i + 1) c9)) s gx gy (.slice (some ad2) n2 c2) (.slice A3 pn c3) (.slice A9 (i + 1) c9) (i + 1)) := ⟨⟨blk_set HK9.out.1 2 _, blk_far HK9.out.2.1 (p := ⟨gx, 2, none⟩) (by have := HGX.out.2; simp only; omega) _, HK9.out.2.2.1.set HK9.out.1 (by decide) 2 _, Below.setCell HK9.out.2.2.2 (p := ⟨gx, 2, none⟩) HGX.out.1 _⟩⟩
      clear q2 rf k2 HK9
      go_roundg (gk - 1)
      case measure => have := HI.out; have := HLT.out; omega
      case rel => exact ⟨i + 1, _, next_i6 (by have := HLT.out; have := HLN.out; omega), ⟨by have := HI.out; have := HLT.out; omega⟩, HKa⟩
    · have d6 : decide ((i : Int) < (n2 : Int)) = false := decide_eq_false (by omega)
      have d7 : decide (i < n2) = false := decide_eq_false hlt
      obtain rfl : i = n2 := by have := HI.out; omega
      have HLI : Aside0 ((((listV s).take i).map (readsOf s)).length = i) := ⟨by rw [List.length_map, List.length_take]; have := HN2.out; omega⟩
      rw [show (Sn.bytes ⟨listV s, s.works.map pendOf, ((listV s).take i).map (readsOf s)⟩).length = i from HLI.out] at hvb
      subst hvb
      have k1 : wr.cell? ⟨gx, 1, none⟩ = some (.slice A3 pn c3) := (blk_cell HK.out.bx 1).trans rfl
      have k2 : wr.cell? ⟨gx, 2, none⟩ = some (.slice A4 i c4) := (blk_cell HK.out.bx 2).trans rfl
      have q0 : wr.cell? ⟨gy, 0, none⟩ = some (.slice none 0 0) := (blk_cell HK.out.by' 0).trans rfl
      have q1 : wr.cell? ⟨gy, 1, none⟩ = some (.slice none 0 0) := (blk_cell HK.out.by' 1).trans rfl
      have q2 : wr.cell? ⟨gy, 2, none⟩ = some (.slice none 0 0) := (blk_cell HK.out.by' 2).trans rfl
      have rf := fun j => blk_frozen HK.out.by' j
      clear hlt
      go_wp2_with fail
      have hI0 := blk_set HK.out.by' 0 (.slice A2 i c2)
      have hI1 := blk_set hI0 1 (.slice A3 pn c3)
      have hI2 := blk_set hI1 2 (.slice A4 i c4)
      have HI2 : Aside0 (IsB (((wr.setCell ⟨gy, 0, none⟩ (.slice A2 i c2)).setCell ⟨gy, 1, none⟩ (.slice A3 pn c3)).setCell ⟨gy, 2, none⟩ (.slice A4 i c4)) gy #[.slice A2 i c2, .slice A3 pn c3, .slice A4 i c4] 46) := ⟨hI2⟩
      have HS2 := Aside0.mk (((HK.out.sn.set HK.out.by' (by decide) 0 (.slice A2 i c2)).set hI0 (by decide) 1 (.slice A3 pn c3)).set hI1 (by decide) 2 (.slice A4 i c4))
      have HB2 : Aside0 (Below w.heap.size w (((wr.setCell ⟨gy, 0, none⟩ (.slice A2 i c2)).setCell ⟨gy, 1, none⟩ (.slice A3 pn c3)).setCell ⟨gy, 2, none⟩ (.slice A4 i c4))) := ⟨Below.setCell (Below.setCell (Below.setCell HK.out.bl (p := ⟨gy, 0, none⟩) HGY.out _) (p := ⟨gy, 1, none⟩) HGY.out _) (p := ⟨gy, 2, none⟩) HGY.out _⟩
      clear hI0 hI1 hI2 HK k0 k1 k2 q0 q1 q2 rf
      generalize (((wr.setCell ⟨gy, 0, none⟩ (.slice A2 i c2)).setCell ⟨gy, 1, none⟩ (.slice A3 pn c3)).setCell ⟨gy, 2, none⟩ (.slice A4 i c4)) = wf at *
      rw [List.take_of_length_le (by have := HN2.out; omega)] at HS2
      have q0 : wf.cell? ⟨gy, 0, none⟩ = some (.slice A2 i c2) := (blk_cell HI2.out 0).trans rfl
      have q1 : wf.cell? ⟨gy, 1, none⟩ = some (.slice A3 pn c3) := (blk_cell HI2.out 1).trans rfl
      have q2 : wf.cell? ⟨gy, 2, none⟩ = some (.slice A4 i c4) := (blk_cell HI2.out 2).trans rfl
      refine bodyPost_ret (results_cell_row rfl _ _ gy 46 #[.slice A2 i c2, .slice A3 pn c3, .slice A4 i c4] (0, 0) _ rfl HI2.out Try.underlying46 rfl (by kernel_rfl)) rfl ?_
      exact ⟨_, _, _, rfl, HS2.out, HB2.out⟩
end
end Go.Proofs.Ytnegcjgolaakcaa

/- copied: the same, in new memory. -/
namespace Go.Proofs.Ytnegcjgolaakcaa
open Go.RowKit Go.Maps
open Go.Proofs.YtnegcjgolaakcaaW.PrintWords Go.Proofs.YtnegcjgolaakcaaW.PrintLast Go.Proofs.YtnegcjgolaakcaaW.PrintMore
set_option linter.unusedVariables false
set_option linter.unusedSimpArgs false
/-- in the midst of copied -/
structure CoI (w w' : World) (gx gy gz : Nat) (v0 v1 v2 u0 u1 ub : Value) (x : Sn) (i : Nat) : Prop where
  bx : IsB w' gx #[v0, v1, v2] 46
  by' : IsB w' gy #[.slice none 0 0, .slice none 0 0, .slice none 0 0] 46
  bz : IsB w' gz #[u0, u1, ub] 46
  sn : SeenR w' w.heap.size (fun _ => True) u0 u1 ub ⟨x.names, x.works, x.bytes.take i⟩
  bl : Below w.heap.size w w'
section
variable {w w' : World} {base : Nat} {ok : Nat → Prop} {v0 v1 v2 : Value} {x : Sn} {n0 n1 n2 : Nat}
theorem co_grown {w9 : World} {gx gy gz i j : Nat} {u0 u1 ub v9 : Value} (h : CoI w w' gx gy gz v0 v1 v2 u0 u1 ub x i) (hg : w'.grownBy w9 ub.ownBlock) (ho : bbK.R 30 w9 w.heap.size (fun _ => True) v9 (x.bytes.take j)) (hb : Below w.heap.size w w9) : IsB w9 gx #[v0, v1, v2] 46 ∧ IsB w9 gy #[.slice none 0 0, .slice none 0 0, .slice none 0 0] 46 ∧ IsB w9 gz #[u0, u1, ub] 46 ∧ SeenR w9 w.heap.size (fun _ => True) u0 u1 v9 ⟨x.names, x.works, x.bytes.take j⟩ ∧ Below w.heap.size w w9 :=
  ⟨blk_grown h.bx hg (Kd.R_ne h.sn.b h.bx (by decide)), blk_grown h.by' hg (Kd.R_ne h.sn.b h.by' (by decide)), blk_grown h.bz hg (Kd.R_ne h.sn.b h.bz (by decide)), ⟨Kd.R_over' h.sn.n (Kd.R_typed h.sn.b) (fun q hq => (E_str q hq).1) hg, Kd.R_over' h.sn.p (Kd.R_typed h.sn.b) (fun q hq => (E_pend q hq).1) hg, ho⟩, hb⟩
theorem co_below {w9 : World} {gx gy gz i : Nat} {u0 u1 ub : Value} (h : CoI w w' gx gy gz v0 v1 v2 u0 u1 ub x i) (hb : Below w'.heap.size w' w9) : CoI w w9 gx gy gz v0 v1 v2 u0 u1 ub x i :=
  ⟨blk_below h.bx hb, blk_below h.by' hb, blk_below h.bz hb, h.sn.below hb, h.bl.trans (hb.mono h.bl.size)⟩
theorem take_next {α : Type} {L : List α} {i : Nat} {n : α} (h : L[i]? = some n) : L.take (i + 1) = L.take i ++ [n] := by
  obtain ⟨hl, rfl⟩ := List.getElem?_eq_some_iff.1 h
  exact List.take_succ_eq_append_getElem hl
def F26RT1 : Bool × List (List Nat × List Nat) := (true, [([], []), ([0], [0]), ([1], [1]), ([], []), ([3], [3]), ([4, 2], [4]), ([2, 5], [2, 5]), ([], []), ([7, 6, 5, 0, 1, 2, 3, 4, 5, 6, 7], [6, 7])])
def F26RB1 : List Nat := [0, 1, 3, 0, 8, 31, 63, 0, 255]
theorem F26Rtab1 : rtab .any (opsOf Try.f26 1) = F26RT1 := by kernel_rfl
theorem F26Rbits1 : waitsOk F26RT1.2 F26RB1 = true := by kernel_rfl
def F26RT5 : Bool × List (List Nat × List Nat) := (true, [([], []), ([0], [0]), ([], []), ([2], [2]), ([], []), ([3, 4], [3, 4]), ([5], [5]), ([6], [6]), ([7], [7]), ([1, 8, 7], [1, 8]), ([0, 1, 2, 3, 4, 5, 6, 7, 8, 9], []), ([10, 9, 9, 0, 1, 2, 3, 4, 5, 6, 7, 8, 9], [9, 10])])
def F26RB5 : List Nat := [0, 1, 0, 4, 0, 28, 60, 124, 252, 511, 1023, 2047]
theorem F26Rtab5 : rtab .any (opsOf Try.f26 5) = F26RT5 := by kernel_rfl
theorem F26Rbits5 : waitsOk F26RT5.2 F26RB5 = true := by kernel_rfl
set_option maxHeartbeats 4000000 in
set_option maxRecDepth 100000 in
theorem copied_calls (h : SeenC w v0 v1 v2 n0 n1 n2 x) (hl : n0 ≤ 1073741824 ∧ n1 ≤ 1073741824 ∧ n2 ≤ 1073741824) (hlb : ∀ l ∈ x.bytes, l.length ≤ 1073741824) :
    Calls Try.prog 26 #[.agg #[v0, v1, v2]] w fun e w' => ∃ u0 u1 u2, e = .returned (.agg #[u0, u1, u2]) ∧ SeenR w' w.heap.size (fun _ => True) u0 u1 u2 x ∧ Below w.heap.size w w' := by
  have H := Aside0.mk h
  have HL := Aside0.mk hl
  have HLB := Aside0.mk hlb
  clear h hl hlb
  obtain ⟨A0, c0, A1, c1, A2, c2, rfl, rfl, rfl⟩ := H.out.shape
  go_enter Try.func26, Try.ntmps26
  go_upto_region 1 with fail
  generalize hw1 : ((w.alloc (Obj.cells #[Value.slice A0 n0 c0, Value.slice A1 n1 c1, Value.slice A2 n2 c2] 46)).alloc (Obj.cells #[Value.slice none 0 0, Value.slice none 0 0, Value.slice none 0 0] 46)) = w1
  have HB : Aside0 (Below w.heap.size w w1) := ⟨by rw [← hw1]; exact below_alloc (below_alloc (Below.refl _ _) _) _⟩
  have HI1 : Aside0 (IsB w1 w.heap.size #[Value.slice A0 n0 c0, Value.slice A1 n1 c1, Value.slice A2 n2 c2] 46) := ⟨by rw [← hw1]; exact blk_alloc (blk_new w _) _⟩
  have HI2 : Aside0 (IsB w1 (w.heap.size + 1) #[Value.slice none 0 0, Value.slice none 0 0, Value.slice none 0 0] 46) := ⟨by rw [← hw1]; have h := blk_new (w.alloc (Obj.cells #[Value.slice A0 n0 c0, Value.slice A1 n1 c1, Value.slice A2 n2 c2] 46)) (Obj.cells #[Value.slice none 0 0, Value.slice none 0 0, Value.slice none 0 0] 46); rw [World.size_alloc] at h; exact h⟩
  have H1 := Aside0.mk (H.out.below HB.out)
  clear hw1 H
  obtain ⟨gx, hgx⟩ : ∃ gx, gx = w.heap.size := ⟨_, rfl⟩
  obtain ⟨gy, hgy⟩ : ∃ gy, gy = w.heap.size + 1 := ⟨_, rfl⟩
  rw [← hgy] at HI2 ⊢
  rw [← hgx] at HI1 ⊢
  have HGY : Aside0 (w.heap.size ≤ gy) := ⟨by omega⟩
  clear hgx hgy
  have HN0 : Aside0 (n0 = x.names.length) := ⟨by obtain ⟨⟨_, _, _, _, h, _⟩, _⟩ := H1.out; exact h⟩
  have HN1 : Aside0 (n1 = x.works.length) := ⟨by obtain ⟨_, ⟨_, _, _, _, h, _⟩, _⟩ := H1.out; exact h⟩
  have HN2 : Aside0 (n2 = x.bytes.length) := ⟨by obtain ⟨_, _, ⟨_, _, _, _, h, _⟩⟩ := H1.out; exact h⟩
  have HC0 := Aside0.mk H1.out.nC
  have HC1 := Aside0.mk H1.out.pC
  have m0 : w1.drew.cell? ⟨gx, 0, none⟩ = some (.slice A0 n0 c0) := (blk_cell (blk_drew HI1.out) 0).trans rfl
  have m1 : w1.drew.cell? ⟨gx, 1, none⟩ = some (.slice A1 n1 c1) := (blk_cell (blk_drew HI1.out) 1).trans rfl
  have HBD := Aside0.mk (show Below w1.heap.size w1 w1.drew from Below.drew (Below.refl _ _))
  refine start_ (n := 9) (S := fun w' => w'.cell? ⟨gx, 0, none⟩ = some (.slice A0 n0 c0) ∧ w'.cell? ⟨gx, 1, none⟩ = some (.slice A1 n1 c1)) (ds := [8]) #[false, false, false, false, false, false, false, false, false] (by kernel_rfl) rfl rfl ⟨m0, m1⟩ (fun hHeld => ?_)
  refine with_tabW F26Rtab1 F26Rbits1 (fun HT_ HW_ => ?_)
  refine pure_ (i := 0) (N := some 5) (v := ?_) (a' := ?_) #[true, false, false, false, false, false, false, false, false] rfl rfl (any_of HT_.out (by kernel_rfl)) (fun _ _ _ h => h) (Or.inl ⟨by rfl, ?_⟩) ?_ ?_
  rotate_left
  · intro w'
    go_simp
    with_reducible rfl
  rotate_left
  · simp only [Act.put, List.setIfInBounds_toArray, List.set_cons_zero, List.set_cons_succ, i64_w, i32_w]
    rfl
  refine pure_ (i := 3) (N := some 8) (v := ?_) (a' := ?_) #[true, false, false, true, false, false, false, false, false] rfl rfl (any_of HT_.out (by kernel_rfl)) (fun _ _ _ h => h) (Or.inl ⟨by rfl, ?_⟩) ?_ ?_
  rotate_left
  · intro w'
    go_simp
    with_reducible rfl
  rotate_left
  · simp only [Act.put, List.setIfInBounds_toArray, List.set_cons_zero, List.set_cons_succ, i64_w, i32_w]
    rfl
  refine take_ (i := 1) (N := some 6) (v := ?_) (a' := ?_) #[true, true, false, true, false, false, false, false, false] rfl rfl (take_ofW HT_.out HW_.out (by kernel_rfl)) (fun _ _ _ h => h) (Or.inl ⟨by rfl, ?_⟩) hHeld ?_ ?_
  rotate_left
  · rintro w' ⟨s0, s1⟩
    go_simp
    with_reducible rfl
  rotate_left
  · simp only [Act.put, List.setIfInBounds_toArray, List.set_cons_zero, List.set_cons_succ, i64_w, i32_w]
    rfl
  refine take_ (i := 4) (N := some 9) (v := ?_) (a' := ?_) #[true, true, false, true, true, false, false, false, false] rfl rfl (take_ofW HT_.out HW_.out (by kernel_rfl)) (fun _ _ _ h => h) (Or.inl ⟨by rfl, ?_⟩) hHeld ?_ ?_
  rotate_left
  · rintro w' ⟨s0, s1⟩
    go_simp
    with_reducible rfl
  rotate_left
  · simp only [Act.put, List.setIfInBounds_toArray, List.set_cons_zero, List.set_cons_succ, i64_w, i32_w]
    rfl
  refine join_ (σ := (Option Addr × Nat) × (Option Addr × Nat) × Nat) 1 #[true, true, true, true, true, true, true, true, false] (fun s_ => [(7, .slice s_.1.1 n0 s_.1.2), (10, .slice s_.2.1.1 n1 s_.2.1.2), (11, .agg #[.slice s_.1.1 n0 s_.1.2, .slice s_.2.1.1 n1 s_.2.1.2, .slice none 0 0]), (3, .pointer (some ⟨s_.2.2, 0, none⟩))]) (fun s_ w' => (w'.cell? ⟨gx, 0, none⟩ = some (.slice A0 n0 c0) ∧ w'.cell? ⟨gx, 1, none⟩ = some (.slice A1 n1 c1)) ∧ Kd.string.R 9 w' w1.heap.size (fun _ => True) (.slice s_.1.1 n0 s_.1.2) x.names ∧ pendK.R 74 w' w1.heap.size (fun _ => True) (.slice s_.2.1.1 n1 s_.2.1.2) x.works ∧ IsB w' s_.2.2 #[.slice none 0 0, .slice none 0 0, .slice none 0 0] 46 ∧ w1.heap.size ≤ s_.2.2 ∧ Below w1.heap.size w1 w') ?_ ?_
  rotate_left
  · intro hCont
    refine two_ (i := 2) (j := 7) (Ni := some 7) (Nj := some 3) #[true, true, true, true, true, false, false, false, false] #[true, true, false, true, true, false, false, true, false] rfl rfl rfl rfl (two_of HT_.out (by kernel_rfl)) (by decide) (by decide) (fun K hK => ?_) (fun K hK => ?_)
    · skip
      refine Kd.R_append_rows_step Kd.string (Rr := Kd.string.K w1.drew) (w0 := w1) w1.heap.size (by rfl) (.const (.slice none 0 0)) (.tmp 6) 42 9 (.string ⟨#[]⟩) 16 rfl Try.underlying42 info9 rfl (by decide) (by decide) (.slice none 0 0) [] x.names A0 n0 c0 (fun _ => True) (fun _ => False) rfl rfl ?aO ?aR ?aK (fun _ hk => hk.elim) (fun _ _ => trivial) ?aB ?aS ?aL ?_
      (case aO => exact Kd.R_nil _ _ _ _ _)
      (case aR => exact Kd.C_below HC0.out HBD.out)
      (case aK => exact fun x cs h => h)
      (case aB => exact HBD.out)
      (case aS => exact HBD.out.size)
      (case aL => have := HL.out; simp only [List.length_nil]; omega)
      intro v5 w5 ho5 hb5 hg5 hat5
      rw [List.nil_append] at ho5
      obtain ⟨a5, c5, hv5⟩ := Kd.R_slice ho5
      rw [← HN0.out] at hv5
      subst hv5
      have q0 : w5.cell? ⟨gx, 0, none⟩ = some (.slice A0 n0 c0) := (blk_cell (blk_below HI1.out hb5) 0).trans rfl
      have q1 : w5.cell? ⟨gx, 1, none⟩ = some (.slice A1 n1 c1) := (blk_cell (blk_below HI1.out hb5) 1).trans rfl
      refine hK.out _ _ ⟨q0, q1⟩ (fun hHeld => ?_)
      clear hK K
      refine norm_ (a' := ?_) ?_ ?_
      rotate_left
      · show Act.put _ (some 7) _ = _
        simp only [Act.put, List.setIfInBounds_toArray, List.set_cons_zero, List.set_cons_succ, i64_w, i32_w]
        rfl
      refine two_ (i := 5) (j := 7) (Ni := some 10) (Nj := some 3) #[true, true, true, true, true, true, false, false, false] #[true, true, true, true, true, false, false, true, false] rfl rfl rfl rfl (two_of HT_.out (by kernel_rfl)) (by decide) (by decide) (fun K hK => ?_) (fun K hK => ?_)
      · skip
        refine Kd.R_append_rows_step pendK (Rr := pendK.K w5) (w0 := w1) w1.heap.size (by rfl) (.const (.slice none 0 0)) (.tmp 9) 43 74 (.agg #[.int .i64 0, .string ⟨#[]⟩, .string ⟨#[]⟩, .int .i64 0]) 48 rfl Try.underlying43 info74 rfl (by decide) (by decide) (.slice none 0 0) [] x.works A1 n1 c1 (fun _ => True) (fun _ => False) rfl rfl ?aO ?aR ?aK (fun _ hk => hk.elim) (fun _ _ => trivial) ?aB ?aS ?aL ?_
        (case aO => exact Kd.R_nil _ _ _ _ _)
        (case aR => exact Kd.C_below HC1.out hb5)
        (case aK => exact fun x cs h => h)
        (case aB => exact hb5)
        (case aS => exact hb5.size)
        (case aL => have := HL.out; simp only [List.length_nil]; omega)
        intro v6 w6 ho6 hb6 hg6 hat6
        rw [List.nil_append] at ho6
        obtain ⟨a6, c6, hv6⟩ := Kd.R_slice ho6
        rw [← HN1.out] at hv6
        subst hv6
        have q2 : w6.cell? ⟨gx, 0, none⟩ = some (.slice A0 n0 c0) := (blk_cell (blk_below HI1.out hb6) 0).trans rfl
        have q3 : w6.cell? ⟨gx, 1, none⟩ = some (.slice A1 n1 c1) := (blk_cell (blk_below HI1.out hb6) 1).trans rfl
        refine hK.out _ _ ⟨q2, q3⟩ (fun hHeld => ?_)
        clear hK K
        refine norm_ (a' := ?_) ?_ ?_
        rotate_left
        · show Act.put _ (some 10) _ = _
          simp only [Act.put, List.setIfInBounds_toArray, List.set_cons_zero, List.set_cons_succ, i64_w, i32_w]
          rfl
        refine pure_ (i := 6) (N := some 11) (v := ?_) (a' := ?_) #[true, true, true, true, true, true, true, false, false] rfl rfl (any_of HT_.out (by kernel_rfl)) (fun _ _ _ h => h) (Or.inl ⟨by rfl, ?_⟩) ?_ ?_
        rotate_left
        · intro w'
          go_simp
          with_reducible rfl
        rotate_left
        · simp only [Act.put, List.setIfInBounds_toArray, List.set_cons_zero, List.set_cons_succ, i64_w, i32_w]
          rfl
        refine one_ (i := 7) (N := some 3) #[true, true, true, true, true, true, true, true, false] rfl rfl (one_of HT_.out (by kernel_rfl)) (by decide) (fun K hK => ?_)
        refine value_ (w1 := ?_) (v := ?_) (by rfl) rfl ?_ ?_
        rotate_left 2
        · go_simp
          constructor
          · rfl
          · rfl
        have hb7 : Below w1.heap.size w1 (w6.alloc (Obj.cells #[Value.slice none 0 0, Value.slice none 0 0, Value.slice none 0 0] 46)) := below_alloc hb6 _
        have q4 := (blk_cell (blk_below HI1.out hb7) 0).trans rfl
        have q5 := (blk_cell (blk_below HI1.out hb7) 1).trans rfl
        refine hK.out _ _ ⟨q4, q5⟩ (fun hHeld => ?_)
        clear hK K
        refine norm_ (a' := ?_) ?_ ?_
        rotate_left
        · show Act.put _ (some 3) _ = _
          simp only [Act.put, List.setIfInBounds_toArray, List.set_cons_zero, List.set_cons_succ, i64_w, i32_w]
          rfl
        exact norm_ (by simp only [putAll, Act.put, List.setIfInBounds_toArray, List.set_cons_zero, List.set_cons_succ]) (hCont ((a5, c5), (a6, c6), w6.heap.size) _ ⟨hHeld, Kd.R_alloc (Kd.R_below ho5 (grown_none hg6)) _, Kd.R_alloc ho6 _, blk_new _ _, hb6.size, hb7⟩)
      · skip
        refine value_ (w1 := ?_) (v := ?_) (by rfl) rfl ?_ ?_
        rotate_left 2
        · go_simp
          constructor
          · rfl
          · rfl
        have hb7 : Below w1.heap.size w1 (w5.alloc (Obj.cells #[Value.slice none 0 0, Value.slice none 0 0, Value.slice none 0 0] 46)) := below_alloc hb5 _
        have q4 := (blk_cell (blk_below HI1.out hb7) 0).trans rfl
        have q5 := (blk_cell (blk_below HI1.out hb7) 1).trans rfl
        refine hK.out _ _ ⟨q4, q5⟩ (fun hHeld => ?_)
        clear hK K
        refine norm_ (a' := ?_) ?_ ?_
        rotate_left
        · show Act.put _ (some 3) _ = _
          simp only [Act.put, List.setIfInBounds_toArray, List.set_cons_zero, List.set_cons_succ, i64_w, i32_w]
          rfl
        refine one_ (i := 5) (N := some 10) #[true, true, true, true, true, true, false, true, false] rfl rfl (one_of HT_.out (by kernel_rfl)) (by decide) (fun K hK => ?_)
        refine Kd.R_append_rows_step pendK (Rr := pendK.K (w5.alloc (Obj.cells #[Value.slice none 0 0, Value.slice none 0 0, Value.slice none 0 0] 46))) (w0 := w1) w1.heap.size (by rfl) (.const (.slice none 0 0)) (.tmp 9) 43 74 (.agg #[.int .i64 0, .string ⟨#[]⟩, .string ⟨#[]⟩, .int .i64 0]) 48 rfl Try.underlying43 info74 rfl (by decide) (by decide) (.slice none 0 0) [] x.works A1 n1 c1 (fun _ => True) (fun _ => False) rfl rfl ?aO ?aR ?aK (fun _ hk => hk.elim) (fun _ _ => trivial) ?aB ?aS ?aL ?_
        (case aO => exact Kd.R_nil _ _ _ _ _)
        (case aR => exact Kd.C_below HC1.out hb7)
        (case aK => exact fun x cs h => h)
        (case aB => exact hb7)
        (case aS => exact hb7.size)
        (case aL => have := HL.out; simp only [List.length_nil]; omega)
        intro v6 w6 ho6 hb6 hg6 hat6
        rw [List.nil_append] at ho6
        obtain ⟨a6, c6, hv6⟩ := Kd.R_slice ho6
        rw [← HN1.out] at hv6
        subst hv6
        have q6 : w6.cell? ⟨gx, 0, none⟩ = some (.slice A0 n0 c0) := (blk_cell (blk_below HI1.out hb6) 0).trans rfl
        have q7 : w6.cell? ⟨gx, 1, none⟩ = some (.slice A1 n1 c1) := (blk_cell (blk_below HI1.out hb6) 1).trans rfl
        refine hK.out _ _ ⟨q6, q7⟩ (fun hHeld => ?_)
        clear hK K
        refine norm_ (a' := ?_) ?_ ?_
        rotate_left
        · show Act.put _ (some 10) _ = _
          simp only [Act.put, List.setIfInBounds_toArray, List.set_cons_zero, List.set_cons_succ, i64_w, i32_w]
          rfl
        refine pure_ (i := 6) (N := some 11) (v := ?_) (a' := ?_) #[true, true, true, true, true, true, true, true, false] rfl rfl (any_of HT_.out (by kernel_rfl)) (fun _ _ _ h => h) (Or.inl ⟨by rfl, ?_⟩) ?_ ?_
        rotate_left
        · intro w'
          go_simp
          with_reducible rfl
        rotate_left
        · simp only [Act.put, List.setIfInBounds_toArray, List.set_cons_zero, List.set_cons_succ, i64_w, i32_w]
          rfl
        exact norm_ (by simp only [putAll, Act.put, List.setIfInBounds_toArray, List.set_cons_zero, List.set_cons_succ]) (hCont ((a5, c5), (a6, c6), w5.heap.size) _ ⟨hHeld, Kd.R_below (Kd.R_alloc ho5 _) (grown_none hg6), ho6, blk_below (blk_new w5 _) (grown_none hg6), hb5.size, hb6⟩)
    · skip
      refine value_ (w1 := ?_) (v := ?_) (by rfl) rfl ?_ ?_
      rotate_left 2
      · go_simp
        constructor
        · rfl
        · rfl
      have hb7 : Below w1.heap.size w1 (w1.drew.alloc (Obj.cells #[Value.slice none 0 0, Value.slice none 0 0, Value.slice none 0 0] 46)) := below_alloc HBD.out _
      have q4 := (blk_cell (blk_below HI1.out hb7) 0).trans rfl
      have q5 := (blk_cell (blk_below HI1.out hb7) 1).trans rfl
      refine hK.out _ _ ⟨q4, q5⟩ (fun hHeld => ?_)
      clear hK K
      refine norm_ (a' := ?_) ?_ ?_
      rotate_left
      · show Act.put _ (some 3) _ = _
        simp only [Act.put, List.setIfInBounds_toArray, List.set_cons_zero, List.set_cons_succ, i64_w, i32_w]
        rfl
      refine one_ (i := 2) (N := some 7) #[true, true, true, true, true, false, false, true, false] rfl rfl (one_of HT_.out (by kernel_rfl)) (by decide) (fun K hK => ?_)
      refine Kd.R_append_rows_step Kd.string (Rr := Kd.string.K w1.drew) (w0 := w1) w1.heap.size (by rfl) (.const (.slice none 0 0)) (.tmp 6) 42 9 (.string ⟨#[]⟩) 16 rfl Try.underlying42 info9 rfl (by decide) (by decide) (.slice none 0 0) [] x.names A0 n0 c0 (fun _ => True) (fun _ => False) rfl rfl ?aO ?aR ?aK (fun _ hk => hk.elim) (fun _ _ => trivial) ?aB ?aS ?aL ?_
      (case aO => exact Kd.R_nil _ _ _ _ _)
      (case aR => exact Kd.C_below HC0.out hb7)
      (case aK => exact fun x cs h => h)
      (case aB => exact hb7)
      (case aS => exact hb7.size)
      (case aL => have := HL.out; simp only [List.length_nil]; omega)
      intro v5 w5 ho5 hb5 hg5 hat5
      rw [List.nil_append] at ho5
      obtain ⟨a5, c5, hv5⟩ := Kd.R_slice ho5
      rw [← HN0.out] at hv5
      subst hv5
      have q0 : w5.cell? ⟨gx, 0, none⟩ = some (.slice A0 n0 c0) := (blk_cell (blk_below HI1.out hb5) 0).trans rfl
      have q1 : w5.cell? ⟨gx, 1, none⟩ = some (.slice A1 n1 c1) := (blk_cell (blk_below HI1.out hb5) 1).trans rfl
      refine hK.out _ _ ⟨q0, q1⟩ (fun hHeld => ?_)
      clear hK K
      refine norm_ (a' := ?_) ?_ ?_
      rotate_left
      · show Act.put _ (some 7) _ = _
        simp only [Act.put, List.setIfInBounds_toArray, List.set_cons_zero, List.set_cons_succ, i64_w, i32_w]
        rfl
      refine one_ (i := 5) (N := some 10) #[true, true, true, true, true, true, false, true, false] rfl rfl (one_of HT_.out (by kernel_rfl)) (by decide) (fun K hK => ?_)
      refine Kd.R_append_rows_step pendK (Rr := pendK.K w5) (w0 := w1) w1.heap.size (by rfl) (.const (.slice none 0 0)) (.tmp 9) 43 74 (.agg #[.int .i64 0, .string ⟨#[]⟩, .string ⟨#[]⟩, .int .i64 0]) 48 rfl Try.underlying43 info74 rfl (by decide) (by decide) (.slice none 0 0) [] x.works A1 n1 c1 (fun _ => True) (fun _ => False) rfl rfl ?aO ?aR ?aK (fun _ hk => hk.elim) (fun _ _ => trivial) ?aB ?aS ?aL ?_
      (case aO => exact Kd.R_nil _ _ _ _ _)
      (case aR => exact Kd.C_below HC1.out hb5)
      (case aK => exact fun x cs h => h)
      (case aB => exact hb5)
      (case aS => exact hb5.size)
      (case aL => have := HL.out; simp only [List.length_nil]; omega)
      intro v6 w6 ho6 hb6 hg6 hat6
      rw [List.nil_append] at ho6
      obtain ⟨a6, c6, hv6⟩ := Kd.R_slice ho6
      rw [← HN1.out] at hv6
      subst hv6
      have q2 : w6.cell? ⟨gx, 0, none⟩ = some (.slice A0 n0 c0) := (blk_cell (blk_below HI1.out hb6) 0).trans rfl
      have q3 : w6.cell? ⟨gx, 1, none⟩ = some (.slice A1 n1 c1) := (blk_cell (blk_below HI1.out hb6) 1).trans rfl
      refine hK.out _ _ ⟨q2, q3⟩ (fun hHeld => ?_)
      clear hK K
      refine norm_ (a' := ?_) ?_ ?_
      rotate_left
      · show Act.put _ (some 10) _ = _
        simp only [Act.put, List.setIfInBounds_toArray, List.set_cons_zero, List.set_cons_succ, i64_w, i32_w]
        rfl
      refine pure_ (i := 6) (N := some 11) (v := ?_) (a' := ?_) #[true, true, true, true, true, true, true, true, false] rfl rfl (any_of HT_.out (by kernel_rfl)) (fun _ _ _ h => h) (Or.inl ⟨by rfl, ?_⟩) ?_ ?_
      rotate_left
      · intro w'
        go_simp
        with_reducible rfl
      rotate_left
      · simp only [Act.put, List.setIfInBounds_toArray, List.set_cons_zero, List.set_cons_succ, i64_w, i32_w]
        rfl
      exact norm_ (by simp only [putAll, Act.put, List.setIfInBounds_toArray, List.set_cons_zero, List.set_cons_succ]) (hCont ((a5, c5), (a6, c6), w1.heap.size) _ ⟨hHeld, Kd.R_below ho5 (grown_none hg6), ho6, blk_below (blk_below (blk_new w1.drew _) (grown_none hg5)) (grown_none hg6), Nat.le_refl _, hb6⟩)
  rintro ⟨⟨a7, c7⟩, ⟨a10, c10⟩, gz⟩ w4 ⟨hS_, hR0, hR1, hBk, hge, hB4⟩
  have HR0 : Aside0 (Kd.string.R 9 w4 w1.heap.size (fun _ => True) (.slice a7 n0 c7) x.names) := ⟨hR0⟩
  have HR1 : Aside0 (pendK.R 74 w4 w1.heap.size (fun _ => True) (.slice a10 n1 c10) x.works) := ⟨hR1⟩
  have HBK : Aside0 (IsB w4 gz #[.slice none 0 0, .slice none 0 0, .slice none 0 0] 46) := ⟨hBk⟩
  have HGE : Aside0 (w1.heap.size ≤ gz) := ⟨hge⟩
  have HB4 := Aside0.mk hB4
  have y0 : w4.cell? ⟨gz, 0, none⟩ = some (.slice none 0 0) := (blk_cell hBk 0).trans rfl
  have y1 : w4.cell? ⟨gz, 1, none⟩ = some (.slice none 0 0) := (blk_cell hBk 1).trans rfl
  have y2 : w4.cell? ⟨gz, 2, none⟩ = some (.slice none 0 0) := (blk_cell hBk 2).trans rfl
  have rf : ∀ j, w4.frozen? ⟨gz, j, none⟩ = false := fun j => blk_frozen hBk j
  clear hR0 hR1 hBk hge hB4
  have hHeld : w4.cell? ⟨gx, 0, none⟩ = some (.slice A0 n0 c0) ∧ w4.cell? ⟨gx, 1, none⟩ = some (.slice A1 n1 c1) := hS_
  refine norm_ (a' := ?_) ?_ ?_
  rotate_left
  · simp only [putAll, Act.put, List.setIfInBounds_toArray, List.set_cons_zero, List.set_cons_succ]
    rfl
  refine last_ (i := 8) (N := none) #[true, true, true, true, true, true, true, true, true] rfl rfl (one_of HT_.out (by kernel_rfl)) (by decide) (fun K hK => ?_)
  refine skip_ (w1 := ?_) (by rfl) rfl ?_ ?_
  rotate_left
  · go_simp
    rfl
  refine hK.out _ _ ?_
  clear hK K
  refine done_ (done_of HT_.out (by kernel_rfl)) ?_
  have hz0 := blk_set HBK.out 0 (.slice a7 n0 c7)
  have hz1 := blk_set hz0 1 (.slice a10 n1 c10)
  have hz2 := blk_set hz1 2 (.slice none 0 0)
  have hsn : SeenR w4 w1.heap.size (fun _ => True) (.slice a7 n0 c7) (.slice a10 n1 c10) (.slice none 0 0) ⟨x.names, x.works, x.bytes.take 0⟩ := ⟨HR0.out, HR1.out, Kd.R_nil _ _ _ _ _⟩
  have hs3 := ((hsn.set HBK.out (by decide) 0 (.slice a7 n0 c7)).set hz0 (by decide) 1 (.slice a10 n1 c10)).set hz1 (by decide) 2 (.slice none 0 0)
  have hb5 : Below w1.heap.size w1 (((w4.setCell ⟨gz, 0, none⟩ (.slice a7 n0 c7)).setCell ⟨gz, 1, none⟩ (.slice a10 n1 c10)).setCell ⟨gz, 2, none⟩ (.slice none 0 0)) := Below.setCell (Below.setCell (Below.setCell HB4.out (p := ⟨gz, 0, none⟩) HGE.out _) (p := ⟨gz, 1, none⟩) HGE.out _) (p := ⟨gz, 2, none⟩) HGE.out _
  have HK5 : Aside0 (CoI w1 (((w4.setCell ⟨gz, 0, none⟩ (.slice a7 n0 c7)).setCell ⟨gz, 1, none⟩ (.slice a10 n1 c10)).setCell ⟨gz, 2, none⟩ (.slice none 0 0)) gx gy gz (.slice A0 n0 c0) (.slice A1 n1 c1) (.slice A2 n2 c2) (.slice a7 n0 c7) (.slice a10 n1 c10) (.slice none 0 0) x 0) := ⟨⟨blk_below HI1.out hb5, blk_below HI2.out hb5, hz2, hs3, hb5⟩⟩
  have HGZ : Aside0 (gx < w1.heap.size ∧ gy < w1.heap.size) := ⟨blk_lt HI1.out, blk_lt HI2.out⟩
  generalize (((w4.setCell ⟨gz, 0, none⟩ (.slice a7 n0 c7)).setCell ⟨gz, 1, none⟩ (.slice a10 n1 c10)).setCell ⟨gz, 2, none⟩ (.slice none 0 0)) = w5 at *
  clear hz0 hz1 hz2 hsn hs3 hb5 HR0 HR1 HBK HB4 y0 y1 y2 rf hHeld m0 m1 HBD
  go_wp2_with fail
  go_loopg [4] n2 (fun kq v4 w' => ∃ (i : Nat) (vb : Value), v4 = .int .i64 i ∧ Aside0 (i + kq = n2) ∧ Aside0 (CoI w1 w' gx gy gz (.slice A0 n0 c0) (.slice A1 n1 c1) (.slice A2 n2 c2) (.slice a7 n0 c7) (.slice a10 n1 c10) vb x i))
  case atStart => exact ⟨0, _, rfl, ⟨by omega⟩, HK5⟩
  case round =>
    clear HK5
    obtain ⟨i, vb, rfl, HI, HK⟩ := hrel
    obtain ⟨A4, c4, hvb⟩ := Kd.R_slice HK.out.sn.b
    have k2 : wr.cell? ⟨gx, 2, none⟩ = some (.slice A2 n2 c2) := (blk_cell HK.out.bx 2).trans rfl
    by_cases hlt : i < n2
    · have d6 : decide ((i : Int) < (n2 : Int)) = true := decide_eq_true (by omega)
      have d7 : decide (i < n2) = true := decide_eq_true hlt
      have j0 : (0 : Int) ≤ (i : Int) := by omega
      have j1 : (i : Int) < (n2 : Int) := by omega
      have HLT := Aside0.mk hlt
      have HLI : Aside0 ((x.bytes.take i).length = i) := ⟨by rw [List.length_take]; have := HN2.out; omega⟩
      rw [show (Sn.bytes ⟨x.names, x.works, x.bytes.take i⟩).length = i from HLI.out] at hvb
      subst hvb
      have hBD : Below wr.heap.size wr wr.drew := Below.drew (Below.refl _ _)
      have HKD := Aside0.mk (co_below HK.out hBD)
      have hC2 : bbK.C w1 A2 n2 x.bytes := H1.out.bC
      obtain ⟨a2, l2, P2, p2, hA2, z4, hE2, hCi⟩ := at_B hC2 i hlt
      subst hA2
      have HAT := Aside0.mk (List.getElem?_eq_getElem l2)
      generalize x.bytes[i] = bi at z4 hE2 hCi HAT
      have HNX := Aside0.mk (take_next HAT.out)
      have HLJ : Aside0 ((x.bytes.take (i + 1)).length = i + 1) := ⟨by rw [List.length_take]; have := HN2.out; omega⟩
      have HBI := Aside0.mk (HLB.out bi (List.mem_of_getElem? HAT.out))
      obtain ⟨bn, hbn⟩ : ∃ bn, bn = bi.length := ⟨_, rfl⟩
      rw [← hbn] at z4 hE2 hCi HBI
      have HCI := Aside0.mk (Kd.C_below hCi HKD.out.bl)
      have HZ := Aside0.mk z4
      have z3 : wr.drew.cell? (a2.add i) = some (.slice P2 bn p2) := (HKD.out.bl.cell (World.block_lt_of_cell? _ _ HZ.out)).trans HZ.out
      have HBN := Aside0.mk hbn
      have z0 : wr.drew.cell? ⟨gz, 2, none⟩ = some (.slice A4 i c4) := (blk_cell HKD.out.bz 2).trans rfl
      have z1 : wr.drew.cell? ⟨gx, 2, none⟩ = some (.slice (some a2) n2 c2) := (blk_cell HKD.out.bx 2).trans rfl
      have hown : ∀ k, (Value.slice A4 i c4).ownBlock = some k → k < wr.drew.heap.size := Kd.R_lt HKD.out.sn.b
      have HOWN := Aside0.mk hown
      clear z4 hbn hE2 hCi
      clear l2 hC2 hlt hown
      go_upto_region 5 with fail
      clear k2 HK
      refine start_ (n := 12) (S := fun w' => w'.cell? ⟨gz, 2, none⟩ = some (.slice A4 i c4) ∧ w'.cell? ⟨gx, 2, none⟩ = some (.slice (some a2) n2 c2) ∧ w'.cell? (a2.add i) = some (.slice P2 bn p2)) (ds := [11]) #[false, false, false, false, false, false, false, false, false, false, false, false] (by kernel_rfl) rfl rfl ⟨z0, z1, z3⟩ (fun hHeld => ?_)
      refine with_tabW F26Rtab5 F26Rbits5 (fun HT_ HW_ => ?_)
      refine pure_ (i := 0) (N := some 19) (v := ?_) (a' := ?_) #[true, false, false, false, false, false, false, false, false, false, false, false] rfl rfl (any_of HT_.out (by kernel_rfl)) (fun _ _ _ h => h) (Or.inl ⟨by rfl, ?_⟩) ?_ ?_
      rotate_left
      · intro w'
        go_simp
        with_reducible rfl
      rotate_left
      · simp only [Act.put, List.setIfInBounds_toArray, List.set_cons_zero, List.set_cons_succ, i64_w, i32_w]
        rfl
      refine pure_ (i := 2) (N := some 21) (v := ?_) (a' := ?_) #[true, false, true, false, false, false, false, false, false, false, false, false] rfl rfl (any_of HT_.out (by kernel_rfl)) (fun _ _ _ h => h) (Or.inl ⟨by rfl, ?_⟩) ?_ ?_
      rotate_left
      · intro w'
        go_simp
        with_reducible rfl
      rotate_left
      · simp only [Act.put, List.setIfInBounds_toArray, List.set_cons_zero, List.set_cons_succ, i64_w, i32_w]
        rfl
      refine pure_ (i := 4) (N := some 23) (v := ?_) (a' := ?_) #[true, false, true, false, true, false, false, false, false, false, false, false] rfl rfl (any_of HT_.out (by kernel_rfl)) (fun _ _ _ h => h) (Or.inl ⟨by rfl, ?_⟩) ?_ ?_
      rotate_left
      · intro w'
        go_simp
        with_reducible rfl
      rotate_left
      · simp only [Act.put, List.setIfInBounds_toArray, List.set_cons_zero, List.set_cons_succ, i64_w, i32_w]
        rfl
      refine take_ (i := 1) (N := some 20) (v := ?_) (a' := ?_) #[true, true, true, false, true, false, false, false, false, false, false, false] rfl rfl (take_ofW HT_.out HW_.out (by kernel_rfl)) (fun _ _ _ h => h) (Or.inl ⟨by rfl, ?_⟩) hHeld ?_ ?_
      rotate_left
      · rintro w' ⟨s0, s1, s2⟩
        go_simp
        with_reducible rfl
      rotate_left
      · simp only [Act.put, List.setIfInBounds_toArray, List.set_cons_zero, List.set_cons_succ, i64_w, i32_w]
        rfl
      refine take_ (i := 3) (N := some 22) (v := ?_) (a' := ?_) #[true, true, true, true, true, false, false, false, false, false, false, false] rfl rfl (take_ofW HT_.out HW_.out (by kernel_rfl)) (fun _ _ _ h => h) (Or.inl ⟨by rfl, ?_⟩) hHeld ?_ ?_
      rotate_left
      · rintro w' ⟨s0, s1, s2⟩
        go_simp
        with_reducible rfl
      rotate_left
      · simp only [Act.put, List.setIfInBounds_toArray, List.set_cons_zero, List.set_cons_succ, i64_w, i32_w]
        rfl
      refine pure_ (i := 5) (N := some 24) (v := ?_) (a' := ?_) #[true, true, true, true, true, true, false, false, false, false, false, false] rfl rfl (any_of HT_.out (by kernel_rfl)) (fun _ _ _ h => h) (Or.inl ⟨by rfl, ?_⟩) ?_ ?_
      rotate_left
      · intro w'
        go_simp
        with_reducible rfl
      rotate_left
      · simp only [Act.put, List.setIfInBounds_toArray, List.set_cons_zero, List.set_cons_succ, i64_w, i32_w]
        rfl
      refine take_ (i := 6) (N := some 25) (v := ?_) (a' := ?_) #[true, true, true, true, true, true, true, false, false, false, false, false] rfl rfl (take_ofW HT_.out HW_.out (by kernel_rfl)) (fun _ _ _ h => h) (Or.inl ⟨by rfl, ?_⟩) hHeld ?_ ?_
      rotate_left
      · rintro w' ⟨s0, s1, s2⟩
        go_simp
        with_reducible rfl
      rotate_left
      · simp only [Act.put, List.setIfInBounds_toArray, List.set_cons_zero, List.set_cons_succ, i64_w, i32_w]
        rfl
      refine one_ (i := 7) (N := some 26) #[true, true, true, true, true, true, true, true, false, false, false, false] rfl rfl (one_of HT_.out (by kernel_rfl)) (by decide) (fun K hK => ?_)
      refine Kd.R_append_rows_step bK (Rr := bK.K wr.drew) (w0 := wr.drew) wr.drew.heap.size (by rfl) (.const (.slice none 0 0)) (.tmp 25) 30 5 (.int .u8 0) 1 rfl Try.underlying30 info5 rfl (by decide) (by decide) (.slice none 0 0) [] bi P2 bn p2 (fun _ => True) (fun _ => False) rfl rfl ?aO ?aR ?aK (fun _ hk => hk.elim) (fun _ _ => trivial) ?aB ?aS ?aL ?_
      (case aO => exact Kd.R_nil _ _ _ _ _)
      (case aR => exact HCI.out)
      (case aK => exact fun x cs h => h)
      (case aB => exact Below.refl _ _)
      (case aS => exact Nat.le_refl _)
      (case aL => have := HBI.out; simp only [List.length_nil]; omega)
      intro v8 w8 ho8 hb8 hg8 hat8
      rw [List.nil_append] at ho8
      have HR8 : Aside0 (bK.R 5 w8 w1.heap.size (fun k => some k ≠ (Value.slice A4 i c4).ownBlock) v8 bi) := ⟨Kd.R_lower (Kd.R_mono (Kd.R_bound ho8) (fun k hk e => by have h1 := HOWN.out k e.symm; have h2 := hk.2.1; omega)) (Nat.le_trans HKD.out.bl.size (Nat.le_refl _))⟩
      obtain ⟨A8, c8, hv8⟩ := Kd.R_slice ho8
      rw [← HBN.out] at hv8
      subst hv8
      have HK8 := Aside0.mk (co_below HKD.out hb8)
      have q0 : w8.cell? ⟨gz, 2, none⟩ = some (.slice A4 i c4) := (blk_cell HK8.out.bz 2).trans rfl
      have q1 : w8.cell? ⟨gx, 2, none⟩ = some (.slice (some a2) n2 c2) := (blk_cell HK8.out.bx 2).trans rfl
      have q3 : w8.cell? (a2.add i) = some (.slice P2 bn p2) := (hb8.cell (World.block_lt_of_cell? _ _ z3)).trans z3
      refine hK.out _ _ ⟨q0, q1, q3⟩ (fun hHeld => ?_)
      clear hK K
      refine norm_ (a' := ?_) ?_ ?_
      rotate_left
      · show Act.put _ (some 26) _ = _
        simp only [Act.put, List.setIfInBounds_toArray, List.set_cons_zero, List.set_cons_succ, i64_w, i32_w]
        rfl
      refine one_ (i := 8) (N := some 27) #[true, true, true, true, true, true, true, true, true, false, false, false] rfl rfl (one_of HT_.out (by kernel_rfl)) (by decide) (fun K hK => ?_)
      refine value_ (w1 := ?_) (v := ?_) (by rfl) rfl ?_ ?_
      rotate_left 2
      · go_simp
        constructor
        · rfl
        · rfl
      have hb9 : Below w8.heap.size w8 (w8.alloc (Obj.cells #[Value.slice A8 bn c8] 30)) := below_alloc (Below.refl _ _) _
      have HK9 := Aside0.mk (co_below HK8.out hb9)
      have q0 : (w8.alloc (Obj.cells #[Value.slice A8 bn c8] 30)).cell? ⟨gz, 2, none⟩ = some (.slice A4 i c4) := (blk_cell HK9.out.bz 2).trans rfl
      have q1 : (w8.alloc (Obj.cells #[Value.slice A8 bn c8] 30)).cell? ⟨gx, 2, none⟩ = some (.slice (some a2) n2 c2) := (blk_cell HK9.out.bx 2).trans rfl
      have q4 : (w8.alloc (Obj.cells #[Value.slice A8 bn c8] 30)).cell? (a2.add i) = some (.slice P2 bn p2) := (hb9.cell (World.block_lt_of_cell? _ _ q3)).trans q3
      refine hK.out _ _ ⟨q0, q1, q4⟩ (fun hHeld => ?_)
      clear hK K
      refine norm_ (a' := ?_) ?_ ?_
      rotate_left
      · show Act.put _ (some 27) _ = _
        simp only [Act.put, List.setIfInBounds_toArray, List.set_cons_zero, List.set_cons_succ, i64_w, i32_w]
        rfl
      refine one_ (i := 9) (N := some 28) #[true, true, true, true, true, true, true, true, true, true, false, false] rfl rfl (one_of HT_.out (by kernel_rfl)) (by decide) (fun K hK => ?_)
      refine Kd.R_append_step bbK (w0 := w1) w1.heap.size (by rfl) (.tmp 20) (.tmp 27) 44 30 (.slice none 0 0) 24 rfl Try.underlying44 info30 rfl (by decide) (by decide) (.slice A4 i c4) (x.bytes.take i) bi [.slice A8 bn c8] (fun _ => True) (fun k => some k ≠ (Value.slice A4 i c4).ownBlock) rfl rfl ?aP (fun _ hk => ⟨trivial, hk⟩) (fun _ _ => trivial) ?aO ?aB ?aS ?aL ?_
      (case aP => exact ⟨_, rfl, HR8.out⟩)
      (case aO => exact HK8.out.sn.b)
      (case aB => exact HK8.out.bl)
      (case aS => exact HK8.out.bl.size)
      (case aL => rw [HLI.out]; have := HL.out; have := HLT.out; omega)
      intro v9 w9 ho hb hg hat
      rw [← HNX.out] at ho
      have hKa := co_grown HK8.out hg ho hb
      obtain ⟨A9, c9, hv9⟩ := Kd.R_slice ho
      rw [HLJ.out] at hv9
      subst hv9
      have HKa := Aside0.mk hKa
      have q0 : w9.cell? ⟨gz, 2, none⟩ = some (.slice A4 i c4) := (blk_cell HKa.out.2.2.1 2).trans rfl
      have q1 : w9.cell? ⟨gx, 2, none⟩ = some (.slice (some a2) n2 c2) := (blk_cell HKa.out.1 2).trans rfl
      have q5 : w9.cell? (a2.add i) = some (.slice P2 bn p2) := (HKa.out.2.2.2.2.cell (World.block_lt_of_cell? _ _ HZ.out)).trans HZ.out
      have rf := blk_frozen HKa.out.2.2.1 2
      refine hK.out _ _ ⟨q0, q1, q5⟩ (fun hHeld => ?_)
      clear hK K
      refine norm_ (a' := ?_) ?_ ?_
      rotate_left
      · show Act.put _ (some 28) _ = _
        simp only [Act.put, List.setIfInBounds_toArray, List.set_cons_zero, List.set_cons_succ, i64_w, i32_w]
        rfl
      refine pure_ (i := 10) (N := some 29) (v := ?_) (a' := ?_) #[true, true, true, true, true, true, true, true, true, true, true, false] rfl rfl (any_of HT_.out (by kernel_rfl)) (fun _ _ _ h => h) (Or.inl ⟨by rfl, ?_⟩) ?_ ?_
      rotate_left
      · intro w'
        go_simp
        with_reducible rfl
      rotate_left
      · simp only [Act.put, List.setIfInBounds_toArray, List.set_cons_zero, List.set_cons_succ, i64_w, i32_w]
        rfl
      refine last_ (i := 11) (N := none) #[true, true, true, true, true, true, true, true, true, true, true, true] rfl rfl (one_of HT_.out (by kernel_rfl)) (by decide) (fun K hK => ?_)
      refine skip_ (w1 := ?_) (by rfl) rfl ?_ ?_
      rotate_left
      · go_simp
        rfl
      refine hK.out _ _ ?_
      clear hK K
      refine done_ (done_of HT_.out (by kernel_rfl)) ?_
      have HKb : Aside0 (CoI w1 (w9.setCell ⟨gz, 2, none⟩ (.slice A9 (i + 1) c9)) gx gy gz (.slice A0 n0 c0) (.slice A1 n1 c1) (.slice (some a2) n2 c2) (.slice a7 n0 c7) (.slice a10 n1 c10) (.slice A9 (i + 1) c9) x (i + 1)) := ⟨⟨blk_far HKa.out.1 (p := ⟨gz, 2, none⟩) (by have h1 := HGZ.out; have h2 := HGE.out; simp only; omega) _, blk_far HKa.out.2.1 (p := ⟨gz, 2, none⟩) (by have h1 := HGZ.out; have h2 := HGE.out; simp only; omega) _, blk_set HKa.out.2.2.1 2 _, HKa.out.2.2.2.1.set HKa.out.2.2.1 (by decide) 2 _, Below.setCell HKa.out.2.2.2.2 (p := ⟨gz, 2, none⟩) HGE.out _⟩⟩
      clear q0 q1 q5 rf hHeld HKa HK8 HK9 HKD
      go_wp2_with fail
      go_roundg (gk - 1)
      case measure => have := HI.out; have := HLT.out; omega
      case rel => exact ⟨i + 1, _, next_i6 (by have := HLT.out; have := HL.out; omega), ⟨by have := HI.out; have := HLT.out; omega⟩, HKb⟩
    · have d6 : decide ((i : Int) < (n2 : Int)) = false := decide_eq_false (by omega)
      have d7 : decide (i < n2) = false := decide_eq_false hlt
      obtain rfl : i = n2 := by have := HI.out; omega
      have HLI : Aside0 ((x.bytes.take i).length = i) := ⟨by rw [List.length_take]; have := HN2.out; omega⟩
      rw [show (Sn.bytes ⟨x.names, x.works, x.bytes.take i⟩).length = i from HLI.out] at hvb
      subst hvb
      have e0 : wr.cell? ⟨gz, 0, none⟩ = some (.slice a7 n0 c7) := (blk_cell HK.out.bz 0).trans rfl
      have e1 : wr.cell? ⟨gz, 1, none⟩ = some (.slice a10 n1 c10) := (blk_cell HK.out.bz 1).trans rfl
      have e2 : wr.cell? ⟨gz, 2, none⟩ = some (.slice A4 i c4) := (blk_cell HK.out.bz 2).trans rfl
      have q0 : wr.cell? ⟨gy, 0, none⟩ = some (.slice none 0 0) := (blk_cell HK.out.by' 0).trans rfl
      have q1 : wr.cell? ⟨gy, 1, none⟩ = some (.slice none 0 0) := (blk_cell HK.out.by' 1).trans rfl
      have q2 : wr.cell? ⟨gy, 2, none⟩ = some (.slice none 0 0) := (blk_cell HK.out.by' 2).trans rfl
      have rf : ∀ j, wr.frozen? ⟨gy, j, none⟩ = false := fun j => blk_frozen HK.out.by' j
      clear hlt
      go_wp2_with fail
      have hI0 := blk_set HK.out.by' 0 (.slice a7 n0 c7)
      have hI1 := blk_set hI0 1 (.slice a10 n1 c10)
      have hI2 := blk_set hI1 2 (.slice A4 i c4)
      have HI2' : Aside0 (IsB (((wr.setCell ⟨gy, 0, none⟩ (.slice a7 n0 c7)).setCell ⟨gy, 1, none⟩ (.slice a10 n1 c10)).setCell ⟨gy, 2, none⟩ (.slice A4 i c4)) gy #[.slice a7 n0 c7, .slice a10 n1 c10, .slice A4 i c4] 46) := ⟨hI2⟩
      have hs := ((HK.out.sn.set HK.out.by' (by decide) 0 (.slice a7 n0 c7)).set hI0 (by decide) 1 (.slice a10 n1 c10)).set hI1 (by decide) 2 (.slice A4 i c4)
      have HS2 := Aside0.mk (hs.lower HB.out.size)
      have HB2 : Aside0 (Below w.heap.size w (((wr.setCell ⟨gy, 0, none⟩ (.slice a7 n0 c7)).setCell ⟨gy, 1, none⟩ (.slice a10 n1 c10)).setCell ⟨gy, 2, none⟩ (.slice A4 i c4))) := ⟨Below.setCell (Below.setCell (Below.setCell (HB.out.trans (HK.out.bl.mono HB.out.size)) (p := ⟨gy, 0, none⟩) HGY.out _) (p := ⟨gy, 1, none⟩) HGY.out _) (p := ⟨gy, 2, none⟩) HGY.out _⟩
      clear hI0 hI1 hI2 hs HK k2 e0 e1 e2 q0 q1 q2 rf
      generalize (((wr.setCell ⟨gy, 0, none⟩ (.slice a7 n0 c7)).setCell ⟨gy, 1, none⟩ (.slice a10 n1 c10)).setCell ⟨gy, 2, none⟩ (.slice A4 i c4)) = wf at *
      rw [List.take_of_length_le (by have := HN2.out; omega)] at HS2
      refine bodyPost_ret (results_cell_row rfl _ _ gy 46 #[.slice a7 n0 c7, .slice a10 n1 c10, .slice A4 i c4] (0, 0) _ rfl HI2'.out Try.underlying46 rfl (by kernel_rfl)) rfl ?_
      exact ⟨_, _, _, rfl, HS2.out, HB2.out⟩
end
end Go.Proofs.Ytnegcjgolaakcaa

/- Rows that are written over: what stays of a memory all the same. -/
namespace Go.Proofs.Ytnegcjgolaakcaa
open Go.RowKit Go.Maps
open Go.Proofs.YtnegcjgolaakcaaW.PrintWords Go.Proofs.YtnegcjgolaakcaaW.PrintLast Go.Proofs.YtnegcjgolaakcaaW.PrintMore
set_option linter.unusedVariables false
set_option linter.unusedSimpArgs false
/-- the types of what is written over -/
def Sty (t : TypeId) : Prop := t = 9 ∨ t = 74 ∨ t = 5
/-- blocks keep their type and size; only such of these types, and of ok, have turned -/
structure Sp (ok : Nat → Prop) (w w' : World) : Prop where
  fr : Fr ok w w'
  sh : ∀ (k : Nat) (cs : Array Value) (t : TypeId) (z : Nat × Nat), w.heap[k]? = some (Obj.cells cs t z) → ∃ cs' : Array Value, w'.heap[k]? = some (Obj.cells cs' t z) ∧ cs'.size = cs.size ∧ (¬ Sty t → cs' = cs)
namespace Sp
variable {ok : Nat → Prop} {w w' w2 : World}
theorem refl (ok : Nat → Prop) (w : World) : Sp ok w w := ⟨Fr.refl ok w, fun k cs t z h => ⟨cs, h, rfl, fun _ => rfl⟩⟩
theorem below (h : Sp ok w w') (hb : Below w'.heap.size w' w2) : Sp ok w w2 where
  fr := h.fr.trans (Fr.ofBelow (S := fun _ => False) hb) (fun _ hk _ => hk.elim)
  sh := fun k cs t z hk => by
    obtain ⟨cs', h1, h2, h3⟩ := h.sh k cs t z hk
    exact ⟨cs', blk_below h1 hb, h2, h3⟩
theorem grow (h : Sp ok w w') {g : Nat} {t : TypeId} {cs cs2 : Array Value} (hg : w'.grownBy w2 (some g)) (hb : w'.heap[g]? = some (.cells cs t (0, 0))) (hb2 : w2.heap[g]? = some (.cells cs2 t (0, 0))) (hs : cs2.size = cs.size) (ht : Sty t) (ho : g < w.heap.size → ok g) : Sp ok w w2 where
  fr := h.fr.grown hg (fun k e hk => by
    injection e with e
    subst e
    exact ho hk)
  sh := fun k cs1 t1 z h1 => by
    obtain ⟨c, k1, k2, k3⟩ := h.sh k cs1 t1 z h1
    by_cases hk : k = g
    · subst hk
      rw [hb] at k1
      injection k1 with k1
      injection k1 with e1 e2 e3
      subst e1
      subst e2
      subst e3
      exact ⟨cs2, hb2, hs.trans k2, fun hn => absurd ht hn⟩
    · exact ⟨c, (hg.block k (blk_lt k1) (fun e => hk (by injection e))).trans k1, k2, k3⟩
theorem set (h : Sp ok w w') {g : Nat} {t : TypeId} {cs : Array Value} (hb : w'.heap[g]? = some (.cells cs t (0, 0))) (ht : Sty t) (ho : g < w.heap.size → ok g) (j : Nat) (u : Value) : Sp ok w (w'.setCell ⟨g, j, none⟩ u) :=
  h.grow ⟨rfl, rfl, rfl, by simp [World.setCell], fun k _ hk => Below.heap_setCell w' ⟨g, j, none⟩ u k (fun e => hk (by rw [e]))⟩ hb (blk_set hb j u) (by simp) ht ho
theorem same (h : Sp ok w w') {g : Nat} {t : TypeId} {cs : Array Value} {z : Nat × Nat} (hb : w.heap[g]? = some (.cells cs t z)) (ht : ¬ Sty t) : w'.heap[g]? = some (.cells cs t z) := by
  obtain ⟨c, k1, _, k3⟩ := h.sh _ _ _ _ hb
  rw [k3 ht] at k1
  exact k1
end Sp
/-- a row, whatever lies in it -/
def Rw (ok : Nat → Prop) (w : World) (v : Value) (n e sz : Nat) : Prop := (∀ k, v.ownBlock = some k → ok k) ∧ ∃ xs, w.ownsRow 0 e sz v n xs
section
variable {ok : Nat → Prop} {w w' : World} {v : Value} {n e sz base : Nat}
theorem Rw.of {α : Type} {d : Kd α} {xs : List α} (h : d.R e w base ok v xs) : Rw ok w v xs.length e d.sz := ⟨h.1, by
  obtain ⟨i, ho⟩ := Kd.R_own h
  exact ⟨i, own_weaken ho (Nat.zero_le _)⟩⟩
theorem Rw.move (h : Rw ok w v n e sz) (hs : Sp ok w w') : Rw ok w' v n e sz := by
  obtain ⟨h0, xs, hl, h1⟩ := h
  rcases h1 with ⟨rfl, rfl⟩ | ⟨g, cap, cur, rfl, hg, hh, h2, h3, h4, h5⟩
  · exact ⟨h0, xs, hl, .inl ⟨rfl, rfl⟩⟩
  · obtain ⟨c, k1, k2, _⟩ := hs.sh _ _ _ _ hh
    refine ⟨h0, c.toList.take (n * sz), ?_, .inr ⟨g, cap, c, rfl, hg, k1, h2, h3, k2.trans h4, rfl⟩⟩
    rw [List.length_take, Array.length_toList, k2, h4]
    exact Nat.min_eq_left (Nat.mul_le_mul_right _ h2)
theorem Rw.form (h : Rw ok w v n e sz) (hn : 0 < n) : ∃ g cap cur, v = .slice (some ⟨g, 0, none⟩) n cap ∧ ok g ∧ IsB w g cur e ∧ n * sz ≤ cur.size := by
  obtain ⟨h0, xs, hl, h1⟩ := h
  rcases h1 with ⟨rfl, rfl⟩ | ⟨g, cap, cur, rfl, hg, hh, h2, h3, h4, h5⟩
  · omega
  · exact ⟨g, cap, cur, rfl, h0 g rfl, hh, by rw [h4]; exact Nat.mul_le_mul_right _ h2⟩
theorem Rw.slice (h : Rw ok w v n e sz) : ∃ A c, v = .slice A n c := by
  obtain ⟨h0, xs, hl, h1⟩ := h
  rcases h1 with ⟨rfl, rfl⟩ | ⟨g, cap, cur, rfl, hg, hh, h2, h3, h4, h5⟩
  · exact ⟨_, _, rfl⟩
  · exact ⟨_, _, rfl⟩
end
section
variable {P : Program}
theorem run_zeros (w : World) (t ti ty e : TypeId) (i : TypeInfo) (z : Value) (size bytes : Nat) (ht : P.underlying t = some (.slice e)) {k : IntKind} (hti : P.underlying ti = some (.int k)) (hi : P.info? e = some i) (hz : i.zero = some z)
    (hsize : i.size = size) (hby : i.bytes = bytes) (hzs : z.cells.size = size) (hsz : 0 < size) (hb0 : 0 < bytes)
    (v : Value) (n : Nat) (xs : List Value) (hown : w.ownsRow 0 e size v n xs) (kx : IntKind) (m : Nat) (hm : 0 < m) (h1 : ∀ u ∈ (Builtin.zeroCells z.cells m).toList, u.oneCell' = true)
    (hbytes : (n + m) * bytes ≤ 140737488355328) :
    ∃ g' cap' cur' w', (Builtin.append_ #[t, ti] ty #[v, .int kx m]).run P w = .ok (.slice (some ⟨g', 0, none⟩) (n + m) cap') w' ∧ w'.heap[g']? = some (.cells cur' e (0, 0)) ∧ (n + m) * size ≤ cur'.size ∧
      ((Below w.heap.size w w' ∧ g' = w.heap.size) ∨ (v.ownBlock = some g' ∧ w.grownBy w' (some g') ∧ ∃ cur : Array Value, w.heap[g']? = some (.cells cur e (0, 0)) ∧ cur'.size = cur.size)) := by
  subst hsize
  subst hby
  have hle : n + m ≤ 140737488355328 := Nat.le_trans (Nat.le_mul_of_pos_right _ hb0) hbytes
  have hw : IntKind.i64.wrap (m : Int) = m := by rw [IntKind.wrap_i64]; omega
  have hneg : ¬ ((m : Int) < 0) := by omega
  have hmb : m * i.bytes ≤ 140737488355328 := Nat.le_trans (Nat.mul_le_mul_right _ (Nat.le_add_left m n)) hbytes
  have hbig : ¬ (281474976710656 < (m : Int) * (i.bytes : Int)) := by
    rw [← Int.natCast_mul]
    omega
  have hsn : i.size ≠ 0 := by omega
  have hm0 : m ≠ 0 := by omega
  obtain ⟨news, hnews⟩ : ∃ news, news = (Builtin.zeroCells z.cells m).toList := ⟨_, rfl⟩
  rw [← hnews] at h1
  have hl : news.length = m * i.size := by rw [hnews, Array.length_toList, size_zeroCells, hzs]
  have hna : Builtin.zeroCells z.cells m = news.toArray := by rw [hnews]
  have hmz : ¬ (m * i.size = 0) := Nat.mul_ne_zero hm0 hsn
  have runs : ∀ (A : Option Addr) (cap : Nat), cap < n + m → (Builtin.firstCells i.size n (.slice A n cap)).run P w.drew = .ok xs.toArray w.drew → (Builtin.append_ #[t, ti] ty #[.slice A n cap, .int kx m]).run P w =
      .ok (.slice (some ⟨w.heap.size, 0, none⟩) (n + m) (grownCap w (n + m) cap e)) (w.drew.alloc (.cells (xs.toArray ++ news.toArray ++ Builtin.zeroCells z.cells (grownCap w (n + m) cap e - (n + m))) e)) := by
    intro A cap hcap hfo
    have hn : ¬ (n + m ≤ cap) := by omega
    have h63' : ¬ (9223372036854775807 < ((n : Int) + (m : Int))) := by omega
    have hfit := growslice_fits hcap hbytes
    have h48' : ¬ (281474976710656 < Builtin.nextslicecap (n + m) cap * i.bytes) := by omega
    simp [Builtin.append_, run_underlying ht, run_underlying hti, sizeOf, typeInfo, zeroValue, hi, hz, asInt, asIntOf, hw, hneg, hbig, hn, h63', h48', Question.forced, hfo, newRow, grownCap, hmz, hna]
    congr 2
    apply Array.ext'
    simp [List.append_assoc]
  have fresh : ∀ cap, (w.drew.alloc (.cells (xs.toArray ++ news.toArray ++ Builtin.zeroCells z.cells (grownCap w (n + m) cap e - (n + m))) e)).heap[w.heap.size]? = some (.cells (xs.toArray ++ news.toArray ++ Builtin.zeroCells z.cells (grownCap w (n + m) cap e - (n + m))) e (0, 0)) ∧ (n + m) * i.size ≤ (xs.toArray ++ news.toArray ++ Builtin.zeroCells z.cells (grownCap w (n + m) cap e - (n + m))).size ∧ Below w.heap.size w (w.drew.alloc (.cells (xs.toArray ++ news.toArray ++ Builtin.zeroCells z.cells (grownCap w (n + m) cap e - (n + m))) e)) := by
    intro cap
    refine ⟨heap_alloc_new w.drew _, ?_, below_alloc (Below.drew (Below.refl _ _)) _⟩
    simp only [Array.size_append, List.size_toArray, hown.1, hl, Nat.add_mul]
    omega
  rcases hown.2 with ⟨rfl, rfl⟩ | ⟨g, cap, cur, rfl, hbg, hg, hnc, hcm, hcs, htake⟩
  · have hx : xs = [] := List.eq_nil_of_length_eq_zero (by simpa using hown.1)
    obtain ⟨f1, f2, f3⟩ := fresh 0
    exact ⟨_, _, _, _, runs none 0 (by omega) (by simp [Builtin.firstCells, hx]), f1, f2, .inl ⟨f3, rfl⟩⟩
  · by_cases hroom : n + m ≤ cap
    · have hfit : n * i.size + news.length ≤ cur.size := by rw [hl, hcs, ← Nat.add_mul]; exact Nat.mul_le_mul_right _ hroom
      obtain ⟨cur', h3, h4, h5⟩ := setCells_row news (n * i.size) w cur hg hfit
      obtain ⟨s1, s2, s3, s4⟩ := setCells_same g news (n * i.size) w
      have hst := run_storeCells_cells (P := P) g (n * i.size) news 0 w (fun j hj => by rw [cell_of_row w g _ cur e (0, 0) hg]; simp; omega) (fun j _ => blk_frozen hg _) h1
      simp only [Nat.add_zero] at hst
      refine ⟨g, cap, cur', w.setCells g (n * i.size) news, ?_, h3, by rw [h4, hcs]; exact Nat.mul_le_mul_right _ hroom, .inr ⟨rfl, ⟨s1, s2, s3, by rw [s4]; exact Nat.le_refl _, fun k _ hk => setCells_far news _ k (fun e => hk (by rw [e]))⟩, cur, hg, h4⟩⟩
      simp [Builtin.append_, run_underlying ht, run_underlying hti, sizeOf, typeInfo, zeroValue, hi, hz, asInt, asIntOf, hw, hneg, hbig, hroom, hmz, hna, add_plain, hst]
    · have holds : ∀ j u, xs[j]? = some u → w.cell? ((⟨g, 0, none⟩ : Addr).add j) = some u := hown.cells (g := g) rfl
      obtain ⟨f1, f2, f3⟩ := fresh cap
      exact ⟨_, _, _, _, runs (some ⟨g, 0, none⟩) cap (by omega) (run_firstCells_some (P := P) w.drew i.size n _ n cap xs hown.1 (by simpa using holds)), f1, f2, .inl ⟨f3, rfl⟩⟩
variable {ops : Array Oper} {rest : List Oper} {o : Oper} {a : Act} {Q : Exit → Act → World → Prop} {ok : Nat → Prop}
/-- append(v, make([]T, m)...), whatever lies in v -/
theorem sp_zeros {W0 W : World} (hgd : o.guard = none) (s x : Operand) (t ti e : TypeId) (z : Value) (size bytes : Nat)
    (ho : o.op = .call { callee := .builtin .append, args := #[s, x], argTypes := #[t, ti] })
    (ht : P.underlying t = some (.slice e)) {k : IntKind} (hti : P.underlying ti = some (.int k)) (hinfo : (P.info? e).map (fun i => (i.zero, i.size, i.bytes)) = some (some z, size, bytes)) (hz : z.cells.size = size) (hs0 : 0 < size) (hb0 : 0 < bytes)
    (v : Value) (n : Nat) {kx : IntKind} (m : Nat) (hs : a.eval s = v) (hx : a.eval x = .int kx m) (h1 : ∀ u ∈ z.cells.toList, u.oneCell' = true) (hm : 0 < m)
    (HS : Sp ok W0 W) (HR : Rw ok W v n e size) (hst : Sty e) (hl : (n + m) * bytes ≤ 140737488355328)
    (h : ∀ g' cap' cur' w1, IsB w1 g' cur' e → (n + m) * size ≤ cur'.size → (g' < W0.heap.size → ok g') → Sp ok W0 w1 → wpList P ops Q rest (a.put o.dst (.slice (some ⟨g', 0, none⟩) (n + m) cap')) w1) :
    wpList P ops Q (o :: rest) a W := by
  obtain ⟨i0, hi, hzz⟩ := Option.map_eq_some_iff.1 hinfo
  simp only [Prod.mk.injEq] at hzz
  obtain ⟨hz0, hz1, hz2⟩ := hzz
  obtain ⟨h0, xs, hown⟩ := HR
  have hone : ∀ u ∈ (Builtin.zeroCells z.cells m).toList, u.oneCell' = true := Kd.reps_one (Kd.reps_zeros (R := fun (_ : Unit) cs => cs = z.cells.toList) (z0 := ()) hz hs0 rfl m) hs0 (fun _ _ hp => by rw [hp]; exact h1)
  obtain ⟨g', cap', cur', w', hrun, hb, hsz, hcase⟩ := run_zeros (P := P) W t ti o.type e i0 z size bytes ht hti hi hz0 hz1 hz2 hz hs0 hb0 v n xs hown kx m hm hone hl
  refine wpList_plain hgd fun K hK => ?_
  unfold Oper.wp execOp
  simp only [ho, resolve, invoke, builtin, Sem.run_bind, Sem.run_pure, Result.andThen_ok, List.map_toArray, List.map_cons, List.map_nil, hs, hx, hrun]
  refine hK _ _ (h g' cap' cur' w' hb hsz ?_ ?_)
  · rcases hcase with ⟨_, rfl⟩ | ⟨e1, _⟩
    · intro hlt
      have := HS.fr.size
      omega
    · exact fun _ => h0 g' e1
  · rcases hcase with ⟨hbl, _⟩ | ⟨e1, hg, cur, hc, hcs⟩
    · exact HS.below hbl
    · exact HS.grow hg hc hb hcs hst (fun _ => h0 g' e1)
end
end Go.Proofs.Ytnegcjgolaakcaa

/- spoil: all lists are written over, and as far as their room goes. -/
namespace Go.Proofs.Ytnegcjgolaakcaa
open Go.RowKit Go.Maps
open Go.Proofs.YtnegcjgolaakcaaW.PrintWords Go.Proofs.YtnegcjgolaakcaaW.PrintLast Go.Proofs.YtnegcjgolaakcaaW.PrintMore
set_option linter.unusedVariables false
set_option linter.unusedSimpArgs false
theorem nsty46 : ¬ Sty 46 := by
  unfold Sty
  decide
theorem nsty30 : ¬ Sty 30 := by
  unfold Sty
  decide
section
variable {ok : Nat → Prop} {w w' : World} {v v0 v1 v2 : Value} {base : Nat} {x : Sn}
theorem bb_at {ls : List (List Int)} (h : bbK.R 30 w base ok v ls) (i : Nat) (hi : i < ls.length) (hl : ∀ l ∈ ls, l.length ≤ 1073741824) : ∃ (gb cap : Nat) (cur : Array Value) (A : Option Addr) (l c : Nat), v = .slice (some ⟨gb, 0, none⟩) ls.length cap ∧ IsB w gb cur 30 ∧ cur[i]? = some (.slice A l c) ∧ l ≤ 1073741824 ∧ Rw ok w (.slice A l c) l 5 1 := by
  obtain ⟨gb, cap, cur, hv, _, hb, _⟩ := Rw.form (Rw.of h) (by omega)
  subst hv
  obtain ⟨c, hcl, hM, hcc, _⟩ := Kd.R_elem h ls[i] (i : Int) (by omega) (by omega)
  have hx : ls.getD ((i : Int)).toNat ls[i] = ls[i] := by
    rw [List.getD_eq_getElem?_getD, Int.toNat_natCast, List.getElem?_eq_getElem hi]
    rfl
  rw [hx] at hM
  obtain ⟨u, rfl, hR⟩ := hM
  obtain ⟨A, c1, rfl⟩ := Kd.R_slice hR
  refine ⟨gb, cap, cur, A, ls[i].length, c1, rfl, hb, ?_, hl _ (List.getElem_mem hi), ?_⟩
  · have h1 := hcc 0 _ rfl
    rw [Int.toNat_natCast, show i * bbK.sz + 0 = i from Nat.mul_one i] at h1
    rw [← blk_cell hb i]
    exact h1
  · exact ⟨fun k hk => (hR.1 k hk).1, (Rw.of hR).2⟩
theorem at_cell {g e n i : Nat} {cur : Array Value} (hb : IsB w g cur e) (hs : n ≤ cur.size) (hi : i < n) : ∃ u, w.cell? ⟨g, i, none⟩ = some u := by
  rw [blk_cell hb i]
  exact ⟨_, Array.getElem?_eq_getElem (by omega)⟩
theorem one_str : ∀ u ∈ (Value.string ⟨#[]⟩).cells.toList, u.oneCell' = true := by
  intro u hu
  rw [List.mem_singleton.1 (show u ∈ [Value.string ⟨#[]⟩] from hu)]
  rfl
theorem one_byte : ∀ u ∈ (Value.int .u8 0).cells.toList, u.oneCell' = true := by
  intro u hu
  rw [List.mem_singleton.1 (show u ∈ [Value.int .u8 0] from hu)]
  rfl
theorem one_work : ∀ u ∈ (Value.agg #[.int .i64 0, .string ⟨#[]⟩, .string ⟨#[]⟩, .int .i64 0]).cells.toList, u.oneCell' = true := by
  intro u hu
  have hu' : u ∈ [Value.int .i64 0, .string ⟨#[]⟩, .string ⟨#[]⟩, .int .i64 0] := hu
  simp only [List.mem_cons, List.not_mem_nil, or_false] at hu'
  rcases hu' with rfl | rfl | rfl | rfl <;> rfl
theorem last_at {N M : Nat} (h : N = M + 1) (hl : N ≤ 2147483648) : wrap64 ((N : Int) - 1) = (M : Int) := by
  rw [show ((N : Int) - 1) = (M : Int) by omega]
  unfold wrap64
  omega
set_option maxHeartbeats 4000000 in
set_option maxRecDepth 100000 in
theorem spoil_calls (h : SeenR w base ok v0 v1 v2 x) (hl : x.names.length ≤ 1073741824 ∧ x.works.length ≤ 1073741824 ∧ x.bytes.length ≤ 1073741824) (hlb : ∀ l ∈ x.bytes, l.length ≤ 1073741824) :
    Calls Try.prog 28 #[.agg #[v0, v1, v2]] w fun e w' => e = .returned (.tuple #[]) ∧ Fr ok w w' := by
  have HL := Aside0.mk hl
  have HB0 : Aside0 (∀ i, i < x.bytes.length → ∃ (gb cap : Nat) (cur : Array Value) (A : Option Addr) (l c : Nat), v2 = .slice (some ⟨gb, 0, none⟩) x.bytes.length cap ∧ IsB w gb cur 30 ∧ cur[i]? = some (.slice A l c) ∧ l ≤ 1073741824 ∧ Rw ok w (.slice A l c) l 5 1) := ⟨fun i hi => bb_at h.b i hi hlb⟩
  have HR0 : Aside0 (Rw ok w v0 x.names.length 9 1) := ⟨Rw.of h.n⟩
  have HR1 : Aside0 (Rw ok w v1 x.works.length 74 4) := ⟨Rw.of h.p⟩
  obtain ⟨A2, c2, hv2⟩ := Kd.R_slice h.b
  clear h hlb
  obtain ⟨A0, c0, rfl⟩ := HR0.out.slice
  obtain ⟨A1, c1, rfl⟩ := HR1.out.slice
  subst hv2
  generalize x.names.length = n0 at *
  generalize x.works.length = n1 at *
  generalize x.bytes.length = n2 at *
  clear hl
  go_enter Try.func28, Try.ntmps28
  go_wp2
  generalize hw1 : (w.alloc (Obj.cells #[Value.slice A0 n0 c0, Value.slice A1 n1 c1, Value.slice A2 n2 c2] 46)) = w1
  have HF : Aside0 (Fr ok w w1) := ⟨by rw [← hw1]; exact (Fr.refl ok w).alloc _⟩
  have hS0 : Sp ok w w1 := by rw [← hw1]; exact (Sp.refl ok w).below (below_alloc (Below.refl _ _) _)
  have HX : Aside0 (IsB w1 w.heap.size #[Value.slice A0 n0 c0, Value.slice A1 n1 c1, Value.slice A2 n2 c2] 46) := ⟨by rw [← hw1]; exact blk_new w _⟩
  have HR0' : Aside0 (Rw ok w1 (.slice A0 n0 c0) n0 9 1) := ⟨HR0.out.move hS0⟩
  have HR1' : Aside0 (Rw ok w1 (.slice A1 n1 c1) n1 74 4) := ⟨HR1.out.move hS0⟩
  have HBB : Aside0 (∀ i, i < n2 → ∃ (gb cap : Nat) (cur : Array Value) (A : Option Addr) (l c : Nat), A2 = some ⟨gb, 0, none⟩ ∧ IsB w1 gb cur 30 ∧ cur[i]? = some (.slice A l c) ∧ l ≤ 1073741824 ∧ Rw ok w1 (.slice A l c) l 5 1) := ⟨fun i hi => by
    obtain ⟨gb, cap, cur, A, l, c, h1, h2, h3, h4, h5⟩ := HB0.out i hi
    injection h1 with h1 _ _
    exact ⟨gb, cap, cur, A, l, c, h1, hS0.same h2 nsty30, h3, h4, h5.move hS0⟩⟩
  clear hw1 HR0 HR1 HB0 hS0
  go_loopg [2] n0 (fun kq vi w' => ∃ i : Nat, vi = .int .i64 i ∧ Aside0 (i + kq = n0) ∧ Aside0 (Sp ok w1 w'))
  case atStart => exact ⟨0, rfl, ⟨by omega⟩, ⟨Sp.refl ok w1⟩⟩
  case round =>
    obtain ⟨i, rfl, HI, HS⟩ := hrel
    have a0 : wr.cell? ⟨w.heap.size, 0, none⟩ = some (.slice A0 n0 c0) := (blk_cell (HS.out.same HX.out nsty46) 0).trans rfl
    by_cases hlt : i < n0
    · have d1 : decide ((i : Int) < (n0 : Int)) = true := decide_eq_true (by omega)
      have d2 : decide (i < n0) = true := decide_eq_true hlt
      have j0 : (0 : Int) ≤ (i : Int) := by omega
      have j1 : (i : Int) < (n0 : Int) := by omega
      obtain ⟨g, cap, cur, hv, hokg, hb, hsz⟩ := (HR0'.out.move HS.out).form (by omega)
      injection hv with hv1 hv2 hv3
      subst hv1 hv3
      obtain ⟨u, gc⟩ := at_cell hb (Nat.le_trans (Nat.le_of_eq (Nat.mul_one n0).symm) hsz) hlt
      have gf := blk_frozen hb i
      have HSN : Aside0 (Sp ok w1 (wr.setCell ⟨g, i, none⟩ (.string ⟨#[115, 112, 111, 105, 108, 116]⟩))) := ⟨HS.out.set hb (.inl rfl) (fun _ => hokg) i _⟩
      have HLT := Aside0.mk hlt
      clear hv2 hb hsz hokg hlt
      go_wp2_with fail
      go_roundg (gk - 1)
      case measure => have := HI.out; have := HLT.out; omega
      case rel => exact ⟨i + 1, next_i6 (by have := HL.out; have := HLT.out; omega), ⟨by have := HI.out; have := HLT.out; omega⟩, HSN⟩
    · have d1 : decide ((i : Int) < (n0 : Int)) = false := decide_eq_false (by omega)
      have d2 : decide (i < n0) = false := decide_eq_false hlt
      clear hlt HI
      go_wp2_with fail
      go_loopg [3] n1 (fun kq vi w' => ∃ i : Nat, vi = .int .i64 i ∧ Aside0 (i + kq = n1) ∧ Aside0 (Sp ok w1 w'))
      case atStart => exact ⟨0, rfl, ⟨by omega⟩, HS⟩
      case round =>
        clear a0 HS
        obtain ⟨i, rfl, HI, HS⟩ := hrel
        have a1 : wr.cell? ⟨w.heap.size, 1, none⟩ = some (.slice A1 n1 c1) := (blk_cell (HS.out.same HX.out nsty46) 1).trans rfl
        by_cases hlt : i < n1
        · have d1 : decide ((i : Int) < (n1 : Int)) = true := decide_eq_true (by omega)
          have d2 : decide (i < n1) = true := decide_eq_true hlt
          have j0 : (0 : Int) ≤ (i : Int) := by omega
          have j1 : (i : Int) < (n1 : Int) := by omega
          obtain ⟨g, cap, cur, hv, hokg, hb, hsz⟩ := (HR1'.out.move HS.out).form (by omega)
          injection hv with hv1 hv2 hv3
          subst hv1 hv3
          obtain ⟨u0, k0⟩ := at_cell hb hsz (i := i * 4) (by omega)
          obtain ⟨u1, k1⟩ := at_cell hb hsz (i := i * 4 + 1) (by omega)
          obtain ⟨u2, k2⟩ := at_cell hb hsz (i := i * 4 + 2) (by omega)
          obtain ⟨u3, k3⟩ := at_cell hb hsz (i := i * 4 + 3) (by omega)
          have gf : ∀ j, wr.frozen? ⟨g, j, none⟩ = false := fun j => blk_frozen hb j
          have HLT := Aside0.mk hlt
          have HSN : Aside0 (Sp ok w1 ((((wr.setCell ⟨g, i * 4, none⟩ (.int .i64 (-7))).setCell ⟨g, i * 4 + 1, none⟩ (.string ⟨#[115, 112, 111, 105, 108, 116]⟩)).setCell ⟨g, i * 4 + 2, none⟩ (.string ⟨#[]⟩)).setCell ⟨g, i * 4 + 3, none⟩ (.int .i64 0))) := ⟨(((HS.out.set hb (.inr (.inl rfl)) (fun _ => hokg) _ _).set (blk_set hb _ _) (.inr (.inl rfl)) (fun _ => hokg) _ _).set (blk_set (blk_set hb _ _) _ _) (.inr (.inl rfl)) (fun _ => hokg) _ _).set (blk_set (blk_set (blk_set hb _ _) _ _) _ _) (.inr (.inl rfl)) (fun _ => hokg) _ _⟩
          clear hv2 hb hsz hokg hlt
          go_wp2_with fail
          go_roundg (gk - 1)
          case measure => have := HI.out; have := HLT.out; omega
          case rel => exact ⟨i + 1, next_i6 (by have := HL.out; have := HLT.out; omega), ⟨by have := HI.out; have := HLT.out; omega⟩, HSN⟩
        · have d1 : decide ((i : Int) < (n1 : Int)) = false := decide_eq_false (by omega)
          have d2 : decide (i < n1) = false := decide_eq_false hlt
          clear hlt HI
          go_wp2_with fail
          go_loopg [4] n2 (fun kq vi w' => ∃ i : Nat, vi = .int .i64 i ∧ Aside0 (i + kq = n2) ∧ Aside0 (Sp ok w1 w'))
          case atStart => exact ⟨0, rfl, ⟨by omega⟩, HS⟩
          case round =>
            clear a1 HS
            obtain ⟨i, rfl, HI, HS⟩ := hrel
            have a2 : wr.cell? ⟨w.heap.size, 2, none⟩ = some (.slice A2 n2 c2) := (blk_cell (HS.out.same HX.out nsty46) 2).trans rfl
            by_cases hlt : i < n2
            · have d1 : decide ((i : Int) < (n2 : Int)) = true := decide_eq_true (by omega)
              have d2 : decide (i < n2) = true := decide_eq_true hlt
              have j0 : (0 : Int) ≤ (i : Int) := by omega
              have j1 : (i : Int) < (n2 : Int) := by omega
              obtain ⟨gb, cap, cur, A, l, c, hA2, hb, hcu, hll, hrw⟩ := HBB.out i hlt
              subst hA2
              have HBL := Aside0.mk hb
              have HCU := Aside0.mk hcu
              have HLL := Aside0.mk hll
              have HRW := Aside0.mk hrw
              have HLT := Aside0.mk hlt
              obtain ⟨gk0, hg0⟩ : ∃ gk0, gk0 = gk := ⟨_, rfl⟩
              have HG0 := Aside0.mk hg0
              clear hg0
              clear hb hcu hll hrw hlt
              go_wp2_with fail
              go_loopg [5] l (fun kq vi w' => ∃ q : Nat, vi = .int .i64 q ∧ Aside0 (q + kq = l) ∧ Aside0 (Sp ok w1 w'))
              case atStart => exact ⟨0, rfl, ⟨by omega⟩, HS⟩
              case round =>
                clear a2 HS
                obtain ⟨q, rfl, HQ, HS⟩ := hrel
                have a2 : wr.cell? ⟨w.heap.size, 2, none⟩ = some (.slice (some ⟨gb, 0, none⟩) n2 c2) := (blk_cell (HS.out.same HX.out nsty46) 2).trans rfl
                have a3 : wr.cell? ⟨gb, i, none⟩ = some (.slice A l c) := (blk_cell (HS.out.same HBL.out nsty30) i).trans HCU.out
                by_cases hlt : q < l
                · have d3 : decide ((q : Int) < (l : Int)) = true := decide_eq_true (by omega)
                  have d4 : decide (q < l) = true := decide_eq_true hlt
                  have j2 : (0 : Int) ≤ (q : Int) := by omega
                  have j3 : (q : Int) < (l : Int) := by omega
                  obtain ⟨g, cap, cur, hv, hokg, hb, hsz⟩ := (HRW.out.move HS.out).form (by omega)
                  injection hv with hv1 hv2 hv3
                  subst hv1 hv3
                  obtain ⟨u, gc⟩ := at_cell hb (Nat.le_trans (Nat.le_of_eq (Nat.mul_one l).symm) hsz) hlt
                  have gf := blk_frozen hb q
                  have HSN : Aside0 (Sp ok w1 (wr.setCell ⟨g, q, none⟩ (.int .u8 238))) := ⟨HS.out.set hb (.inr (.inr rfl)) (fun _ => hokg) q _⟩
                  have HQT := Aside0.mk hlt
                  clear hv2 hb hsz hokg hlt
                  go_wp2_with fail
                  go_roundg (gk - 1)
                  case measure => have := HQ.out; have := HQT.out; omega
                  case rel => exact ⟨q + 1, next_i6 (by have := HLL.out; have := HQT.out; omega), ⟨by have := HQ.out; have := HQT.out; omega⟩, HSN⟩
                · have d3 : decide ((q : Int) < (l : Int)) = false := decide_eq_false (by omega)
                  have d4 : decide (q < l) = false := decide_eq_false hlt
                  clear hlt HQ
                  go_wp2_with fail
                  go_roundg (gk0 - 1)
                  case measure => have := HI.out; have := HLT.out; have := HG0.out; omega
                  case rel => exact ⟨i + 1, next_i6 (by have := HL.out; have := HLT.out; omega), ⟨by have := HI.out; have := HLT.out; have := HG0.out; omega⟩, HS⟩
            · have d1 : decide ((i : Int) < (n2 : Int)) = false := decide_eq_false (by omega)
              have d2 : decide (i < n2) = false := decide_eq_false hlt
              clear hlt HI
              go_wp2_with fail
              go_loopg [6] 8 (fun kq vi w' => ∃ m : Nat, vi = .int .i64 m ∧ Aside0 (m + kq = 9 ∧ 0 < m) ∧ Aside0 (Sp ok w1 w'))
              case atStart => exact ⟨1, rfl, ⟨by omega⟩, HS⟩
              case round =>
                clear a2 HS
                obtain ⟨m, rfl, HM, HS⟩ := hrel
                have a0 : wr.cell? ⟨w.heap.size, 0, none⟩ = some (.slice A0 n0 c0) := (blk_cell (HS.out.same HX.out nsty46) 0).trans rfl
                by_cases hlt : m < 9
                · have d1 : decide ((m : Int) < 9) = true := decide_eq_true (by omega)
                  have d2 : decide (m < 9) = true := decide_eq_true hlt
                  have HLT := Aside0.mk hlt
                  clear hlt
                  go_upto_region 21 with (first | ((with_reducible refine gate_builtin (b := .append) (xs := #[.tmp 63, .tmp 64]) rfl ?_); at_builtin; refine sp_zeros (W0 := w1) rfl (.tmp 63) (.tmp 64) 42 3 9 (.string ⟨#[]⟩) 1 16 rfl Try.underlying42 Try.underlying3 info9 rfl (by decide) (by decide) (.slice A0 n0 c0) n0 m rfl rfl one_str (by have := HM.out; omega) HS.out (HR0'.out.move HS.out) (.inl rfl) (by have := HM.out; have := HL.out; omega) ?_; intro g' cap' cur' w2 hb hsz hok hsp; clear a0 HS; obtain ⟨N, hN⟩ : ∃ N, N = n0 + m := ⟨_, rfl⟩; rw [← hN] at hsz ⊢; obtain ⟨M, hM⟩ : ∃ M, N = M + 1 := ⟨N - 1, by have := HM.out; omega⟩; have hw : wrap64 ((N : Int) - 1) = (M : Int) := last_at hM (by have := HM.out; have := HL.out; omega); have k0 : (0 : Int) ≤ (M : Int) := (by omega); have k1 : (M : Int) < (N : Int) := (by omega); obtain ⟨u, gc⟩ := at_cell hb hsz (i := M) (by omega); have gf := blk_frozen hb M; have HS : Aside0 (Sp ok w1 (w2.setCell ⟨g', M, none⟩ (.string ⟨#[98, 101, 104, 105, 110, 100]⟩))) := ⟨hsp.set hb (.inl rfl) hok M _⟩; clear hM hN hb hsz hok hsp) | fail)
                  clear hw k0 k1 gc gf
                  generalize (w2.setCell ⟨g', M, none⟩ (.string ⟨#[98, 101, 104, 105, 110, 100]⟩)) = w3 at *
                  have a1 : w3.cell? ⟨w.heap.size, 1, none⟩ = some (.slice A1 n1 c1) := (blk_cell (HS.out.same HX.out nsty46) 1).trans rfl
                  go_upto_region 23 with (first | ((with_reducible refine gate_builtin (b := .append) (xs := #[.tmp 72, .tmp 73]) rfl ?_); at_builtin; refine sp_zeros (W0 := w1) rfl (.tmp 72) (.tmp 73) 43 3 74 (.agg #[.int .i64 0, .string ⟨#[]⟩, .string ⟨#[]⟩, .int .i64 0]) 4 48 rfl Try.underlying43 Try.underlying3 info74 rfl (by decide) (by decide) (.slice A1 n1 c1) n1 m rfl rfl one_work (by have := HM.out; omega) HS.out (HR1'.out.move HS.out) (.inr (.inl rfl)) (by have := HM.out; have := HL.out; omega) ?_; intro g' cap' cur' w2 hb hsz hok hsp; clear a1 HS; obtain ⟨N, hN⟩ : ∃ N, N = n1 + m := ⟨_, rfl⟩; rw [← hN] at hsz ⊢; obtain ⟨M, hM⟩ : ∃ M, N = M + 1 := ⟨N - 1, (by have := HM.out; omega)⟩; have hw : wrap64 ((N : Int) - 1) = (M : Int) := last_at hM (by have := HM.out; have := HL.out; omega); have k0 : (0 : Int) ≤ (M : Int) := (by omega); have k1 : (M : Int) < (N : Int) := (by omega); obtain ⟨u, gc⟩ := at_cell hb hsz (i := M * 4) (by omega); have gf := blk_frozen hb (M * 4); have HS : Aside0 (Sp ok w1 (w2.setCell ⟨g', M * 4, none⟩ (.int .i64 (-8)))) := ⟨hsp.set hb (.inr (.inl rfl)) hok (M * 4) _⟩; clear hM hN hb hsz hok hsp) | fail)
                  clear hw k0 k1 gc gf
                  generalize (w2.setCell ⟨g', M * 4, none⟩ (.int .i64 (-8))) = w4 at *
                  obtain ⟨gk0, hg0⟩ : ∃ gk0, gk0 = gk := ⟨_, rfl⟩
                  have HG0 := Aside0.mk hg0
                  clear hg0
                  go_wp2_with fail
                  go_loopg [9] n2 (fun kq vi w' => ∃ q : Nat, vi = .int .i64 q ∧ Aside0 (q + kq = n2) ∧ Aside0 (Sp ok w1 w'))
                  case atStart => exact ⟨0, rfl, ⟨by omega⟩, HS⟩
                  case round =>
                    clear HS
                    obtain ⟨q, rfl, HQ, HS⟩ := hrel
                    have a2 : wr.cell? ⟨w.heap.size, 2, none⟩ = some (.slice A2 n2 c2) := (blk_cell (HS.out.same HX.out nsty46) 2).trans rfl
                    by_cases hlt : q < n2
                    · have d3 : decide ((q : Int) < (n2 : Int)) = true := decide_eq_true (by omega)
                      have d4 : decide (q < n2) = true := decide_eq_true hlt
                      have j0 : (0 : Int) ≤ (q : Int) := by omega
                      have j1 : (q : Int) < (n2 : Int) := by omega
                      obtain ⟨gb, cap, cur, A, l, c, hA2, hb, hcu, hll, hrw⟩ := HBB.out q hlt
                      subst hA2
                      have a3 : wr.cell? ⟨gb, q, none⟩ = some (.slice A l c) := (blk_cell (HS.out.same hb nsty30) q).trans hcu
                      have HLL := Aside0.mk hll
                      have HRW := Aside0.mk hrw
                      have HQT := Aside0.mk hlt
                      clear hb hcu hll hrw hlt
                      go_wp2_with (first | ((with_reducible refine gate_builtin (b := .append) (xs := #[.tmp 92, .tmp 93]) rfl ?_); at_builtin; refine sp_zeros (W0 := w1) rfl (.tmp 92) (.tmp 93) 30 3 5 (.int .u8 0) 1 1 rfl Try.underlying30 Try.underlying3 info5 rfl (by decide) (by decide) (.slice A l c) l m rfl rfl one_byte (by have := HM.out; omega) HS.out (HRW.out.move HS.out) (.inr (.inr rfl)) (by have := HM.out; have := HLL.out; omega) ?_; intro g' cap' cur' w2 hb hsz hok hsp; clear a2 a3 HS; obtain ⟨N, hN⟩ : ∃ N, N = l + m := ⟨_, rfl⟩; rw [← hN] at hsz ⊢; obtain ⟨M, hM⟩ : ∃ M, N = M + 1 := ⟨N - 1, (by have := HM.out; omega)⟩; have hw : wrap64 ((N : Int) - 1) = (M : Int) := last_at hM (by have := HM.out; have := HLL.out; omega); have k0 : (0 : Int) ≤ (M : Int) := (by omega); have k1 : (M : Int) < (N : Int) := (by omega); obtain ⟨u, gc⟩ := at_cell hb hsz (i := M) (by omega); have gf := blk_frozen hb M; have HS : Aside0 (Sp ok w1 (w2.setCell ⟨g', M, none⟩ (.int .u8 221))) := ⟨hsp.set hb (.inr (.inr rfl)) hok M _⟩; clear hM hN hb hsz hok hsp) | fail)
                      go_roundg (gk - 1)
                      case measure => have := HQ.out; have := HQT.out; omega
                      case rel => exact ⟨q + 1, next_i6 (by have := HL.out; have := HQT.out; omega), ⟨by have := HQ.out; have := HQT.out; omega⟩, HS⟩
                    · have d3 : decide ((q : Int) < (n2 : Int)) = false := decide_eq_false (by omega)
                      have d4 : decide (q < n2) = false := decide_eq_false hlt
                      clear hlt HQ
                      go_wp2_with fail
                      go_roundg (gk0 - 1)
                      case measure => have := HM.out; have := HLT.out; have := HG0.out; omega
                      case rel => exact ⟨m + 1, next_i6 (by have := HLT.out; omega), ⟨by have := HM.out; have := HLT.out; have := HG0.out; omega⟩, HS⟩
                · have d1 : decide ((m : Int) < 9) = false := decide_eq_false (by omega)
                  have d2 : decide (m < 9) = false := decide_eq_false hlt
                  clear hlt HM
                  go_wp2_with fail
                  refine bodyPost_end (v := .tuple #[]) (by simp [results, Try.results28, go_sem]) rfl ?_
                  exact ⟨rfl, HF.out.trans HS.out.fr (fun k hk _ => hk)⟩
end
end Go.Proofs.Ytnegcjgolaakcaa

/- What is held, and what is told of a disk: bounds, and what stays behind a spoiling. -/
namespace Go.Proofs.Ytnegcjgolaakcaa
open Go.RowKit Go.Maps
open Go.Proofs.YtnegcjgolaakcaaW.PrintWords Go.Proofs.YtnegcjgolaakcaaW.PrintLast Go.Proofs.YtnegcjgolaakcaaW.PrintMore
set_option linter.unusedVariables false
set_option linter.unusedSimpArgs false
section
variable {w w0 w1 w' : World} {g B T T' : Nat} {s s' : DS} {S S' ok : Nat → Prop}
theorem read_len (hI : s.Inv T) (n : ByteArray) : (s.read n).1.length ≤ T := by
  unfold DS.read
  split
  · split
    · exact Nat.zero_le _
    · split
      · rename_i k _
        show (s.nowAt k).length ≤ T
        unfold DS.nowAt
        cases hk : s.files[k]? with
        | none => simp
        | some f =>
          simp only [Option.map_some, Option.getD_some]
          exact now_le hI hk
      · exact Nat.zero_le _
  · exact Nat.zero_le _
theorem seen_le (hI : s.Inv T) : (listV s).length ≤ T := by
  have h2 : (listV s).length ≤ s.count := by
    unfold listV
    split
    · exact Nat.zero_le _
    · rename_i ho
      have h1 := list_len (s := s) (by simpa using ho)
      unfold listV at h1
      rw [if_neg ho] at h1
      omega
  have h3 := count_le s
  have h4 := hI.lf
  omega
theorem seen_bounds (hI : s.Inv T) (hT : T ≤ 1073741824) : ((seenOf s).names.length ≤ 1073741824 ∧ (seenOf s).works.length ≤ 1073741824 ∧ (seenOf s).bytes.length ≤ 1073741824) ∧ (seenOf s).names.length = (seenOf s).bytes.length ∧ ∀ l ∈ (seenOf s).bytes, l.length ≤ 1073741824 := by
  have h1 := seen_le hI
  have h2 := hI.lw
  have e1 : (seenOf s).names.length = (listV s).length := rfl
  have e2 : (seenOf s).bytes.length = (listV s).length := List.length_map _
  have e3 : (seenOf s).works.length = s.works.length := List.length_map _
  refine ⟨⟨by omega, by omega, by omega⟩, by omega, fun l hl => ?_⟩
  obtain ⟨n, _, rfl⟩ := List.mem_map.1 hl
  have := read_len hI n
  unfold readsOf
  omega
/-- only what is held has turned: the disk has not -/
theorem Lx.fr (h : Lx S w0 B T w g s) (hf : Fr ok w w') (hk : ∀ k, ok k → S k) : Lw B T w' g s := by
  obtain ⟨⟨base, ok', nb, fb, v, ad, h1, h2, h3⟩, _, _, _, h4, h5⟩ := h
  exact ⟨⟨base, ok', nb, fb, v, ad, h1, h3.step (fun k hk' hlt => hf.block k hlt (fun hc => h2 k hk' (hk k hc)))⟩, h4, h5⟩
end
/-- all that the last look needs -/
structure HeI (w W : World) (B T ga gb gd g : Nat) (a0 a1 a2 u0 u1 u2 t0 t1 t2 : Value) (x y : Sn) (s : DS) : Prop where
  ba : IsB W ga #[a0, a1, a2] 46
  bb : IsB W gb #[u0, u1, u2] 46
  bd : IsB W gd #[t0, t1, t2] 46
  a : SeenC W a0 a1 a2 x.names.length x.works.length x.bytes.length x
  u : SeenC W u0 u1 u2 x.names.length x.works.length x.bytes.length x
  t : SeenC W t0 t1 t2 y.names.length y.works.length y.bytes.length y
  d : Lw B T W g s
  bl : Below w.heap.size w W
theorem HeI.below {w W W' : World} {B T ga gb gd g : Nat} {a0 a1 a2 u0 u1 u2 t0 t1 t2 : Value} {x y : Sn} {s : DS} (h : HeI w W B T ga gb gd g a0 a1 a2 u0 u1 u2 t0 t1 t2 x y s) (hb : Below W.heap.size W W') : HeI w W' B T ga gb gd g a0 a1 a2 u0 u1 u2 t0 t1 t2 x y s :=
  ⟨blk_below h.ba hb, blk_below h.bb hb, blk_below h.bd hb, h.a.below hb, h.u.below hb, h.t.below hb, h.d.below hb, h.bl.trans (hb.mono h.bl.size)⟩
end Go.Proofs.Ytnegcjgolaakcaa

/- DiskHeld: the law's walk. -/
namespace Go.Proofs.Ytnegcjgolaakcaa
open Go.RowKit Go.Maps Go.Sort
open Go.Proofs.YtnegcjgolaakcaaW.PrintWords Go.Proofs.YtnegcjgolaakcaaW.PrintLast Go.Proofs.YtnegcjgolaakcaaW.PrintMore
open Pbulk (S62 k62 z62 rd_T62 at_T62)
set_option linter.unusedVariables false
set_option linter.unusedSimpArgs false
section
/-- a struct put into new memory -/
def boxW (w : World) (a b c : Value) : World := w.alloc (Obj.cells #[a, b, c] 46)
theorem box_facts (w : World) (a b c : Value) : IsB (boxW w a b c) w.heap.size #[a, b, c] 46 ∧ Below w.heap.size w (boxW w a b c) ∧ w.heap.size < (boxW w a b c).heap.size :=
  ⟨blk_new w _, below_alloc (Below.refl _ _) _, blk_lt (blk_new w (Obj.cells #[a, b, c] 46))⟩
def F5RT13 : Bool × List (List Nat × List Nat) := (true, [([], []), ([], []), ([0, 1], [0, 1]), ([2, 2], [2]), ([3], [3]), ([4, 3, 3], [3, 4]), ([3], [3]), ([5, 6, 5, 3], [3, 5, 6]), ([3, 7], [3, 7]), ([8, 7], [8]), ([9, 9], [9]), ([9, 10], [9, 10]), ([11, 10, 0, 1, 2, 3, 4, 5, 6, 7, 8, 9, 10, 11], [11])])
def F5RB13 : List Nat := [0, 0, 3, 7, 15, 31, 15, 127, 255, 511, 1023, 2047, 4095]
theorem F5Rtab13 : rtab .any (opsOf Try.f5 13) = F5RT13 := by kernel_rfl
theorem F5Rbits13 : waitsOk F5RT13.2 F5RB13 = true := by kernel_rfl
set_option maxHeartbeats 4000000 in
set_option maxRecDepth 100000 in
theorem held_walk (x y : Int) (l : List S62) (A : Option Addr) (c : Nat) (k : List S62) (K : Option Addr) (kc : Nat) (w : World) (hC : Kd.C k62 w A l.length l) (hc : l.length ≤ c) (hz : SzOk l) (hl : ∀ o ∈ l, OpOk' o) (hCk : Kd.C k62 w K k.length k) (hck : k.length ≤ kc) (hzk : SzOk k) (hlk : ∀ o ∈ k, OpOk' o) :
    Calls Try.prog 5 #[.int .i64 x, .int .i64 y, .slice A l.length c, .slice K k.length kc] w fun e w' => e = .returned (.bool true) ∧ Below w.heap.size w w' := by
  have HC := Aside0.mk hC
  have HCC := Aside0.mk hc
  have HZ := Aside0.mk hz
  have HL := Aside0.mk hl
  have HCK := Aside0.mk hCk
  have HCCK := Aside0.mk hck
  have HZK := Aside0.mk hzk
  have HLK := Aside0.mk hlk
  clear hC hc hz hl hCk hck hzk hlk
  go_enter Try.func5, Try.ntmps5
  go_wp2_with fail
  cases hg : goodNew x y with
  | false =>
    refine (new_bad x y w hg).mono ?_
    rintro e w1 ⟨rfl, hb⟩
    have HB1 := Aside0.mk hb
    clear hb hg
    go_wp2_with fail
    refine (alive_calls w1).mono ?_
    rintro e w2 ⟨rfl, hb⟩
    have HB2 := Aside0.mk (HB1.out.trans (hb.mono HB1.out.size))
    clear hb
    go_wp2_with fail
    go_ret
    exact ⟨rfl, HB2.out⟩
  | true =>
    refine (lw_new x y w hg).mono ?_
    rintro e w1 ⟨g, rfl, hd, hb⟩
    have HG := Aside0.mk hg
    have H1 := Aside0.mk hd
    have HB1 := Aside0.mk hb
    obtain ⟨kk, r, hk, hr⟩ := bulk_some l HZ.out
    obtain ⟨kk2, r2, hk2, hr2⟩ := bulk_some k HZK.out
    have HK := Aside0.mk hk
    have HR := Aside0.mk hr
    have HK2 := Aside0.mk hk2
    have HR2 := Aside0.mk hr2
    clear hd hb hg hk hr hk2 hr2
    go_wp2_with fail
    refine (Pbulk.pupillaw24_bulk.calls kk A c l r w1 (Kd.C_below HC.out HB1.out) HCC.out HK.out).mono ?_
    rintro e w2 ⟨rfl, hdr⟩
    have hb2 := drawn_below hdr
    have H2 := Aside0.mk (H1.out.below hb2)
    have HB2 := Aside0.mk (HB1.out.trans (hb2.mono HB1.out.size))
    clear hdr hb2 H1 HB1
    by_cases hr : 200000 < r
    · have d1 : decide (200000 < r) = true := decide_eq_true hr
      clear hr
      go_wp2_with fail
      refine (alive_calls w2).mono ?_
      rintro e w3 ⟨rfl, hb⟩
      have HB3 := Aside0.mk (HB2.out.trans (hb.mono HB2.out.size))
      clear hb
      go_wp2_with fail
      go_ret
      exact ⟨rfl, HB3.out⟩
    have d1 : decide (200000 < r) = false := decide_eq_false hr
    have HOK := Aside0.mk (ok_of_bulk HL.out (HR.out (by omega)))
    have HNB : Aside0 (opN l ≤ 400000) := ⟨by have h1 := HR.out (by omega); have h2 := opN_bulk l; omega⟩
    clear hr
    go_wp2_with fail
    refine (Pbulk.pupillaw24_bulk.calls kk2 K kc k r2 w2 (Kd.C_below HCK.out HB2.out) HCCK.out HK2.out).mono ?_
    rintro e w3 ⟨rfl, hdr⟩
    have hb2 := drawn_below hdr
    have H3 := Aside0.mk (H2.out.below hb2)
    have HB3 := Aside0.mk (HB2.out.trans (hb2.mono HB2.out.size))
    clear hdr hb2 H2 HB2
    by_cases hr : 200000 < r2
    · have d2 : decide (200000 < r2) = true := decide_eq_true hr
      clear hr
      go_wp2_with fail
      refine (alive_calls w3).mono ?_
      rintro e w4 ⟨rfl, hb⟩
      have HB4 := Aside0.mk (HB3.out.trans (hb.mono HB3.out.size))
      clear hb
      go_wp2_with fail
      go_ret
      exact ⟨rfl, HB4.out⟩
    have d2 : decide (200000 < r2) = false := decide_eq_false hr
    have HOK2 := Aside0.mk (ok_of_bulk HLK.out (HR2.out (by omega)))
    have HNB2 : Aside0 (opN k ≤ 400000) := ⟨by have h1 := HR2.out (by omega); have h2 := opN_bulk k; omega⟩
    clear hr HK HR HK2 HR2 HZ HZK HL HLK
    go_wp2_with fail
    refine (told_calls l A c H3.out (fun W' hW => Kd.C_below HC.out (HB3.out.trans hW)) HOK.out (by have := HNB.out; omega)).mono ?_
    rintro e w4 ⟨rfl, hd, hb⟩
    generalize toldS (DS.new x y) l = s1 at *
    have H4 := Aside0.mk (hd.more (T' := 400000) (by have := HNB.out; omega) (by decide))
    have HB4 := Aside0.mk (HB3.out.trans hb)
    clear hd hb H3 HB3 d1 d2 HG HNB HOK
    have HSB := Aside0.mk (seen_bounds H4.out.2.1 H4.out.2.2)
    go_wp2_with fail
    refine (look_calls H4.out).mono ?_
    rintro e w5 ⟨a0, a1, a2, rfl, hs, hb⟩
    generalize seenOf s1 = sx at *
    obtain ⟨A0, p0, A1, p1, A2, p2, rfl, rfl, rfl⟩ := hs.reads.shape
    have HB5 := Aside0.mk hb
    have HA5 := Aside0.mk hs
    clear hs hb
    go_upto_region 6 with fail
    have hbx := box_facts w5 (.slice A0 sx.names.length p0) (.slice A1 sx.works.length p1) (.slice A2 sx.bytes.length p2)
    change Code.wp _ _ _ _ (boxW w5 (.slice A0 sx.names.length p0) (.slice A1 sx.works.length p1) (.slice A2 sx.bytes.length p2))
    generalize boxW w5 (.slice A0 sx.names.length p0) (.slice A1 sx.works.length p1) (.slice A2 sx.bytes.length p2) = w6 at *
    obtain ⟨ga, hga⟩ : ∃ ga, ga = w5.heap.size := ⟨_, rfl⟩
    have HGA := Aside0.mk hga
    rw [← hga] at hbx ⊢
    have HX6 := Aside0.mk hbx.1
    have HB6 : Aside0 (Below w5.heap.size w5 w6) := ⟨by rw [← hga]; exact hbx.2.1⟩
    have HA6 := Aside0.mk (HA5.out.below HB6.out)
    have HB46 : Aside0 (Below w4.heap.size w4 w6) := ⟨HB5.out.trans (HB6.out.mono HB5.out.size)⟩
    have b0 : w6.cell? ⟨ga, 0, none⟩ = some (.slice A0 sx.names.length p0) := (blk_cell HX6.out 0).trans rfl
    have b1 : w6.cell? ⟨ga, 1, none⟩ = some (.slice A1 sx.works.length p1) := (blk_cell HX6.out 1).trans rfl
    have b2 : w6.cell? ⟨ga, 2, none⟩ = some (.slice A2 sx.bytes.length p2) := (blk_cell HX6.out 2).trans rfl
    clear hbx hga HA5
    go_wp2_with fail
    refine (copied_calls HA6.out.reads HSB.out.1 HSB.out.2.2).mono ?_
    rintro e w7 ⟨q0, q1, q2, rfl, hs, hb⟩
    obtain ⟨U0, u0, U1, u1, U2, u2, rfl, rfl, rfl⟩ := hs.reads.shape
    have HU7 := Aside0.mk hs
    have HB7 := Aside0.mk hb
    clear hs hb b0 b1 b2
    go_upto_region 7 with fail
    have hbx := box_facts w7 (.slice U0 sx.names.length u0) (.slice U1 sx.works.length u1) (.slice U2 sx.bytes.length u2)
    change Code.wp _ _ _ _ (boxW w7 (.slice U0 sx.names.length u0) (.slice U1 sx.works.length u1) (.slice U2 sx.bytes.length u2))
    generalize boxW w7 (.slice U0 sx.names.length u0) (.slice U1 sx.works.length u1) (.slice U2 sx.bytes.length u2) = w8 at *
    obtain ⟨gb, hgb⟩ : ∃ gb, gb = w7.heap.size := ⟨_, rfl⟩
    have HGB := Aside0.mk hgb
    rw [← hgb] at hbx ⊢
    have HY8 := Aside0.mk hbx.1
    have HB8 : Aside0 (Below w7.heap.size w7 w8) := ⟨by rw [← hgb]; exact hbx.2.1⟩
    have HL8 : Aside0 (ga < w8.heap.size ∧ gb < w8.heap.size ∧ w4.heap.size ≤ ga ∧ w4.heap.size ≤ gb) := ⟨by
      have h1 := blk_lt HX6.out
      have h2 := HB7.out.size
      have h3 := HB8.out.size
      have h4 := HB5.out.size
      have h5 := HGA.out
      have h6 := HGB.out
      have h7 := hbx.2.2
      have h8 := HB46.out.size
      exact ⟨by omega, h7, by omega, by omega⟩⟩
    have HB48 : Aside0 (Below w4.heap.size w4 w8) := ⟨(HB46.out.trans (HB7.out.mono HB46.out.size)).trans (HB8.out.mono (Nat.le_trans HB46.out.size HB7.out.size))⟩
    have HX8 := Aside0.mk (blk_below (blk_below HX6.out HB7.out) HB8.out)
    have HA8 := Aside0.mk ((HA6.out.below HB7.out).below HB8.out)
    have HU8 := Aside0.mk ((HU7.out.below HB8.out).lower HB46.out.size)
    clear hbx hgb HX6 HA6 HU7
    have hL8 := (H4.out.hold.hold HB48.out).less (S' := fun k => w4.heap.size ≤ k ∧ k < w8.heap.size) (fun k hk => .inr hk)
    have HLx := Aside0.mk hL8
    have HBw8 := Aside0.mk (HB4.out.trans (HB48.out.mono HB4.out.size))
    clear hL8
    have HSA := Aside0.mk (SeenR.mono HA8.out.bound (ok' := fun k => w4.heap.size ≤ k ∧ k < w8.heap.size) (fun k hk => ⟨hk.2.1, hk.2.2⟩))
    have HSU := Aside0.mk (SeenR.mono HU8.out.bound (ok' := fun k => w4.heap.size ≤ k ∧ k < w8.heap.size) (fun k hk => ⟨hk.2.1, hk.2.2⟩))
    clear HA8 HU8
    go_wp2_with fail
    refine (told_held k K kc HLx.out (fun W' hW => Kd.C_below HCK.out (HBw8.out.trans hW)) HOK2.out (by have := HNB2.out; omega)).mono ?_
    rintro e w9 ⟨rfl, hd, hb⟩
    generalize toldS s1 k = s2 at *
    have H9 := Aside0.mk (hd.more (T' := 800000) (by have := HNB2.out; omega) (by decide))
    have HB9 := Aside0.mk (HBw8.out.trans hb)
    have HSA9 := Aside0.mk (H9.out.seen HSA.out)
    have HSU9 := Aside0.mk (H9.out.seen HSU.out)
    have HX9 : Aside0 (IsB w9 ga #[.slice A0 sx.names.length p0, .slice A1 sx.works.length p1, .slice A2 sx.bytes.length p2] 46) := ⟨(H9.out.keep ga ⟨HL8.out.2.2.1, HL8.out.1⟩).trans HX8.out⟩
    have HY9 : Aside0 (IsB w9 gb #[.slice U0 sx.names.length u0, .slice U1 sx.works.length u1, .slice U2 sx.bytes.length u2] 46) := ⟨(H9.out.keep gb ⟨HL8.out.2.2.2, HL8.out.2.1⟩).trans HY8.out⟩
    have HGE := Aside0.mk H9.out.ge
    clear hd hb HLx HSA HSU HX8 HY8 HBw8 HNB2 HOK2 H4 HB4 HB5 HB6 HB7 HB8 HB46 HB48
    have HSB2 := Aside0.mk (seen_bounds H9.out.inv H9.out.le)
    go_wp2_with fail
    refine (look_calls H9.out.lw).mono ?_
    rintro e w10 ⟨b0, b1, b2, rfl, hs, hb⟩
    obtain ⟨sy, hsy⟩ : ∃ sy, sy = seenOf s2 := ⟨_, rfl⟩
    have HSY := Aside0.mk hsy
    rw [← hsy] at hs HSB2
    obtain ⟨B0, r0, B1, r1, B2, r2, rfl, rfl, rfl⟩ := hs.reads.shape
    have HB10 := Aside0.mk hb
    have HV10 := Aside0.mk (SeenR.mono hs.bound (ok' := fun k => w9.heap.size ≤ k ∧ k < w10.heap.size) (fun k hk => hk.2))
    clear hs hb hsy
    go_upto_region 9 with fail
    have hbx := box_facts w10 (.slice B0 sy.names.length r0) (.slice B1 sy.works.length r1) (.slice B2 sy.bytes.length r2)
    change Code.wp _ _ _ _ (boxW w10 (.slice B0 sy.names.length r0) (.slice B1 sy.works.length r1) (.slice B2 sy.bytes.length r2))
    generalize boxW w10 (.slice B0 sy.names.length r0) (.slice B1 sy.works.length r1) (.slice B2 sy.bytes.length r2) = w11 at *
    obtain ⟨gc, hgc⟩ : ∃ gc, gc = w10.heap.size := ⟨_, rfl⟩
    rw [← hgc] at hbx ⊢
    have HX11 := Aside0.mk hbx.1
    have HB11 : Aside0 (Below w10.heap.size w10 w11) := ⟨by rw [← hgc]; exact hbx.2.1⟩
    have HV11 := Aside0.mk (HV10.out.below HB11.out)
    have c0 : w11.cell? ⟨gc, 0, none⟩ = some (.slice B0 sy.names.length r0) := (blk_cell HX11.out 0).trans rfl
    have c1 : w11.cell? ⟨gc, 1, none⟩ = some (.slice B1 sy.works.length r1) := (blk_cell HX11.out 1).trans rfl
    have c2 : w11.cell? ⟨gc, 2, none⟩ = some (.slice B2 sy.bytes.length r2) := (blk_cell HX11.out 2).trans rfl
    have HGC := Aside0.mk hgc
    clear hbx hgc HV10
    go_wp2_with fail
    refine (copied_calls HV11.out.reads HSB2.out.1 HSB2.out.2.2).mono ?_
    rintro e w12 ⟨q0, q1, q2, rfl, hs, hb⟩
    obtain ⟨C0, z0, C1, z1, C2, z2, rfl, rfl, rfl⟩ := hs.reads.shape
    have HT12 := Aside0.mk hs
    have HB12 := Aside0.mk hb
    clear hs hb c0 c1 c2
    go_upto_region 10 with fail
    have hbx := box_facts w12 (.slice C0 sy.names.length z0) (.slice C1 sy.works.length z1) (.slice C2 sy.bytes.length z2)
    change Code.wp _ _ _ _ (boxW w12 (.slice C0 sy.names.length z0) (.slice C1 sy.works.length z1) (.slice C2 sy.bytes.length z2))
    generalize boxW w12 (.slice C0 sy.names.length z0) (.slice C1 sy.works.length z1) (.slice C2 sy.bytes.length z2) = w13 at *
    obtain ⟨gd, hgd⟩ : ∃ gd, gd = w12.heap.size := ⟨_, rfl⟩
    rw [← hgd] at hbx ⊢
    have HY13 := Aside0.mk hbx.1
    have HB13 : Aside0 (Below w12.heap.size w12 w13) := ⟨by rw [← hgd]; exact hbx.2.1⟩
    have HGD := Aside0.mk hgd
    clear hbx hgd
    have HB3 : Aside0 (Below w9.heap.size w9 w13) := ⟨((HB10.out.trans (HB11.out.mono HB10.out.size)).trans (HB12.out.mono (Nat.le_trans HB10.out.size HB11.out.size))).trans (HB13.out.mono (Nat.le_trans (Nat.le_trans HB10.out.size HB11.out.size) HB12.out.size))⟩
    have HSA13 := Aside0.mk (HSA9.out.below HB3.out)
    have HSU13 := Aside0.mk (HSU9.out.below HB3.out)
    have HX13 := Aside0.mk (blk_below HX9.out HB3.out)
    have HY13a := Aside0.mk (blk_below HY9.out HB3.out)
    have HV13 := Aside0.mk ((HV11.out.below HB12.out).below HB13.out)
    have HX13b := Aside0.mk (blk_below (blk_below HX11.out HB12.out) HB13.out)
    have HT13 := Aside0.mk (HT12.out.below HB13.out)
    have HL13 := Aside0.mk (H9.out.hold HB3.out)
    have HSZ : Aside0 (w8.heap.size ≤ w9.heap.size ∧ w9.heap.size ≤ w10.heap.size ∧ w10.heap.size ≤ w11.heap.size ∧ w11.heap.size ≤ w12.heap.size ∧ w12.heap.size ≤ w13.heap.size ∧ w.heap.size ≤ w9.heap.size) := ⟨⟨HGE.out, HB10.out.size, HB11.out.size, HB12.out.size, HB13.out.size, HB9.out.size⟩⟩
    have HBw13 := Aside0.mk (HB9.out.trans (HB3.out.mono HB9.out.size))
    clear HB10 HB11 HB12 HB13 HB3 HB9 HSA9 HSU9 HX9 HY9 HV11 HX11 HT12 H9 HGE
    have m0 : w13.cell? ⟨ga, 0, none⟩ = some (.slice A0 sx.names.length p0) := (blk_cell HX13.out 0).trans rfl
    have m1 : w13.cell? ⟨ga, 1, none⟩ = some (.slice A1 sx.works.length p1) := (blk_cell HX13.out 1).trans rfl
    have m2 : w13.cell? ⟨ga, 2, none⟩ = some (.slice A2 sx.bytes.length p2) := (blk_cell HX13.out 2).trans rfl
    have m3 : w13.cell? ⟨gb, 0, none⟩ = some (.slice U0 sx.names.length u0) := (blk_cell HY13a.out 0).trans rfl
    have m4 : w13.cell? ⟨gb, 1, none⟩ = some (.slice U1 sx.works.length u1) := (blk_cell HY13a.out 1).trans rfl
    have m5 : w13.cell? ⟨gb, 2, none⟩ = some (.slice U2 sx.bytes.length u2) := (blk_cell HY13a.out 2).trans rfl
    go_wp2_with fail
    refine (is_calls HSA13.out.reads HSU13.out.reads HSB.out.2.1 ⟨HSB.out.1.1, HSB.out.1.2.1⟩).mono ?_
    rintro e w14 ⟨rfl, hb⟩
    have HB14 := Aside0.mk hb
    have m6 : w14.cell? ⟨gc, 0, none⟩ = some (.slice B0 sy.names.length r0) := (blk_cell (blk_below HX13b.out hb) 0).trans rfl
    have m7 : w14.cell? ⟨gc, 1, none⟩ = some (.slice B1 sy.works.length r1) := (blk_cell (blk_below HX13b.out hb) 1).trans rfl
    have m8 : w14.cell? ⟨gc, 2, none⟩ = some (.slice B2 sy.bytes.length r2) := (blk_cell (blk_below HX13b.out hb) 2).trans rfl
    clear m0 m1 m2 m3 m4 m5 hb
    go_wp2_with fail
    refine (spoil_calls (HV13.out.below HB14.out) HSB2.out.1 HSB2.out.2.2).mono ?_
    rintro e w15 ⟨rfl, hf⟩
    clear m6 m7 m8
    have HE : Aside0 (HeI w w15 w.heap.size 800000 ga gb gd g (.slice A0 sx.names.length p0) (.slice A1 sx.works.length p1) (.slice A2 sx.bytes.length p2) (.slice U0 sx.names.length u0) (.slice U1 sx.works.length u1) (.slice U2 sx.bytes.length u2) (.slice C0 sy.names.length z0) (.slice C1 sy.works.length z1) (.slice C2 sy.bytes.length z2) sx sy s2) := by
      refine ⟨⟨?_, ?_, ?_, ?_, ?_, ?_, ?_, ?_⟩⟩
      · exact (hf.block ga (blk_lt (blk_below HX13.out HB14.out)) (fun h => by have h1 := HSZ.out; have h2 := HL8.out; have h3 := h.1; omega)).trans (blk_below HX13.out HB14.out)
      · exact (hf.block gb (blk_lt (blk_below HY13a.out HB14.out)) (fun h => by have h1 := HSZ.out; have h2 := HL8.out; have h3 := h.1; omega)).trans (blk_below HY13a.out HB14.out)
      · exact (hf.block gd (blk_lt (blk_below HY13.out HB14.out)) (fun h => by have h1 := HSZ.out; have h2 := HGD.out; have h3 := h.2; omega)).trans (blk_below HY13.out HB14.out)
      · exact ((HSA13.out.below HB14.out).step (fun k hk hlt => hf.block k hlt (fun h => by have h1 := HSZ.out; have h2 := hk.2; have h3 := h.1; omega))).reads
      · exact ((HSU13.out.below HB14.out).step (fun k hk hlt => hf.block k hlt (fun h => by have h1 := HSZ.out; have h2 := hk.2; have h3 := h.1; omega))).reads
      · exact ((HT13.out.below HB14.out).bound.step (fun k hk hlt => hf.block k hlt (fun h => by have h1 := HSZ.out; have h2 := hk.2.1; have h3 := h.2; omega))).reads
      · exact (HL13.out.below HB14.out).fr hf (fun k hk => .inr ⟨hk.1, by have h1 := HSZ.out; have h3 := hk.2; omega⟩)
      · exact (HBw13.out.trans (HB14.out.mono HBw13.out.size)).trans (hf.below (by have h1 := HBw13.out.size; have h2 := HB14.out.size; omega) (fun k hk => by have h1 := HSZ.out; have h3 := hk.1; omega))
    clear hf HSA13 HSU13 HT13 HL13 HX13 HY13a HY13 HV13 HX13b HBw13 HB14 HSZ HL8 HGA HGB HGC HGD
    go_upto_region 13 with fail
    have HE1 := Aside0.mk (HE.out.below (W' := w15.drew) (below_drew (Below.refl _ _)))
    have m0 : w15.drew.cell? ⟨ga, 0, none⟩ = some (.slice A0 sx.names.length p0) := (blk_cell HE1.out.ba 0).trans rfl
    have m1 : w15.drew.cell? ⟨ga, 1, none⟩ = some (.slice A1 sx.works.length p1) := (blk_cell HE1.out.ba 1).trans rfl
    have m2 : w15.drew.cell? ⟨ga, 2, none⟩ = some (.slice A2 sx.bytes.length p2) := (blk_cell HE1.out.ba 2).trans rfl
    have m3 : w15.drew.cell? ⟨gb, 0, none⟩ = some (.slice U0 sx.names.length u0) := (blk_cell HE1.out.bb 0).trans rfl
    have m4 : w15.drew.cell? ⟨gb, 1, none⟩ = some (.slice U1 sx.works.length u1) := (blk_cell HE1.out.bb 1).trans rfl
    have m5 : w15.drew.cell? ⟨gb, 2, none⟩ = some (.slice U2 sx.bytes.length u2) := (blk_cell HE1.out.bb 2).trans rfl
    have m6 : w15.drew.cell? ⟨gd, 0, none⟩ = some (.slice C0 sy.names.length z0) := (blk_cell HE1.out.bd 0).trans rfl
    have m7 : w15.drew.cell? ⟨gd, 1, none⟩ = some (.slice C1 sy.works.length z1) := (blk_cell HE1.out.bd 1).trans rfl
    have m8 : w15.drew.cell? ⟨gd, 2, none⟩ = some (.slice C2 sy.bytes.length z2) := (blk_cell HE1.out.bd 2).trans rfl
    refine start_ (n := 13) (S := fun w' => w'.cell? ⟨ga, 0, none⟩ = some (.slice A0 sx.names.length p0) ∧ w'.cell? ⟨ga, 1, none⟩ = some (.slice A1 sx.works.length p1) ∧ w'.cell? ⟨ga, 2, none⟩ = some (.slice A2 sx.bytes.length p2) ∧ w'.cell? ⟨gb, 0, none⟩ = some (.slice U0 sx.names.length u0) ∧ w'.cell? ⟨gb, 1, none⟩ = some (.slice U1 sx.works.length u1) ∧ w'.cell? ⟨gb, 2, none⟩ = some (.slice U2 sx.bytes.length u2) ∧ w'.cell? ⟨gd, 0, none⟩ = some (.slice C0 sy.names.length z0) ∧ w'.cell? ⟨gd, 1, none⟩ = some (.slice C1 sy.works.length z1) ∧ w'.cell? ⟨gd, 2, none⟩ = some (.slice C2 sy.bytes.length z2)) (ds := []) #[false, false, false, false, false, false, false, false, false, false, false, false, false] (by kernel_rfl) rfl rfl ⟨m0, m1, m2, m3, m4, m5, m6, m7, m8⟩ (fun hHeld => ?_)
    refine with_tabW F5Rtab13 F5Rbits13 (fun HT_ HW_ => ?_)
    refine take_ (i := 0) (N := some 54) (v := ?_) (a' := ?_) #[true, false, false, false, false, false, false, false, false, false, false, false, false] rfl rfl (take_ofW HT_.out HW_.out (by kernel_rfl)) (fun _ _ _ h => h) (Or.inl ⟨by rfl, ?_⟩) hHeld ?_ ?_
    rotate_left
    · rintro w' ⟨s0, s1, s2, s3, s4, s5, s6, s7, s8⟩
      go_simp
      with_reducible rfl
    rotate_left
    · simp only [Act.put, List.setIfInBounds_toArray, List.set_cons_zero, List.set_cons_succ, i64_w, i32_w]
      rfl
    refine take_ (i := 1) (N := some 55) (v := ?_) (a' := ?_) #[true, true, false, false, false, false, false, false, false, false, false, false, false] rfl rfl (take_ofW HT_.out HW_.out (by kernel_rfl)) (fun _ _ _ h => h) (Or.inl ⟨by rfl, ?_⟩) hHeld ?_ ?_
    rotate_left
    · rintro w' ⟨s0, s1, s2, s3, s4, s5, s6, s7, s8⟩
      go_simp
      with_reducible rfl
    rotate_left
    · simp only [Act.put, List.setIfInBounds_toArray, List.set_cons_zero, List.set_cons_succ, i64_w, i32_w]
      rfl
    refine one_ (i := 2) (N := some 56) #[true, true, true, false, false, false, false, false, false, false, false, false, false] rfl rfl (one_of HT_.out (by kernel_rfl)) (by decide) (fun K hK => ?_)
    refine goes_ Try.func27 (by kernel_rfl) rfl #[.agg #[.slice A0 sx.names.length p0, .slice A1 sx.works.length p1, .slice A2 sx.bytes.length p2], .agg #[.slice U0 sx.names.length u0, .slice U1 sx.works.length u1, .slice U2 sx.bytes.length u2]] (by rfl) rfl rfl (by simp only [List.map_toArray, List.map_cons, List.map_nil]; rfl) ?_
    with_reducible refine (is_calls HE1.out.a HE1.out.u HSB.out.2.1 ⟨HSB.out.1.1, HSB.out.1.2.1⟩).mono ?_
    rintro e w16 ⟨rfl, hb⟩
    refine ⟨_, rfl, ?_⟩
    have HE2 := Aside0.mk (HE1.out.below hb)
    clear hb
    refine hK.out _ _ ⟨(blk_cell HE2.out.ba 0).trans rfl, (blk_cell HE2.out.ba 1).trans rfl, (blk_cell HE2.out.ba 2).trans rfl, (blk_cell HE2.out.bb 0).trans rfl, (blk_cell HE2.out.bb 1).trans rfl, (blk_cell HE2.out.bb 2).trans rfl, (blk_cell HE2.out.bd 0).trans rfl, (blk_cell HE2.out.bd 1).trans rfl, (blk_cell HE2.out.bd 2).trans rfl⟩ (fun hHeld => ?_)
    clear hK K
    refine norm_ (a' := ?_) ?_ ?_
    rotate_left
    · show Act.put _ (some 56) _ = _
      simp only [Act.put, List.setIfInBounds_toArray, List.set_cons_zero, List.set_cons_succ, i64_w, i32_w]
      rfl
    refine pure_ (i := 3) (N := some 57) (v := ?_) (a' := ?_) #[true, true, true, true, false, false, false, false, false, false, false, false, false] rfl rfl (any_of HT_.out (by kernel_rfl)) (fun _ _ _ h => h) (Or.inl ⟨by rfl, ?_⟩) ?_ ?_
    rotate_left
    · intro w'
      go_simp
      with_reducible rfl
    rotate_left
    · simp only [Act.put, List.setIfInBounds_toArray, List.set_cons_zero, List.set_cons_succ, i64_w, i32_w]
      rfl
    refine pure_ (i := 4) (N := some 58) (v := ?_) (a' := ?_) #[true, true, true, true, true, false, false, false, false, false, false, false, false] rfl rfl (any_of HT_.out (by kernel_rfl)) (fun _ _ _ h => h) (Or.inl ⟨by rfl, ?_⟩) ?_ ?_
    rotate_left
    · intro w'
      go_simp
      with_reducible rfl
    rotate_left
    · simp only [Act.put, List.setIfInBounds_toArray, List.set_cons_zero, List.set_cons_succ, i64_w, i32_w]
      rfl
    refine take_ (i := 6) (N := some 60) (v := ?_) (a' := ?_) #[true, true, true, true, true, false, true, false, false, false, false, false, false] rfl rfl (take_ofW HT_.out HW_.out (by kernel_rfl)) (fun _ _ _ h => h) (Or.inl ⟨by rfl, ?_⟩) hHeld ?_ ?_
    rotate_left
    · rintro w' ⟨s0, s1, s2, s3, s4, s5, s6, s7, s8⟩
      go_simp
      with_reducible rfl
    rotate_left
    · simp only [Act.put, List.setIfInBounds_toArray, List.set_cons_zero, List.set_cons_succ, i64_w, i32_w]
      rfl
    refine one_ (i := 5) (N := some 59) #[true, true, true, true, true, true, true, false, false, false, false, false, false] rfl rfl (one_of HT_.out (by kernel_rfl)) (by decide) (fun K hK => ?_)
    refine goes_ Try.func25 (by kernel_rfl) rfl #[ptrV g] (by rfl) rfl rfl (by simp only [List.map_toArray, List.map_cons, List.map_nil]; rfl) ?_
    with_reducible refine (look_calls HE2.out.d).mono ?_
    rintro e w17 ⟨d0, d1, d2, rfl, hs, hb⟩
    refine ⟨_, rfl, ?_⟩
    rw [← HSY.out] at hs
    obtain ⟨D0, y0, D1, y1, D2, y2, rfl, rfl, rfl⟩ := hs.reads.shape
    have HS17 := Aside0.mk hs.reads
    have HE3 := Aside0.mk (HE2.out.below hb)
    clear hb hs
    refine hK.out _ _ ⟨(blk_cell HE3.out.ba 0).trans rfl, (blk_cell HE3.out.ba 1).trans rfl, (blk_cell HE3.out.ba 2).trans rfl, (blk_cell HE3.out.bb 0).trans rfl, (blk_cell HE3.out.bb 1).trans rfl, (blk_cell HE3.out.bb 2).trans rfl, (blk_cell HE3.out.bd 0).trans rfl, (blk_cell HE3.out.bd 1).trans rfl, (blk_cell HE3.out.bd 2).trans rfl⟩ (fun hHeld => ?_)
    clear hK K
    refine norm_ (a' := ?_) ?_ ?_
    rotate_left
    · show Act.put _ (some 59) _ = _
      simp only [Act.put, List.setIfInBounds_toArray, List.set_cons_zero, List.set_cons_succ, i64_w, i32_w]
      rfl
    refine one_ (i := 7) (N := some 61) #[true, true, true, true, true, true, true, true, false, false, false, false, false] rfl rfl (one_of HT_.out (by kernel_rfl)) (by decide) (fun K hK => ?_)
    refine goes_ Try.func27 (by kernel_rfl) rfl #[.agg #[.slice D0 sy.names.length y0, .slice D1 sy.works.length y1, .slice D2 sy.bytes.length y2], .agg #[.slice C0 sy.names.length z0, .slice C1 sy.works.length z1, .slice C2 sy.bytes.length z2]] (by rfl) rfl rfl (by simp only [List.map_toArray, List.map_cons, List.map_nil]; rfl) ?_
    with_reducible refine (is_calls HS17.out HE3.out.t HSB2.out.2.1 ⟨HSB2.out.1.1, HSB2.out.1.2.1⟩).mono ?_
    rintro e w18 ⟨rfl, hb⟩
    refine ⟨_, rfl, ?_⟩
    have HE4 := Aside0.mk (HE3.out.below hb)
    clear hb
    refine hK.out _ _ ⟨(blk_cell HE4.out.ba 0).trans rfl, (blk_cell HE4.out.ba 1).trans rfl, (blk_cell HE4.out.ba 2).trans rfl, (blk_cell HE4.out.bb 0).trans rfl, (blk_cell HE4.out.bb 1).trans rfl, (blk_cell HE4.out.bb 2).trans rfl, (blk_cell HE4.out.bd 0).trans rfl, (blk_cell HE4.out.bd 1).trans rfl, (blk_cell HE4.out.bd 2).trans rfl⟩ (fun hHeld => ?_)
    clear hK K
    refine norm_ (a' := ?_) ?_ ?_
    rotate_left
    · show Act.put _ (some 61) _ = _
      simp only [Act.put, List.setIfInBounds_toArray, List.set_cons_zero, List.set_cons_succ, i64_w, i32_w]
      rfl
    refine pure_ (i := 8) (N := some 62) (v := ?_) (a' := ?_) #[true, true, true, true, true, true, true, true, true, false, false, false, false] rfl rfl (any_of HT_.out (by kernel_rfl)) (fun _ _ _ h => h) (Or.inl ⟨by rfl, ?_⟩) ?_ ?_
    rotate_left
    · intro w'
      go_simp
      with_reducible rfl
    rotate_left
    · simp only [Act.put, List.setIfInBounds_toArray, List.set_cons_zero, List.set_cons_succ, i64_w, i32_w]
      rfl
    refine pure_ (i := 9) (N := some 63) (v := ?_) (a' := ?_) #[true, true, true, true, true, true, true, true, true, true, false, false, false] rfl rfl (any_of HT_.out (by kernel_rfl)) (fun _ _ _ h => h) (Or.inl ⟨by rfl, ?_⟩) ?_ ?_
    rotate_left
    · intro w'
      go_simp
      with_reducible rfl
    rotate_left
    · simp only [Act.put, List.setIfInBounds_toArray, List.set_cons_zero, List.set_cons_succ, i64_w, i32_w]
      rfl
    refine one_ (i := 10) (N := some 64) #[true, true, true, true, true, true, true, true, true, true, true, false, false] rfl rfl (one_of HT_.out (by kernel_rfl)) (by decide) (fun K hK => ?_)
    refine goes_ Try.func15 (by kernel_rfl) rfl #[] (by rfl) rfl rfl (by simp only [List.map_toArray, List.map_cons, List.map_nil]) ?_
    with_reducible refine (alive_calls w18).mono ?_
    rintro e w19 ⟨rfl, hb⟩
    refine ⟨_, rfl, ?_⟩
    have HE5 := Aside0.mk (HE4.out.below hb)
    clear hb
    refine hK.out _ _ ⟨(blk_cell HE5.out.ba 0).trans rfl, (blk_cell HE5.out.ba 1).trans rfl, (blk_cell HE5.out.ba 2).trans rfl, (blk_cell HE5.out.bb 0).trans rfl, (blk_cell HE5.out.bb 1).trans rfl, (blk_cell HE5.out.bb 2).trans rfl, (blk_cell HE5.out.bd 0).trans rfl, (blk_cell HE5.out.bd 1).trans rfl, (blk_cell HE5.out.bd 2).trans rfl⟩ (fun hHeld => ?_)
    clear hK K
    refine norm_ (a' := ?_) ?_ ?_
    rotate_left
    · show Act.put _ (some 64) _ = _
      simp only [Act.put, List.setIfInBounds_toArray, List.set_cons_zero, List.set_cons_succ, i64_w, i32_w]
      rfl
    refine pure_ (i := 11) (N := some 65) (v := ?_) (a' := ?_) #[true, true, true, true, true, true, true, true, true, true, true, true, false] rfl rfl (any_of HT_.out (by kernel_rfl)) (fun _ _ _ h => h) (Or.inl ⟨by rfl, ?_⟩) ?_ ?_
    rotate_left
    · intro w'
      go_simp
      with_reducible rfl
    rotate_left
    · simp only [Act.put, List.setIfInBounds_toArray, List.set_cons_zero, List.set_cons_succ, i64_w, i32_w]
      rfl
    refine pure_ (i := 12) (N := some 8) (v := ?_) (a' := ?_) #[true, true, true, true, true, true, true, true, true, true, true, true, true] rfl rfl (any_of HT_.out (by kernel_rfl)) (fun _ _ _ h => h) (Or.inl ⟨by rfl, ?_⟩) ?_ ?_
    rotate_left
    · intro w'
      go_simp
      with_reducible rfl
    rotate_left
    · simp only [Act.put, List.setIfInBounds_toArray, List.set_cons_zero, List.set_cons_succ, i64_w, i32_w]
      rfl
    refine done_ (done_of HT_.out (by kernel_rfl)) ?_
    go_wp2_with fail
    go_ret
    exact ⟨rfl, HE5.out.bl⟩
end
end Go.Proofs.Ytnegcjgolaakcaa
