/- The disk's calls, as a law with held memory uses them: what lies in S stays. -/
import Derived.Test.YtnegcjgolaakcaaDR
import Derived.Sort.Walk0
import Derived.Laws.Cover1
namespace Go.Proofs.Ytnegcjgolaakcaa
open Go.RowKit Go.Maps
open Go.Proofs.YtnegcjgolaakcaaW.PrintWords Go.Proofs.YtnegcjgolaakcaaW.PrintLast Go.Proofs.YtnegcjgolaakcaaW.PrintMore
set_option linter.unusedVariables false
set_option linter.unusedSimpArgs false
/-- a disk, all of whose blocks have come since B, and apart from what is held -/
structure Lx (S : Nat → Prop) (w0 : World) (B T : Nat) (w : World) (g : Nat) (s : DS) : Prop where
  at' : ∃ base ok nb fb v ad, B ≤ base ∧ (∀ k, ok k → ¬ S k) ∧ DiskAt w g s base ok nb fb v ad
  old : ∀ k, S k → k < w0.heap.size
  ge : w0.heap.size ≤ w.heap.size
  keep : ∀ k, S k → w.heap[k]? = w0.heap[k]?
  inv : s.Inv T
  le : T ≤ 1073741824
section
variable {w w0 w1 w' : World} {g B T T' : Nat} {s s' : DS} {S S' : Nat → Prop}
theorem Lw.hold (h : Lw B T w g s) : Lx (fun _ => False) w B T w g s := by
  obtain ⟨⟨base, ok, nb, fb, v, ad, h1, h2⟩, h3, h4⟩ := h
  exact ⟨⟨base, ok, nb, fb, v, ad, h1, fun _ _ h => h, h2⟩, fun _ h => h.elim, Nat.le_refl _, fun _ h => h.elim, h3, h4⟩
theorem Lx.lw (h : Lx S w0 B T w g s) : Lw B T w g s := by
  obtain ⟨⟨base, ok, nb, fb, v, ad, h1, h2, h3⟩, _, _, _, h4, h5⟩ := h
  exact ⟨⟨base, ok, nb, fb, v, ad, h1, h3⟩, h4, h5⟩
theorem Lx.anchor (h : Lx S w0 B T w g s) : Lx S w B T w g s := ⟨h.at', fun k hk => Nat.lt_of_lt_of_le (h.old k hk) h.ge, Nat.le_refl _, fun _ _ => rfl, h.inv, h.le⟩
theorem Lx.below (h : Lx S w0 B T w g s) (hb : Below w.heap.size w w') : Lx S w0 B T w' g s := by
  obtain ⟨⟨base, ok, nb, fb, v, ad, h1, h2, h3⟩, a1, a2, a3, h4, h5⟩ := h
  exact ⟨⟨base, ok, nb, fb, v, ad, h1, h2, h3.below hb⟩, a1, Nat.le_trans a2 hb.size, fun k hk => (hb.block k (Nat.lt_of_lt_of_le (a1 k hk) a2)).trans (a3 k hk), h4, h5⟩
theorem Lx.size (h : Lx S w0 B T w g s) : B ≤ w.heap.size := h.lw.size
theorem Lx.more (h : Lx S w0 B T w g s) (ht : T ≤ T') (h2 : T' ≤ 1073741824) : Lx S w0 B T' w g s := ⟨h.at', h.old, h.ge, h.keep, Inv.mono h.inv ht, h2⟩
/-- what has come since is held too -/
theorem Lx.hold (h : Lx S w0 B T w g s) (hb : Below w.heap.size w w') : Lx (fun k => S k ∨ (w.heap.size ≤ k ∧ k < w'.heap.size)) w' B T w' g s := by
  obtain ⟨⟨base, ok, nb, fb, v, ad, h1, h2, h3⟩, a1, a2, a3, h4, h5⟩ := h
  refine ⟨⟨base, _, nb, fb, v, ad, h1, ?_, h3.bound.below hb⟩, ?_, Nat.le_refl _, fun _ _ => rfl, h4, h5⟩
  · rintro k ⟨hk1, hk2, hk3⟩ (hk | hk)
    · exact h2 k hk1 hk
    · omega
  · rintro k (hk | hk)
    · exact Nat.lt_of_lt_of_le (Nat.lt_of_lt_of_le (a1 k hk) a2) hb.size
    · exact hk.2
theorem Lx.less (h : Lx S w0 B T w g s) (hS : ∀ k, S' k → S k) : Lx S' w0 B T w g s := by
  obtain ⟨⟨base, ok, nb, fb, v, ad, h1, h2, h3⟩, a1, a2, a3, h4, h5⟩ := h
  exact ⟨⟨base, ok, nb, fb, v, ad, h1, fun k hk hs => h2 k hk (hS k hs), h3⟩, fun k hk => a1 k (hS k hk), a2, fun k hk => a3 k (hS k hk), h4, h5⟩
/-- a held row stays -/
theorem Lx.row {α : Type} {d : Kd α} {e base : Nat} {v : Value} {xs : List α} (h : Lx S w0 B T w g s) (hr : d.R e w0 base S v xs) : d.R e w base S v xs := Kd.R_step hr (fun k hk _ => h.keep k hk)
/-- what a call leaves -/
def LxPost (S : Nat → Prop) (w0 : World) (B T lo : Nat) (w1 : World) (g : Nat) (r : Int × DS) (e : Ending) (w2 : World) : Prop := e = .returned (.int .i64 r.1) ∧ Lx S w0 B T w2 g r.2 ∧ Fr (Mine B lo w1.heap.size) w1 w2
def MineX (S : Nat → Prop) (B lo hi : Nat) (k : Nat) : Prop := Mine B lo hi k ∧ ¬ S k
theorem lx_mine (h : Lx S w0 B T w g s) (hb : Below w.heap.size w w1) : ∃ base nb fb v ad, B ≤ base ∧ DiskAt w1 g s base (MineX S B w.heap.size w1.heap.size) nb fb v ad := by
  obtain ⟨⟨base, ok, nb, fb, v, ad, h1, h2, h3⟩, a1, a2, a3, h4, h5⟩ := h
  exact ⟨base, nb, fb, v, ad, h1, (h3.bound.below hb).mono (fun k hk => ⟨⟨Nat.le_trans h1 hk.2.1, .inl hk.2.2⟩, h2 k hk.1⟩)⟩
theorem lx_fresh (h : Lx S w0 B T w g s) (hb : Below w.heap.size w w1) (k : Nat) (hk : w1.heap.size ≤ k) : MineX S B w.heap.size w1.heap.size k := by
  refine ⟨mine_fresh (Nat.le_trans h.size hb.size) k hk, fun hs => ?_⟩
  have h1 := h.old k hs
  have h2 := h.ge
  have h3 := hb.size
  omega
theorem lx_after {w2 : World} {base nb fb : Nat} {v : Value} {ad : List Nat} (h : Lx S w0 B T w g s) (hb : Below w.heap.size w w1) (hB : B ≤ base) (hd : DiskAt w2 g s' base (MineX S B w.heap.size w1.heap.size) nb fb v ad) (hf : Fr (MineX S B w.heap.size w1.heap.size) w1 w2) (hi : s'.Inv T') (hT : T' ≤ 1073741824) : Lx S w0 B T' w2 g s' := by
  refine ⟨⟨base, _, nb, fb, v, ad, hB, fun k hk => hk.2, hd⟩, h.old, Nat.le_trans h.ge (Nat.le_trans hb.size hf.size), fun k hk => ?_, hi, hT⟩
  have h1 := h.old k hk
  have h2 := h.ge
  have h3 := hb.size
  have h4 : w2.heap[k]? = w1.heap[k]? := hf.block k (by omega) (fun hm => hm.2 hk)
  rw [h4, hb.block k (by omega), h.keep k hk]
theorem lx_put {f : FuncId} {act : Int × DS} (args : Array Value) (h : Lx S w0 B T w g s) (hb : Below w.heap.size w w1) (hT : T' ≤ 1073741824) (hi : act.2.Inv T')
    (hc : ∀ base nb fb v ad, DiskAt w1 g s base (MineX S B w.heap.size w1.heap.size) nb fb v ad → (∀ k, w1.heap.size ≤ k → MineX S B w.heap.size w1.heap.size k) → Calls Try.prog f args w1 (DiskPost w1 g base (MineX S B w.heap.size w1.heap.size) nb fb act)) :
    Calls Try.prog f args w1 (LxPost S w0 B T' w.heap.size w1 g act) := by
  obtain ⟨base, nb, fb, v, ad, h1, h2⟩ := lx_mine h hb
  refine (hc base nb fb v ad h2 (lx_fresh h hb)).mono ?_
  rintro e w2 ⟨rfl, ⟨v', ad', hd⟩, hf⟩
  exact ⟨rfl, lx_after h hb h1 hd hf hi hT, hf.mono (fun k hk => hk.1)⟩
theorem lx_write (n : ByteArray) (b : List Int) (A : Option Addr) (c : Nat) (h : Lx S w0 B T w g s) (hb : Below w.heap.size w w1) (hT : T + 2 + b.length ≤ 1073741824) (hs : n.size ≤ maxLen) (hc : b.length ≤ c) (hC : bK.C w1 A b.length b) (hA : ∀ a, A = some a → ¬ Mine B w.heap.size w1.heap.size a.block) :
    Calls Try.prog 12 #[ptrV g, .string n, .slice A b.length c] w1 (LxPost S w0 B (T + 2 + b.length) w.heap.size w1 g (s.Write n b)) :=
  lx_put _ h hb hT (Inv.Write h.inv n b) (fun base nb fb v ad hd hfr => write_calls n b A c hd h.inv h.le hfr hs (by omega) hc (fun W' hW => C_fr hC (fun a ha hm => hA a ha hm.1) hW))
theorem lx_append (n : ByteArray) (b : List Int) (A : Option Addr) (c : Nat) (h : Lx S w0 B T w g s) (hb : Below w.heap.size w w1) (hT : T + 2 + b.length ≤ 1073741824) (hs : n.size ≤ maxLen) (hc : b.length ≤ c) (hC : bK.C w1 A b.length b) (hA : ∀ a, A = some a → ¬ Mine B w.heap.size w1.heap.size a.block) :
    Calls Try.prog 17 #[ptrV g, .string n, .slice A b.length c] w1 (LxPost S w0 B (T + 2 + b.length) w.heap.size w1 g (s.Append n b)) :=
  lx_put _ h hb hT (Inv.Append h.inv n b) (fun base nb fb v ad hd hfr => append_calls n b A c hd h.inv h.le hfr hs (by omega) hc (fun W' hW => C_fr hC (fun a ha hm => hA a ha hm.1) hW))
theorem lx_flush (n : ByteArray) (h : Lx S w0 B T w g s) (hs : n.size ≤ maxLen) : Calls Try.prog 18 #[ptrV g, .string n] w (LxPost S w0 B T w.heap.size w g (s.Flush n)) :=
  lx_put _ h (Below.refl _ _) h.le (Inv.Flush h.inv n) (fun base nb fb v ad hd hfr => flush_calls n hd h.inv h.le hfr hs)
theorem lx_rename (a b : ByteArray) (h : Lx S w0 B T w g s) (hT : T + 1 ≤ 1073741824) (ha : a.size ≤ maxLen) (hb : b.size ≤ maxLen) : Calls Try.prog 13 #[ptrV g, .string a, .string b] w (LxPost S w0 B (T + 1) w.heap.size w g (s.Rename a b)) :=
  lx_put _ h (Below.refl _ _) hT (Inv.Rename h.inv a b) (fun base nb fb v ad hd hfr => rename_calls a b hd h.inv h.le hfr ha hb)
theorem lx_remove (n : ByteArray) (h : Lx S w0 B T w g s) (hT : T + 1 ≤ 1073741824) (hs : n.size ≤ maxLen) : Calls Try.prog 14 #[ptrV g, .string n] w (LxPost S w0 B (T + 1) w.heap.size w g (s.Remove n)) :=
  lx_put _ h (Below.refl _ _) hT (Inv.Remove h.inv n) (fun base nb fb v ad hd hfr => remove_calls n hd h.inv h.le hfr hs)
theorem lx_sync (h : Lx S w0 B T w g s) : Calls Try.prog 20 #[ptrV g] w (LxPost S w0 B T w.heap.size w g s.Sync) :=
  lx_put _ h (Below.refl _ _) h.le (Inv.Sync h.inv) (fun base nb fb v ad hd hfr => sync_calls hd h.inv h.le hfr)
theorem lx_fuse (n : Int) (h : Lx S w0 B T w g s) (hn : n ≤ 9223372036854775807) : Calls Try.prog 19 #[ptrV g, .int .i64 n] w (LxPost S w0 B T w.heap.size w g (s.fuse n)) := by
  obtain ⟨base, nb, fb, v, ad, h1, h2⟩ := lx_mine h (Below.refl _ _)
  refine (fuse_calls h2 n).mono ?_
  rintro e w2 ⟨rfl, hd2, hf⟩
  have hf' := hf.mono (S' := MineX S B w.heap.size w.heap.size) (fun k hk => by subst hk; exact h2.okg.1)
  exact ⟨rfl, lx_after h (Below.refl _ _) h1 hd2 hf' (Inv.fuse h.inv n hn) h.le, hf'.mono (fun k hk => hk.1)⟩
theorem lx_on (h : Lx S w0 B T w g s) : Calls Try.prog 21 #[ptrV g] w fun e w' => e = .returned (.bool (!s.off)) ∧ w' = w := lw_on h.lw
theorem lx_crash (keep : List Int) (K : Option Addr) (kc : Nat) (h : Lx S w0 B T w g s) (hb : Below w.heap.size w w1) (hk : ∀ x ∈ keep, x ≤ 9223372036854775807) (hC : (Kd.int .i64).C w1 K keep.length keep) (hA : ∀ a, K = some a → ¬ Mine B w.heap.size w1.heap.size a.block) :
    Calls Try.prog 22 #[ptrV g, .slice K keep.length kc] w1 fun e w2 => e = .returned (.tuple #[]) ∧ Lx S w0 B T w2 g (s.crash keep) ∧ Fr (Mine B w.heap.size w1.heap.size) w1 w2 := by
  obtain ⟨base, nb, fb, v, ad, h1, h2⟩ := lx_mine h hb
  refine (crash_calls keep K kc h2 h.inv h.le (lx_fresh h hb) hk (fun W' hW => C_fr hC (fun a ha hm => hA a ha hm.1) hW)).mono ?_
  rintro e w2 ⟨rfl, ⟨nb', v', ad', hd⟩, hf⟩
  exact ⟨rfl, lx_after h hb h1 hd hf (Inv.crash h.inv keep) h.le, hf.mono (fun k hk => hk.1)⟩
theorem lx_read (n : ByteArray) (h : Lx S w0 B T w g s) (hs : n.size ≤ maxLen) : Calls Try.prog 16 #[ptrV g, .string n] w (ReadPost w (s.read n)) := lw_read n h.lw hs
theorem lx_pend (h : Lx S w0 B T w g s) : Calls Try.prog 31 #[ptrV g] w fun e w' => ∃ A c, e = .returned (.slice A s.works.length c) ∧ pendK.R 74 w' w.heap.size (fun _ => True) (.slice A s.works.length c) (s.works.map pendOf) ∧ Below w.heap.size w w' := lw_pend h.lw
theorem lx_list (h : Lx S w0 B T w g s) : Calls Try.prog 29 #[ptrV g] w fun e w' => ∃ A c, e = .returned (.slice A (listV s).length c) ∧ Kd.string.R 9 w' w.heap.size (fun _ => True) (.slice A (listV s).length c) (listV s) ∧ Below w.heap.size w w' := lw_list h.lw
/-- a row that has come, held -/
theorem row_hold {α : Type} {d : Kd α} {e : Nat} {v : Value} {xs : List α} {lo : Nat} {ok : Nat → Prop} (hr : d.R e w' lo ok v xs) : d.R e w' lo (fun k => S k ∨ (lo ≤ k ∧ k < w'.heap.size)) v xs := by
  refine Kd.R_mono (Kd.R_bound hr) (fun k hk => ?_)
  exact .inr ⟨hk.2.1, hk.2.2.1⟩
end
end Go.Proofs.Ytnegcjgolaakcaa

/- Plain: what is fast, and what is pending behind it, is what there is. -/
namespace Go.Proofs.Ytnegcjgolaakcaa
open Pbulk (S62)
set_option linter.unusedVariables false
set_option linter.unusedSimpArgs false
/-- bytes behind the works of a file -/
def byteW (i : Nat) (o : List Int) (w : PW) : List Int := if DS.ofBytes i w = true then (if w.kind = 1 then [] else o) ++ w.b else o
theorem byteW_no {i : Nat} {o : List Int} {w : PW} (h : DS.ofBytes i w = false) : byteW i o w = o := by unfold byteW; rw [h, if_neg (by decide)]
theorem byteW_yes {i : Nat} {o : List Int} {w : PW} (h : DS.ofBytes i w = true) : byteW i o w = (if w.kind = 1 then [] else o) ++ w.b := by unfold byteW; rw [if_pos h]
def pendB (ws : List PW) (i : Nat) (o : List Int) : List Int := ws.foldl (byteW i) o
/-- fast names behind a work -/
def nameW (L : List ByteArray) (w : PW) : List ByteArray := if w.kind = 3 then (L.map (fun x => if x = w.tgt then nameless else x)).set w.file w.tgt else if w.kind = 4 then (if (L[w.file]?).getD nameless = w.nm then L.set w.file nameless else L) else L
def pendN (ws : List PW) (L : List ByteArray) : List ByteArray := ws.foldl nameW L
/-- what is fast, and what is pending behind it, is what there is -/
structure Whole (s : DS) : Prop where
  bs : ∀ i, i < s.files.length → pendB s.works i (s.oldAt i) = s.nowAt i
  ns : pendN s.works s.fsL = s.nmL
theorem pendB_append (a b : List PW) (i : Nat) (o : List Int) : pendB (a ++ b) i o = pendB b i (pendB a i o) := List.foldl_append
theorem pendN_append (a b : List PW) (L : List ByteArray) : pendN (a ++ b) L = pendN b (pendN a L) := List.foldl_append
theorem pendB_filter (p : PW → Bool) (i : Nat) : ∀ (ws : List PW) (o : List Int), (∀ w ∈ ws, p w = false → DS.ofBytes i w = false) → pendB (ws.filter p) i o = pendB ws i o
  | [], o, _ => rfl
  | w :: ws, o, h => by
    have ih := fun o => pendB_filter p i ws o (fun v hv => h v (List.mem_cons_of_mem _ hv))
    unfold pendB at ih ⊢
    rw [List.filter_cons, List.foldl_cons]
    cases hp : p w with
    | true => rw [if_pos rfl, List.foldl_cons]; exact ih _
    | false =>
      have e : byteW i o w = o := by unfold byteW; rw [h w List.mem_cons_self hp, if_neg (by decide)]
      rw [if_neg (by decide), e]
      exact ih _
theorem pendB_none (i : Nat) : ∀ (ws : List PW) (o : List Int), (∀ w ∈ ws, DS.ofBytes i w = false) → pendB ws i o = o
  | [], o, _ => rfl
  | w :: ws, o, h => by
    have e : byteW i o w = o := by unfold byteW; rw [h w List.mem_cons_self, if_neg (by decide)]
    show pendB ws i (byteW i o w) = o
    rw [e]
    exact pendB_none i ws o (fun v hv => h v (List.mem_cons_of_mem _ hv))
theorem nameW_id {L : List ByteArray} {w : PW} (h3 : w.kind ≠ 3) (h4 : w.kind ≠ 4) : nameW L w = L := by unfold nameW; rw [if_neg h3, if_neg h4]
theorem pendN_filter (p : PW → Bool) : ∀ (ws : List PW) (L : List ByteArray), (∀ w ∈ ws, p w = false → w.kind ≠ 3 ∧ w.kind ≠ 4) → pendN (ws.filter p) L = pendN ws L
  | [], L, _ => rfl
  | w :: ws, L, h => by
    have ih := fun L => pendN_filter p ws L (fun v hv => h v (List.mem_cons_of_mem _ hv))
    unfold pendN at ih ⊢
    rw [List.filter_cons, List.foldl_cons]
    cases hp : p w with
    | true => rw [if_pos rfl, List.foldl_cons]; exact ih _
    | false =>
      rw [if_neg (by decide), nameW_id (h w List.mem_cons_self hp).1 (h w List.mem_cons_self hp).2]
      exact ih _
theorem pendN_none : ∀ (ws : List PW) (L : List ByteArray), (∀ w ∈ ws, w.kind ≠ 3 ∧ w.kind ≠ 4) → pendN ws L = L
  | [], L, _ => rfl
  | w :: ws, L, h => by
    show pendN ws (nameW L w) = L
    rw [nameW_id (h w List.mem_cons_self).1 (h w List.mem_cons_self).2]
    exact pendN_none ws L (fun v hv => h v (List.mem_cons_of_mem _ hv))
section
variable {s s' : DS} {T : Nat}
/-- a work made fast in full -/
theorem work_fs (s : DS) (p : PW) (n : Nat) : (s.work p n).fsL = nameW s.fsL p := by
  unfold DS.work nameW
  split
  · unfold DS.fsL
    rw [map_modify_set _ _ (fun f : PF => { f with fast := p.tgt }) PF.fast p.tgt (fun _ => rfl), List.map_map, List.map_map]
    congr 1
    refine List.map_congr_left (fun f _ => ?_)
    show (if f.fast = p.tgt then ({ f with fast := nameless } : PF) else f).fast = if f.fast = p.tgt then nameless else f.fast
    split <;> rfl
  · split
    · have e : (s.fsL[p.file]?).getD nameless = s.fastAt p.file := by unfold DS.fastAt DS.fsL; rw [List.getElem?_map]
      rw [e]
      split
      · exact DS.setFast_fs _ _ _
      · rfl
    · exact setOld_fs _ _ _
theorem work_nm (s : DS) (p : PW) (n : Nat) : (s.work p n).nmL = s.nmL := by
  unfold DS.work
  split
  · unfold DS.nmL
    rw [map_modify_same _ _ (fun f : PF => { f with fast := p.tgt }) PF.name (fun _ => rfl), List.map_map]
    refine List.map_congr_left (fun f _ => ?_)
    show (if f.fast = p.tgt then ({ f with fast := nameless } : PF) else f).name = f.name
    split <;> rfl
  · split
    · split
      · exact DS.setFast_nm _ _ _
      · rfl
    · exact setOld_nm _ _ _
def nowsL (s : DS) : List (List Int) := s.files.map PF.now
def oldsL (s : DS) : List (List Int) := s.files.map PF.old
theorem nowAt_L (s : DS) (i : Nat) : s.nowAt i = ((nowsL s)[i]?).getD [] := by unfold DS.nowAt nowsL; rw [List.getElem?_map]
theorem oldAt_L (s : DS) (i : Nat) : s.oldAt i = ((oldsL s)[i]?).getD [] := by unfold DS.oldAt oldsL; rw [List.getElem?_map]
theorem work_now (s : DS) (p : PW) (n : Nat) : nowsL (s.work p n) = nowsL s := by
  unfold DS.work
  split
  · unfold nowsL
    rw [map_modify_same _ _ (fun f : PF => { f with fast := p.tgt }) PF.now (fun _ => rfl), List.map_map]
    refine List.map_congr_left (fun f _ => ?_)
    show (if f.fast = p.tgt then ({ f with fast := nameless } : PF) else f).now = f.now
    split <;> rfl
  · split
    · split
      · exact map_modify_same s.files p.file (fun f => { f with fast := nameless }) _ (fun _ => rfl)
      · rfl
    · exact map_modify_same s.files p.file (fun f => { f with old := _ }) _ (fun _ => rfl)
theorem work_old (s : DS) (p : PW) (n : Nat) (hk : p.kind = 3 ∨ p.kind = 4) : oldsL (s.work p n) = oldsL s := by
  unfold DS.work
  split
  · unfold oldsL
    rw [map_modify_same _ _ (fun f : PF => { f with fast := p.tgt }) PF.old (fun _ => rfl), List.map_map]
    refine List.map_congr_left (fun f _ => ?_)
    show (if f.fast = p.tgt then ({ f with fast := nameless } : PF) else f).old = f.old
    split <;> rfl
  · rename_i h3
    rw [if_pos (hk.resolve_left h3)]
    split
    · exact map_modify_same s.files p.file (fun f => { f with fast := nameless }) _ (fun _ => rfl)
    · rfl
theorem work_oldAt (s : DS) (p : PW) (hp : WOk s.files.length p) (i : Nat) : (s.work p p.b.length).oldAt i = byteW i (s.oldAt i) p := by
  have hb : p.kind ≤ 2 → (s.work p p.b.length).oldAt i = byteW i (s.oldAt i) p := by
    intro hk2
    have e1 : s.work p p.b.length = s.setOld p.file ((if p.kind = 1 then [] else s.oldAt p.file) ++ p.b.take p.b.length) := by unfold DS.work; rw [if_neg (by omega), if_neg (by omega)]
    rw [e1, List.take_length]
    by_cases hi : p.file = i
    · subst hi
      have hB : DS.ofBytes p.file p = true := by unfold DS.ofBytes; exact decide_eq_true ⟨rfl, hk2⟩
      rw [byteW_yes hB]
      generalize (if p.kind = 1 then [] else s.oldAt p.file) ++ p.b = x
      unfold DS.oldAt DS.setOld
      rw [List.getElem?_modify, List.getElem?_eq_getElem hp.1]
      simp
    · have hB : DS.ofBytes i p = false := by unfold DS.ofBytes; exact decide_eq_false (fun h => hi h.1)
      rw [byteW_no hB]
      generalize (if p.kind = 1 then [] else s.oldAt p.file) ++ p.b = x
      unfold DS.oldAt DS.setOld
      rw [List.getElem?_modify]
      cases hx : s.files[i]? <;> simp [hi]
  rcases hp.2 with hk | hk | ⟨hk, _⟩ | ⟨hk, _⟩
  · exact hb (by omega)
  · exact hb (by omega)
  · rw [oldAt_L, work_old s p _ (.inl hk), ← oldAt_L]
    unfold byteW DS.ofBytes
    rw [if_neg (by simp [hk])]
  · rw [oldAt_L, work_old s p _ (.inr hk), ← oldAt_L]
    unfold byteW DS.ofBytes
    rw [if_neg (by simp [hk])]
/-- works made fast, one behind the other -/
theorem fold_all : ∀ (ws : List PW) (s : DS), (∀ w ∈ ws, WOk s.files.length w) → (ws.foldl (fun s w => s.work w w.b.length) s).fsL = pendN ws s.fsL ∧ (ws.foldl (fun s w => s.work w w.b.length) s).nmL = s.nmL ∧ nowsL (ws.foldl (fun s w => s.work w w.b.length) s) = nowsL s ∧ ∀ i, (ws.foldl (fun s w => s.work w w.b.length) s).oldAt i = pendB ws i (s.oldAt i)
  | [], s, _ => ⟨rfl, rfl, rfl, fun _ => rfl⟩
  | p :: ws, s, h => by
    obtain ⟨h1, h2, h3, h4⟩ := fold_all ws (s.work p p.b.length) (fun w hw => by rw [work_len]; exact h w (List.mem_cons_of_mem _ hw))
    refine ⟨h1.trans ?_, h2.trans (work_nm _ _ _), h3.trans (work_now _ _ _), fun i => (h4 i).trans ?_⟩
    · rw [work_fs]; rfl
    · rw [work_oldAt s p (h p List.mem_cons_self)]; rfl
theorem ofBytes_kind {k : Nat} {w : PW} (h : DS.ofBytes k w = true) : w.kind ≤ 2 ∧ w.file = k := by
  unfold DS.ofBytes at h
  simp only [decide_eq_true_eq] at h
  exact ⟨h.2, h.1⟩
theorem settle_all (hI : s.Inv T) (is : PW → Bool) : (s.settle is).fsL = pendN (s.works.filter is) s.fsL ∧ (s.settle is).nmL = s.nmL ∧ nowsL (s.settle is) = nowsL s ∧ (∀ i, (s.settle is).oldAt i = pendB (s.works.filter is) i (s.oldAt i)) ∧ (s.settle is).works = s.works.filter (fun w => !is w) ∧ (s.settle is).files.length = s.files.length := by
  obtain ⟨h1, h2, h3, h4⟩ := fold_all (s.works.filter is) s (fun w hw => (Inv_FI.1 hI).2.1 w (List.mem_filter.1 hw).1)
  exact ⟨h1, h2, h3, h4, rfl, (fold_works _ s).2⟩
theorem Whole.flushed (hW : Whole s) (hI : s.Inv T) (k : Nat) : Whole (s.settle (DS.ofBytes k)) := by
  obtain ⟨h1, h2, h3, h4, h5, h6⟩ := settle_all hI (DS.ofBytes k)
  refine ⟨fun i hi => ?_, ?_⟩
  · rw [h5, h4 i, nowAt_L, h3, ← nowAt_L, ← hW.bs i (by rw [← h6]; exact hi)]
    by_cases hik : i = k
    · subst hik
      rw [pendB_none i (s.works.filter (fun w => !DS.ofBytes i w)) _ (fun w hw => by have := (List.mem_filter.1 hw).2; simpa using this), pendB_filter _ i _ _ (fun w _ hp => hp)]
    · have hno : ∀ w, DS.ofBytes k w = true → DS.ofBytes i w = false := fun w hw => by
        have h := (ofBytes_kind hw).2
        unfold DS.ofBytes
        simp [h, Ne.symm hik]
      rw [pendB_none i (s.works.filter (DS.ofBytes k)) _ (fun w hw => hno w (List.mem_filter.1 hw).2), pendB_filter _ i _ _ (fun w _ hp => hno w (by simpa using hp))]
  · rw [h5, h1, h2, pendN_none (s.works.filter (DS.ofBytes k)) _ (fun w hw => by have := (ofBytes_kind (List.mem_filter.1 hw).2).1; omega), pendN_filter _ _ _ (fun w _ hp => by have := (ofBytes_kind (k := k) (w := w) (by simpa using hp)).1; omega)]
    exact hW.ns
theorem Whole.synced (hW : Whole s) (hI : s.Inv T) : Whole (s.settle DS.ofNames) := by
  obtain ⟨h1, h2, h3, h4, h5, h6⟩ := settle_all hI DS.ofNames
  have hnb : ∀ i w, DS.ofNames w = true → DS.ofBytes i w = false := fun i w hw => by
    unfold DS.ofNames at hw
    unfold DS.ofBytes
    simp only [decide_eq_true_eq] at hw
    simp only [decide_eq_false_iff_not]
    omega
  refine ⟨fun i hi => ?_, ?_⟩
  · rw [h5, h4 i, nowAt_L, h3, ← nowAt_L, ← hW.bs i (by rw [← h6]; exact hi)]
    rw [pendB_none i (s.works.filter DS.ofNames) _ (fun w hw => hnb i w (List.mem_filter.1 hw).2), pendB_filter _ i _ _ (fun w _ hp => hnb i w (by simpa using hp))]
  · have hnn : ∀ w : PW, DS.ofNames w = false → w.kind ≠ 3 ∧ w.kind ≠ 4 := fun w hw => by
      unfold DS.ofNames at hw
      simp only [decide_eq_false_iff_not] at hw
      omega
    rw [h5, h1, h2, pendN_none (s.works.filter (fun w => !DS.ofNames w)) _ (fun w hw => hnn w (by have := (List.mem_filter.1 hw).2; simpa using this)), pendN_filter _ _ _ (fun w _ hp => hnn w hp)]
    exact hW.ns
theorem Whole.head (hW : Whole s) (hf : s'.files = s.files) (hw : s'.works = s.works) : Whole s' := by
  have e1 : s'.fsL = s.fsL := by unfold DS.fsL; rw [hf]
  have e2 : s'.nmL = s.nmL := by unfold DS.nmL; rw [hf]
  have e3 : ∀ i, s'.oldAt i = s.oldAt i := fun i => by unfold DS.oldAt; rw [hf]
  have e4 : ∀ i, s'.nowAt i = s.nowAt i := fun i => by unfold DS.nowAt; rw [hf]
  exact ⟨fun i hi => by rw [hw, e3, e4]; exact hW.bs i (by rw [← hf]; exact hi), by rw [hw, e1, e2]; exact hW.ns⟩
theorem Whole.tick (hW : Whole s) : Whole s.tick := by
  unfold DS.tick
  split
  · exact hW.head rfl rfl
  · exact hW
theorem Whole.step (hW : Whole s) (ns : List ByteArray) (act : DS → Int × DS) (ha : ns.all namedV = true → Whole (act s).2) : Whole (s.step ns act).2 := by
  unfold DS.step
  split
  · rename_i hn
    split
    · exact hW
    · split
      · exact (ha hn).tick
      · exact ha hn
  · exact hW
theorem Whole.fuse (hW : Whole s) (n : Int) : Whole (s.fuse n).2 := by
  unfold DS.fuse
  split
  · exact hW
  · split
    · exact hW
    · exact hW.head rfl rfl
theorem Whole.crash (s : DS) (keep : List Int) : Whole (s.crash keep) := by
  have e : (s.crash keep).fsL = (s.crash keep).nmL := by
    unfold DS.fsL DS.nmL DS.crash
    rw [List.map_map, List.map_map]
    rfl
  refine ⟨fun i hi => ?_, e⟩
  show pendB [] i ((s.crash keep).oldAt i) = _
  show (s.crash keep).oldAt i = (s.crash keep).nowAt i
  unfold DS.oldAt DS.nowAt DS.crash
  dsimp only
  rw [List.getElem?_map]
  cases ((s.replay keep).files.filter (fun f => f.fast ≠ nameless))[i]? <;> rfl
theorem Whole.new (files bytes : Int) : Whole (DS.new files bytes) := ⟨fun i hi => absurd hi (Nat.not_lt_zero _), rfl⟩
end
section
variable {s s' : DS} {T : Nat}
theorem nameW_len (L : List ByteArray) (w : PW) : (nameW L w).length = L.length := by
  unfold nameW
  split
  · rw [List.length_set, List.length_map]
  · split
    · split
      · rw [List.length_set]
      · rfl
    · rfl
theorem pendN_len : ∀ (ws : List PW) (L : List ByteArray), (pendN ws L).length = L.length
  | [], L => rfl
  | w :: ws, L => (pendN_len ws (nameW L w)).trans (nameW_len L w)
theorem nameW_push {L : List ByteArray} {w : PW} (hw : w.file < L.length) : nameW (L ++ [nameless]) w = nameW L w ++ [nameless] := by
  unfold nameW
  split
  · rw [List.map_append, List.set_append_left _ _ (by rw [List.length_map]; exact hw)]
    simp
  · split
    · rw [List.getElem?_append_left hw]
      split
      · rw [List.set_append_left _ _ hw]
      · rfl
    · rfl
theorem pendN_push : ∀ (ws : List PW) (L : List ByteArray), (∀ w ∈ ws, w.file < L.length) → pendN ws (L ++ [nameless]) = pendN ws L ++ [nameless]
  | [], L, _ => rfl
  | w :: ws, L, h => by
    show pendN ws (nameW (L ++ [nameless]) w) = pendN ws (nameW L w) ++ [nameless]
    rw [nameW_push (h w List.mem_cons_self)]
    exact pendN_push ws (nameW L w) (fun v hv => by rw [nameW_len]; exact h v (List.mem_cons_of_mem _ hv))
theorem give_map' {L : List ByteArray} (h : UL L) (i : Nat) {t : ByteArray} (ht : t ≠ nameless) : giveL L i t = (L.map (fun x => if x = t then nameless else x)).set i t := by
  apply List.ext_getElem?
  intro j
  have e0 : ((L.map (fun x => if x = t then nameless else x)).set i t)[j]? = if i = j then (if i < (L.map (fun x => if x = t then nameless else x)).length then some t else none) else (L.map (fun x => if x = t then nameless else x))[j]? := List.getElem?_set
  rw [give_get, e0, List.length_map]
  by_cases hij : i = j
  · rw [if_pos hij, if_pos hij]
  · rw [if_neg hij, if_neg hij, List.getElem?_map]
    cases hf : idxL L t with
    | none =>
      show L[j]? = _
      cases hx : L[j]? with
      | none => rfl
      | some x =>
        have hxt : ¬ x = t := by
          rintro rfl
          exact idxL_none.1 hf (List.mem_of_getElem? hx)
        rw [Option.map_some, if_neg hxt]
    | some k =>
      show (L.set k nameless)[j]? = _
      have hk := idxL_some hf
      have hkl := (List.getElem?_eq_some_iff.1 hk).1
      rw [List.getElem?_set]
      by_cases hkj : k = j
      · subst hkj
        rw [if_pos rfl, if_pos hkl, hk, Option.map_some, if_pos rfl]
      · rw [if_neg hkj]
        cases hx : L[j]? with
        | none => rfl
        | some x =>
          have hxt : ¬ x = t := by
            rintro rfl
            exact hkj (UL_at h hk hx ht)
          rw [Option.map_some, if_neg hxt]
theorem ofB_name {k i : Nat} {w : PW} (h : 3 ≤ w.kind) : DS.ofBytes i w = false := by
  unfold DS.ofBytes
  exact decide_eq_false (fun h2 => by omega)
/-- one more work of names -/
theorem Whole.named (hW : Whole s) {p : PW} (hk : 3 ≤ p.kind) (hl : s'.files.length = s.files.length) (ho : ∀ i, s'.oldAt i = s.oldAt i) (hn : ∀ i, s'.nowAt i = s.nowAt i) (hf : s'.fsL = s.fsL) (hw : s'.works = s.works ++ [p]) (hnm : nameW s.nmL p = s'.nmL) : Whole s' := by
  refine ⟨fun i hi => ?_, ?_⟩
  · rw [hw, pendB_append, ho, hW.bs i (by rw [← hl]; exact hi), hn]
    exact byteW_no (ofB_name (k := 0) hk)
  · rw [hw, pendN_append, hf, hW.ns]
    exact hnm
theorem rest_of {l l' : List PF} (h : l'.map (fun f => (f.fast, f.now, f.old)) = l.map (fun f => (f.fast, f.now, f.old))) : l'.map PF.now = l.map PF.now ∧ l'.map PF.old = l.map PF.old := by
  have h1 := congrArg (List.map (fun x : ByteArray × List Int × List Int => x.2.1)) h
  have h2 := congrArg (List.map (fun x : ByteArray × List Int × List Int => x.2.2)) h
  rw [List.map_map, List.map_map] at h1 h2
  exact ⟨h1, h2⟩
theorem Whole.rename (hW : Whole s) (hI : s.Inv T) {a b : ByteArray} (hb : namedV b = true) : Whole (s.rename a b).2 := by
  unfold DS.rename
  cases hf : s.find a with
  | none => exact hW
  | some i =>
    dsimp only
    split
    · exact hW
    have hr := rest_of (DS.give_rest s i b)
    show Whole ((s.give i b).add ⟨3, a, b, 0, i, []⟩)
    refine hW.named (p := ⟨3, a, b, 0, i, []⟩) (by show (3 : Int) ≤ 3; decide) ?_ ?_ ?_ (fst_of (DS.give_rest s i b)) ?_ ?_
    · have h0 := congrArg List.length (DS.give_rest s i b)
      rw [List.length_map, List.length_map] at h0
      exact h0
    · intro j
      rw [oldAt_L, oldAt_L]
      exact congrArg (fun l => (l[j]?).getD []) hr.2
    · intro j
      rw [nowAt_L, nowAt_L]
      exact congrArg (fun l => (l[j]?).getD []) hr.1
    · show (s.give i b).works ++ _ = _
      rw [DS.give_head]
    · show _ = (s.give i b).nmL
      rw [DS.give_nm, give_map' hI.nmU i (not_nameless hb)]
      unfold nameW
      rw [if_pos rfl]
theorem Whole.remove (hW : Whole s) {n : ByteArray} : Whole (s.remove n).2 := by
  unfold DS.remove
  cases hf : s.find n with
  | none => exact hW
  | some i =>
    have hr := rest_of (DS.setName_rest s i nameless)
    have hL : s.nmL[i]? = some n := idxL_some (by rw [← DS.find_L]; exact hf)
    refine hW.named (p := ⟨4, n, nameless, 0, i, []⟩) (by show (3 : Int) ≤ 4; decide) (List.length_modify _ _ _) ?_ ?_ (DS.setName_fs s i nameless) rfl ?_
    · intro j
      rw [oldAt_L, oldAt_L]
      exact congrArg (fun l => (l[j]?).getD []) hr.2
    · intro j
      rw [nowAt_L, nowAt_L]
      exact congrArg (fun l => (l[j]?).getD []) hr.1
    · show _ = (s.setName i nameless).nmL
      rw [DS.setName_nm]
      unfold nameW
      rw [if_neg (by show ¬ ((4 : Int) = 3); decide), if_pos rfl, hL, Option.getD_some, if_pos rfl]
theorem Whole.put (hW : Whole s) (hI : s.Inv T) (kind : Int) {n : ByteArray} (b : List Int) (hn : namedV n = true) (hk : kind = 1 ∨ kind = 2) : Whole (s.put kind n b).2 := by
  have hwf := hI.wf
  unfold DS.put
  split
  · exact hW
  have hk3 : kind ≠ 3 ∧ kind ≠ 4 := by omega
  cases hf : s.find n with
  | none =>
    have e1 : s.fresh n = { s with files := s.files ++ [⟨n, nameless, [], []⟩], works := s.works ++ [⟨3, nameless, n, 0, s.files.length, []⟩] } := by unfold DS.fresh; rw [hf]
    have e2 : s.spot n = s.files.length := by unfold DS.spot; rw [hf]; rfl
    have e3 : (s.fresh n).nowAt s.files.length = [] := by rw [e1]; unfold DS.nowAt; simp
    rw [e2, e3, e1]
    have hx : (if kind = 1 then ([] : List Int) else []) ++ b = b := by split <;> rfl
    rw [hx]
    have hnin : n ∉ s.nmL := by rw [← idxL_none, ← DS.find_L]; exact hf
    have hfl : ∀ j, ((s.files ++ [(⟨n, nameless, [], []⟩ : PF)]).modify s.files.length (fun f => { f with now := b }))[j]? = if j = s.files.length then some ⟨n, nameless, b, []⟩ else s.files[j]? := fun j => by
      rw [List.getElem?_modify]
      by_cases hj : s.files.length = j
      · subst hj; simp
      · rw [if_neg (fun h => hj h.symm)]
        by_cases hl : j < s.files.length
        · rw [List.getElem?_append_left hl]; cases s.files[j]? <;> simp [hj]
        · rw [List.getElem?_eq_none (by simp; omega), List.getElem?_eq_none (by omega)]; rfl
    refine ⟨fun i hi => ?_, ?_⟩
    · show pendB ((s.works ++ [_]) ++ [_]) i (((((s.files ++ [(⟨n, nameless, [], []⟩ : PF)]).modify s.files.length (fun f => { f with now := b }))[i]?).map PF.old).getD []) = ((((s.files ++ [(⟨n, nameless, [], []⟩ : PF)]).modify s.files.length (fun f => { f with now := b }))[i]?).map PF.now).getD []
      rw [hfl i, pendB_append, pendB_append]
      by_cases hil : i = s.files.length
      · subst hil
        rw [if_pos rfl]
        show byteW s.files.length (byteW s.files.length (pendB s.works s.files.length []) (⟨3, nameless, n, 0, s.files.length, []⟩ : PW)) (⟨kind, n, nameless, b.length, s.files.length, b⟩ : PW) = b
        rw [pendB_none _ s.works _ (fun w hw => by unfold DS.ofBytes; exact decide_eq_false (fun h => by have := hwf w hw; omega)), byteW_no (w := (⟨3, nameless, n, 0, s.files.length, []⟩ : PW)) (ofB_name (k := 0) (by show (3 : Int) ≤ 3; decide)), byteW_yes (w := (⟨kind, n, nameless, b.length, s.files.length, b⟩ : PW)) (by unfold DS.ofBytes; exact decide_eq_true ⟨rfl, by show kind ≤ 2; omega⟩)]
        exact hx
      · rw [if_neg hil]
        have hi' : i < s.files.length := by
          have h1 : i < ((s.files ++ [(⟨n, nameless, [], []⟩ : PF)]).modify s.files.length (fun f => { f with now := b })).length := hi
          rw [List.length_modify] at h1
          simp at h1
          omega
        have hb := hW.bs i hi'
        unfold DS.oldAt DS.nowAt at hb
        rw [hb]
        show byteW i (byteW i _ (⟨3, nameless, n, 0, s.files.length, []⟩ : PW)) (⟨kind, n, nameless, b.length, s.files.length, b⟩ : PW) = _
        rw [byteW_no (w := (⟨3, nameless, n, 0, s.files.length, []⟩ : PW)) (ofB_name (k := 0) (by show (3 : Int) ≤ 3; decide)), byteW_no (w := (⟨kind, n, nameless, b.length, s.files.length, b⟩ : PW)) (by unfold DS.ofBytes; exact decide_eq_false (fun h => hil h.1.symm))]
    · have ef : (((({ s with files := s.files ++ [⟨n, nameless, [], []⟩], works := s.works ++ [⟨3, nameless, n, 0, s.files.length, []⟩] } : DS)).setNow s.files.length b).add ⟨kind, n, nameless, b.length, s.files.length, b⟩).fsL = s.fsL ++ [nameless] := by
        show ((s.files ++ [(⟨n, nameless, [], []⟩ : PF)]).modify s.files.length (fun f => { f with now := b })).map PF.fast = _
        rw [map_modify_same _ _ (fun f : PF => { f with now := b }) PF.fast (fun _ => rfl)]
        simp [DS.fsL]
      have en : (((({ s with files := s.files ++ [⟨n, nameless, [], []⟩], works := s.works ++ [⟨3, nameless, n, 0, s.files.length, []⟩] } : DS)).setNow s.files.length b).add ⟨kind, n, nameless, b.length, s.files.length, b⟩).nmL = s.nmL ++ [n] := by
        show ((s.files ++ [(⟨n, nameless, [], []⟩ : PF)]).modify s.files.length (fun f => { f with now := b })).map PF.name = _
        rw [map_modify_same _ _ (fun f : PF => { f with now := b }) PF.name (fun _ => rfl)]
        simp [DS.nmL]
      have hlen : s.files.length = s.nmL.length := by simp [DS.nmL]
      rw [ef, en]
      show pendN ((s.works ++ [_]) ++ [_]) (s.fsL ++ [nameless]) = _
      rw [pendN_append, pendN_append, pendN_push _ _ (fun w hw => by have := hwf w hw; simpa [DS.fsL] using this), hW.ns]
      show nameW (nameW (s.nmL ++ [nameless]) (⟨3, nameless, n, 0, s.files.length, []⟩ : PW)) (⟨kind, n, nameless, b.length, s.files.length, b⟩ : PW) = _
      rw [nameW_id (w := ⟨kind, n, nameless, b.length, s.files.length, b⟩) hk3.1 hk3.2]
      unfold nameW
      rw [if_pos rfl]
      show ((s.nmL ++ [nameless]).map (fun x => if x = n then nameless else x)).set s.files.length n = s.nmL ++ [n]
      have hm : (s.nmL ++ [nameless]).map (fun x => if x = n then nameless else x) = s.nmL ++ [nameless] := by
        rw [List.map_append]
        congr 1
        · conv => rhs; rw [← List.map_id s.nmL]
          refine List.map_congr_left (fun x hx => ?_)
          have hxn : ¬ x = n := fun e => hnin (by rw [← e]; exact hx)
          rw [if_neg hxn]
          rfl
        · simp
      rw [hm, hlen, List.set_append_right _ _ (Nat.le_refl _)]
      simp
  | some i =>
    obtain ⟨f, hfi, _, hil⟩ := spot_find hf
    have e1 : s.fresh n = s := by unfold DS.fresh; rw [hf]
    have e2 : s.spot n = i := by unfold DS.spot; rw [hf]; rfl
    rw [e2, e1]
    refine ⟨fun j hj => ?_, ?_⟩
    · have hj' : j < s.files.length := by
        have h1 : j < (s.files.modify i (fun f => { f with now := (if kind = 1 then [] else s.nowAt i) ++ b })).length := hj
        rwa [List.length_modify] at h1
      have ho : ((s.setNow i ((if kind = 1 then [] else s.nowAt i) ++ b)).add ⟨kind, n, nameless, b.length, i, b⟩).oldAt j = s.oldAt j := by
        rw [oldAt_L, oldAt_L]
        exact congrArg (fun l => (l[j]?).getD []) (map_modify_same s.files i (fun g => { g with now := (if kind = 1 then [] else s.nowAt i) ++ b }) PF.old (fun _ => rfl))
      rw [ho]
      show pendB (s.works ++ [_]) j (s.oldAt j) = _
      rw [pendB_append, hW.bs j hj']
      show byteW j (s.nowAt j) _ = (((s.files.modify i (fun f => { f with now := (if kind = 1 then [] else s.nowAt i) ++ b }))[j]?).map PF.now).getD []
      rw [List.getElem?_modify]
      by_cases hij : i = j
      · subst hij
        rw [byteW_yes (by unfold DS.ofBytes; exact decide_eq_true ⟨rfl, by show kind ≤ 2; omega⟩), hfi]
        simp
      · rw [byteW_no (by unfold DS.ofBytes; exact decide_eq_false (fun h => hij h.1))]
        unfold DS.nowAt
        cases s.files[j]? <;> simp [hij]
    · show pendN (s.works ++ [_]) (s.setNow i _).fsL = (s.setNow i _).nmL
      have ef : ∀ x, (s.setNow i x).fsL = s.fsL := fun x => map_modify_same s.files i (fun g => { g with now := x }) _ (fun _ => rfl)
      rw [ef, setNow_nm, pendN_append, hW.ns]
      exact nameW_id hk3.1 hk3.2
theorem Whole.Write (hW : Whole s) (hI : s.Inv T) (n : ByteArray) (b : List Int) : Whole (s.Write n b).2 := hW.step _ _ (fun ha => hW.put hI 1 b (by simpa using ha) (.inl rfl))
theorem Whole.Append (hW : Whole s) (hI : s.Inv T) (n : ByteArray) (b : List Int) : Whole (s.Append n b).2 := hW.step _ _ (fun ha => hW.put hI 2 b (by simpa using ha) (.inr rfl))
theorem Whole.flush (hW : Whole s) (hI : s.Inv T) (n : ByteArray) : Whole (s.flush n).2 := by
  unfold DS.flush
  split
  · exact hW.flushed hI _
  · exact hW
theorem Whole.Flush (hW : Whole s) (hI : s.Inv T) (n : ByteArray) : Whole (s.Flush n).2 := hW.step _ _ (fun _ => hW.flush hI n)
theorem Whole.Rename (hW : Whole s) (hI : s.Inv T) (a b : ByteArray) : Whole (s.Rename a b).2 := hW.step _ _ (fun ha => hW.rename hI (by
  have hx : namedV a = true ∧ namedV b = true := by simpa using ha
  exact hx.2))
theorem Whole.Remove (hW : Whole s) (n : ByteArray) : Whole (s.Remove n).2 := hW.step _ _ (fun _ => hW.remove)
theorem Whole.Sync (hW : Whole s) (hI : s.Inv T) : Whole s.Sync.2 := hW.step _ _ (fun _ => hW.synced hI)
theorem Inv.op (hI : s.Inv T) {o : S62} (ho : o.f4 ≤ 9223372036854775807) : (opS s o).Inv (T + 2 + o.f3.length) := by
  unfold opS
  split
  · exact Inv.Write hI _ _
  split
  · exact Inv.Append hI _ _
  split
  · exact Inv.mono (Inv.Flush hI _) (by omega)
  split
  · exact Inv.mono (Inv.Rename hI _ _) (by omega)
  split
  · exact Inv.mono (Inv.Remove hI _) (by omega)
  split
  · exact Inv.mono (Inv.Sync hI) (by omega)
  split
  · exact Inv.mono (Inv.fuse hI _ ho) (by omega)
  split
  · exact Inv.mono (Inv.crash hI _) (by omega)
  · exact Inv.mono hI (by omega)
theorem Whole.op (hW : Whole s) (hI : s.Inv T) (o : S62) : Whole (opS s o) := by
  unfold opS
  split
  · exact hW.Write hI _ _
  split
  · exact hW.Append hI _ _
  split
  · exact hW.Flush hI _
  split
  · exact hW.Rename hI _ _
  split
  · exact hW.Remove _
  split
  · exact hW.Sync hI
  split
  · exact hW.fuse _
  split
  · exact Whole.crash s _
  · exact hW
theorem Whole.told : ∀ (l : List S62) {s : DS} {T : Nat}, Whole s → s.Inv T → (∀ o ∈ l, o.f4 ≤ 9223372036854775807) → Whole (toldS s l)
  | [], s, T, hW, _, _ => hW
  | o :: l, s, T, hW, hI, ho => Whole.told l (hW.op hI o) (Inv.op hI (ho o List.mem_cons_self)) (fun q hq => ho q (List.mem_cons_of_mem _ hq))
end
section
variable {S s s' : DS} {T : Nat} {L : List ByteArray}
theorem read_at (hI : s.Inv T) (ho : s.off = false) {f : PF} (hf : f ∈ s.files) (hn : f.name ≠ nameless) : s.read f.name = (f.now, 0) := by
  obtain ⟨i, hi⟩ := List.mem_iff_getElem?.1 hf
  have hnm : namedV f.name = true := (hI.okn f hf).resolve_left hn
  have hL : s.nmL[i]? = some f.name := by unfold DS.nmL; rw [List.getElem?_map, hi]; rfl
  have hfd : s.find f.name = some i := by rw [DS.find_L]; exact idxL_of hI.nmU hL hn
  unfold DS.read
  rw [hnm, ho, hfd]
  simp [DS.nowAt, hi]
/-- so many have been flushed -/
structure Mid (S : DS) (T : Nat) (L : List ByteArray) (i : Nat) (s : DS) : Prop where
  inv : s.Inv T
  whole : Whole s
  off : s.off = false
  left : s.left = 1099511627776 - i
  nm : s.nmL = S.nmL
  now : nowsL s = nowsL S
  done : ∀ j n, j < i → L[j]? = some n → ∀ k, S.nmL[k]? = some n → ∀ w ∈ s.works, DS.ofBytes k w = false
theorem list_named (hI : S.Inv T) {n : ByteArray} (hn : n ∈ listV S) : n ∈ S.nmL ∧ n ≠ nameless ∧ namedV n = true := by
  unfold listV at hn
  split at hn
  · cases hn
  · have h1 := List.mem_filter.1 ((names_perm S).mem_iff.1 hn)
    have h2 : n ≠ nameless := by simpa using h1.2
    obtain ⟨f, hf, hfn⟩ := List.mem_map.1 h1.1
    exact ⟨h1.1, h2, by have := (hI.okn f hf).resolve_left (by rw [hfn]; exact h2); rwa [hfn] at this⟩
theorem off_settle (is : PW → Bool) : (s.settle is).off = s.off := (fold_head _ s).2.1
theorem mid_next {i : Nat} (hM : Mid S T L i s) (hL : L.length ≤ 1000000000) {n : ByteArray} (hn : L[i]? = some n) (hnm : n ∈ S.nmL ∧ n ≠ nameless ∧ namedV n = true) : (s.Flush n).1 = 0 ∧ Mid S T L (i + 1) (s.Flush n).2 := by
  obtain ⟨k, hk⟩ := find_mem (s := s) (n := n) (by rw [hM.nm]; exact hnm.1)
  have hil := (List.getElem?_eq_some_iff.1 hn).1
  have hl2 : (s.settle (DS.ofBytes k)).left = s.left := settle_left s _
  have e1 : s.flush n = (0, s.settle (DS.ofBytes k)) := by unfold DS.flush; rw [hk]
  have e2 : s.Flush n = (0, (s.settle (DS.ofBytes k)).tick) := by
    show s.step [n] (fun s => s.flush n) = _
    unfold DS.step
    rw [show ([n].all namedV) = true by simp [hnm.2.2], hM.off]
    show (if (s.flush n).1 = 0 then (0, (s.flush n).2.tick) else s.flush n) = _
    rw [e1]
    rfl
  have hsa := settle_all hM.inv (DS.ofBytes k)
  have hW := (hM.whole.flushed hM.inv k).tick
  have e3 : (s.settle (DS.ofBytes k)).tick = { s.settle (DS.ofBytes k) with left := s.left - 1, off := false } := by
    unfold DS.tick
    have h1 := hM.left
    rw [if_pos (by rw [hl2]; omega), hl2]
    have h2 : decide (s.left - 1 = 0) = false := decide_eq_false (by omega)
    rw [h2]
  rw [e2]
  refine ⟨rfl, Inv.tick (Inv.settle hM.inv _), hW, ?_, ?_, ?_, ?_, ?_⟩
  · show (s.settle (DS.ofBytes k)).tick.off = false
    rw [e3]
  · show (s.settle (DS.ofBytes k)).tick.left = _
    rw [e3]
    have h1 := hM.left
    show s.left - 1 = _
    omega
  · show (s.settle (DS.ofBytes k)).tick.nmL = _
    rw [e3]
    exact hsa.2.1.trans hM.nm
  · show nowsL (s.settle (DS.ofBytes k)).tick = _
    rw [e3]
    exact hsa.2.2.1.trans hM.now
  · show ∀ j n', j < i + 1 → L[j]? = some n' → ∀ k', S.nmL[k']? = some n' → ∀ w ∈ (s.settle (DS.ofBytes k)).tick.works, DS.ofBytes k' w = false
    rw [e3]
    intro j n' hj hn' k' hk' w hw
    have hw' : w ∈ s.works.filter (fun w => !DS.ofBytes k w) := hw
    obtain ⟨hw1, hw2⟩ := List.mem_filter.1 hw'
    by_cases hji : j = i
    · subst hji
      have hnn : n' = n := by rw [hn] at hn'; exact (Option.some.inj hn').symm
      subst hnn
      have hkk : k' = k := by
        have h1 := idxL_some (by rw [← DS.find_L]; exact hk : idxL s.nmL n' = some k)
        rw [hM.nm] at h1
        exact UL_at (by rw [← hM.nm]; exact hM.inv.nmU) hk' h1 hnm.2.1
      subst hkk
      simpa using hw2
    · exact hM.done j n' (by omega) hn' k' hk' w hw1
/-- all are fast -/
structure Fast (S : DS) (T : Nat) (s : DS) : Prop where
  inv : s.Inv T
  off : s.off = false
  fs : s.fsL = S.nmL
  wk : ∀ w ∈ s.works, w.kind ≤ 2 ∧ (S.nmL[w.file]? = some nameless)
  old : ∀ i f, S.nmL[i]? = some f → f ≠ nameless → s.oldAt i = S.nowAt i
  len : s.files.length = S.files.length
theorem mid_sync (hI : S.Inv T) (ho : S.off = false) (hM : Mid S T (listV S) (listV S).length s) (hL : (listV S).length ≤ 1000000000) : s.Sync.1 = 0 ∧ Fast S T s.Sync.2 := by
  have hl2 : (s.settle DS.ofNames).left = s.left := settle_left s _
  have e2 : s.Sync = (0, (s.settle DS.ofNames).tick) := by
    show s.step [] (fun s => (0, s.settle DS.ofNames)) = _
    unfold DS.step
    rw [show (([] : List ByteArray).all namedV) = true from rfl, hM.off]
    rfl
  have e3 : (s.settle DS.ofNames).tick = { s.settle DS.ofNames with left := s.left - 1, off := false } := by
    unfold DS.tick
    have h1 := hM.left
    rw [if_pos (by rw [hl2]; omega), hl2]
    have h2 : decide (s.left - 1 = 0) = false := decide_eq_false (by omega)
    rw [h2]
  have hsa := settle_all hM.inv DS.ofNames
  have hW := hM.whole.synced hM.inv
  have hlen : s.files.length = S.files.length := by
    have := congrArg List.length hM.nm
    simpa [DS.nmL] using this
  have hwk : ∀ w ∈ (s.settle DS.ofNames).works, w.kind ≤ 2 ∧ (S.nmL[w.file]? = some nameless) := by
    intro w hw
    rw [hsa.2.2.2.2.1] at hw
    obtain ⟨hw1, hw2⟩ := List.mem_filter.1 hw
    have hk2 : w.kind ≤ 2 := by
      unfold DS.ofNames at hw2
      simp at hw2
      omega
    refine ⟨hk2, ?_⟩
    have hwf := hM.inv.wf w hw1
    have hlt : w.file < S.nmL.length := by rw [show S.nmL.length = S.files.length by simp [DS.nmL]]; omega
    rw [List.getElem?_eq_getElem hlt]
    by_cases hx : S.nmL[w.file] = nameless
    · rw [hx]
    · exfalso
      have hmem : S.nmL[w.file] ∈ listV S := by
        unfold listV
        rw [ho]
        exact (names_perm S).mem_iff.2 (List.mem_filter.2 ⟨List.getElem_mem hlt, by simpa using hx⟩)
      obtain ⟨j, hj⟩ := List.mem_iff_getElem?.1 hmem
      have hd := hM.done j _ (List.getElem?_eq_some_iff.1 hj).1 hj w.file (List.getElem?_eq_getElem hlt) w hw1
      unfold DS.ofBytes at hd
      simp only [decide_eq_false_iff_not] at hd
      exact hd ⟨trivial, hk2⟩
  have hfs : (s.settle DS.ofNames).fsL = S.nmL := by
    have h1 := hW.ns
    rw [pendN_none _ _ (fun w hw => by have := (hwk w hw).1; omega)] at h1
    exact h1.trans (hsa.2.1.trans hM.nm)
  rw [e2]
  refine ⟨rfl, Inv.tick (Inv.settle hM.inv _), ?_, ?_, ?_, ?_, ?_⟩
  · show (s.settle DS.ofNames).tick.off = false
    rw [e3]
  · show (s.settle DS.ofNames).tick.fsL = _
    rw [e3]
    exact hfs
  · show ∀ w ∈ (s.settle DS.ofNames).tick.works, _
    rw [e3]
    exact hwk
  · show ∀ i f, S.nmL[i]? = some f → f ≠ nameless → (s.settle DS.ofNames).tick.oldAt i = S.nowAt i
    rw [e3]
    intro i f hi hf
    have hil : i < (s.settle DS.ofNames).files.length := by
      rw [hsa.2.2.2.2.2, hlen]
      have := (List.getElem?_eq_some_iff.1 hi).1
      simpa [DS.nmL] using this
    have h1 := hW.bs i hil
    rw [pendB_none _ _ _ (fun w hw => by
      unfold DS.ofBytes
      refine decide_eq_false (fun h => ?_)
      have h2 := (hwk w hw).2
      rw [h.1, hi] at h2
      exact hf (Option.some.inj h2))] at h1
    show (s.settle DS.ofNames).oldAt i = _
    rw [h1, nowAt_L, hsa.2.2.1, hM.now, ← nowAt_L]
  · show (s.settle DS.ofNames).tick.files.length = _
    rw [e3]
    exact hsa.2.2.2.2.2.trans hlen
theorem work_bytes (s : DS) {p : PW} (hk : p.kind ≤ 2) (n : Nat) : (s.work p n).fsL = s.fsL ∧ ∀ i, i ≠ p.file → (s.work p n).oldAt i = s.oldAt i := by
  refine ⟨by rw [work_fs, nameW_id (by omega) (by omega)], fun i hi => ?_⟩
  unfold DS.work
  rw [if_neg (by omega), if_neg (by omega)]
  unfold DS.oldAt DS.setOld
  rw [List.getElem?_modify]
  cases s.files[i]? <;> simp [Ne.symm hi]
theorem rep_bytes : ∀ (l : List (PW × Int)) (s : DS), (∀ p ∈ l, p.1.kind ≤ 2) → (l.foldl repF s).fsL = s.fsL ∧ ∀ i, (∀ p ∈ l, i ≠ p.1.file) → (l.foldl repF s).oldAt i = s.oldAt i
  | [], s, _ => ⟨rfl, fun _ _ => rfl⟩
  | p :: l, s, h => by
    have h1 := rep_bytes l (repF s p) (fun q hq => h q (List.mem_cons_of_mem _ hq))
    have h2 : (repF s p).fsL = s.fsL ∧ ∀ i, i ≠ p.1.file → (repF s p).oldAt i = s.oldAt i := by
      unfold repF
      split
      · exact work_bytes s (h p List.mem_cons_self) _
      · exact ⟨rfl, fun _ _ => rfl⟩
    exact ⟨h1.1.trans h2.1, fun i hi => (h1.2 i (fun q hq => hi q (List.mem_cons_of_mem _ hq))).trans (h2.2 i (hi p List.mem_cons_self))⟩
theorem mem_zip_left {ws : List PW} {k : List Int} {p : PW × Int} (h : p ∈ ws.zip k) : p.1 ∈ ws := (List.of_mem_zip (show (p.1, p.2) ∈ ws.zip k from h)).1
/-- no crash turns anything -/
theorem fast_crash (hI : S.Inv T) (ho : S.off = false) (hF : Fast S T s) (keep : List Int) : listV (s.crash keep) = listV S ∧ (s.crash keep).off = false ∧ (s.crash keep).works = [] ∧ ∀ n ∈ listV S, (s.crash keep).read n = S.read n := by
  have hrb := rep_bytes (s.works.zip keep) s (fun p hp => (hF.wk p.1 (mem_zip_left hp)).1)
  have hr : (s.replay keep).fsL = S.nmL := hrb.1.trans hF.fs
  have hnm : (s.crash keep).nmL = S.nmL.filter (fun n => n ≠ nameless) := by
    rw [← hr]
    unfold DS.nmL DS.fsL DS.crash
    rw [List.map_map, List.filter_map]
    rfl
  have hff : (S.nmL.filter (fun n => n ≠ nameless)).filter (fun n => n ≠ nameless) = S.nmL.filter (fun n => n ≠ nameless) := List.filter_eq_self.2 (fun n hn => (List.mem_filter.1 hn).2)
  refine ⟨?_, rfl, rfl, fun n hn => ?_⟩
  · unfold listV namesV
    rw [hnm, hff, ho]
    rfl
  · obtain ⟨h1, h2, h3⟩ := list_named hI hn
    obtain ⟨i, hi⟩ := List.mem_iff_getElem?.1 h1
    have hil : i < S.files.length := by have := (List.getElem?_eq_some_iff.1 hi).1; simpa [DS.nmL] using this
    -- in S
    obtain ⟨fS, hfS⟩ : ∃ fS, S.files[i]? = some fS := ⟨_, List.getElem?_eq_getElem hil⟩
    have hnS : fS.name = n := by
      have h := hi
      unfold DS.nmL at h
      rw [List.getElem?_map, hfS] at h
      exact Option.some.inj h
    have hS := read_at hI ho (List.mem_of_getElem? hfS) (by rw [hnS]; exact h2)
    rw [hnS] at hS
    -- behind the crash
    have hlr : (s.replay keep).files.length = S.files.length := (rep_fold _ s).2.1.trans hF.len
    obtain ⟨f0, hf0⟩ : ∃ f0, (s.replay keep).files[i]? = some f0 := ⟨_, List.getElem?_eq_getElem (by omega)⟩
    have hfast : f0.fast = n := by
      have h : (s.replay keep).fsL[i]? = some n := by rw [hr]; exact hi
      unfold DS.fsL at h
      rw [List.getElem?_map, hf0] at h
      exact Option.some.inj h
    have hold : f0.old = fS.now := by
      have e1 : (s.replay keep).oldAt i = s.oldAt i := hrb.2 i (fun p hp e => by
        have h := (hF.wk p.1 (mem_zip_left hp)).2
        rw [← e, hi] at h
        exact h2 (Option.some.inj h))
      have e2 := hF.old i n hi h2
      have e3 : (s.replay keep).oldAt i = f0.old := by unfold DS.oldAt; rw [hf0]; rfl
      have e4 : S.nowAt i = fS.now := by unfold DS.nowAt; rw [hfS]; rfl
      rw [← e3, e1, e2, e4]
    have hmem : ({ f0 with name := f0.fast, now := f0.old } : PF) ∈ (s.crash keep).files := by
      show _ ∈ ((s.replay keep).files.filter (fun f => f.fast ≠ nameless)).map (fun f => { f with name := f.fast, now := f.old })
      exact List.mem_map_of_mem (f := fun f : PF => ({ f with name := f.fast, now := f.old } : PF)) (List.mem_filter.2 ⟨List.mem_of_getElem? hf0, by rw [hfast]; simpa using h2⟩)
    have hC := read_at (Inv.crash hF.inv keep) rfl hmem (by show f0.fast ≠ nameless; rw [hfast]; exact h2)
    have hC' : (s.crash keep).read f0.fast = (f0.old, 0) := hC
    rw [hfast] at hC'
    rw [hC', hS, hold]
end
end Go.Proofs.Ytnegcjgolaakcaa

/- naming: is any work that waits one of names? -/
namespace Go.Proofs.Ytnegcjgolaakcaa
open Go.RowKit Go.Maps
open Go.Proofs.YtnegcjgolaakcaaW.PrintWords Go.Proofs.YtnegcjgolaakcaaW.PrintLast Go.Proofs.YtnegcjgolaakcaaW.PrintMore
set_option linter.unusedVariables false
set_option linter.unusedSimpArgs false
/-- a work that waits, in a row -/
theorem at_P {w : World} {A : Option Addr} {n : Nat} {xs : List (Int × ByteArray × ByteArray × Int)} (h : pendK.C w A n xs) (i : Nat) (h1 : i < n) : ∃ (ad : Addr) (x : Int × ByteArray × ByteArray × Int), A = some ad ∧ xs[i]? = some x ∧ w.cell? (ad.add (i * 4)) = some (.int .i64 x.1) ∧ w.cell? (ad.add (i * 4 + 1)) = some (.string x.2.1) ∧ w.cell? (ad.add (i * 4 + 2)) = some (.string x.2.2.1) ∧ w.cell? (ad.add (i * 4 + 3)) = some (.int .i64 x.2.2.2) := by
  have hl : i < xs.length := by have := h.1; omega
  obtain ⟨ad, c, e, _, hK, hc0⟩ := Kd.C_get h xs[i] (i : Int) (by omega) (by omega)
  have hx : xs.getD ((i : Int)).toNat xs[i] = xs[i] := by
    rw [List.getD_eq_getElem?_getD, Int.toNat_natCast, List.getElem?_eq_getElem hl]
    rfl
  rw [hx] at hK
  have hc : ∀ j u, c[j]? = some u → w.cell? (ad.add (i * 4 + j)) = some u := hc0
  obtain ⟨_, _, rfl, rfl, _, _, rfl, rfl, _, _, rfl, rfl, rfl⟩ := hK
  exact ⟨ad, xs[i], e, List.getElem?_eq_getElem hl, hc 0 _ rfl, hc 1 _ rfl, hc 2 _ rfl, hc 3 _ rfl⟩
def namingV (s : DS) : Bool := s.works.any (fun p => decide (2 < p.kind))
section
variable {w w0 : World} {g B T : Nat} {s : DS} {S : Nat → Prop}
set_option maxHeartbeats 4000000 in
set_option maxRecDepth 100000 in
theorem nam_calls (h : Lw B T w g s) : Calls Try.prog 30 #[ptrV g] w fun e w' => e = .returned (.bool (namingV s)) ∧ Below w.heap.size w w' := by
  have H := Aside0.mk h
  clear h
  go_enter Try.func30, Try.ntmps30
  go_wp2_with fail
  refine (lw_pend H.out).mono ?_
  rintro e w1 ⟨A, c, rfl, hR, hb⟩
  have HC := Aside0.mk (Kd.R_reads' hR).2.2
  have HB := Aside0.mk hb
  have HN := Aside0.mk (show namingV s = s.works.any (fun p => decide (2 < p.kind)) from rfl)
  have HW : Aside0 (s.works.length ≤ 1073741824) := ⟨by have h1 := H.out.2.1.lw; have h2 := H.out.2.2; omega⟩
  generalize s.works = W at *
  clear hR hb
  go_wp2_with fail
  go_loopg [4] W.length (fun kq v4 w' => ∃ i : Nat, v4 = .int .i64 i ∧ Aside0 (i + kq = W.length ∧ ∀ p ∈ W.take i, ¬ 2 < p.kind) ∧ Aside0 (w' = w1))
  case atStart => exact ⟨0, rfl, ⟨by omega, by simp⟩, ⟨rfl⟩⟩
  case round =>
    obtain ⟨i, rfl, HI, HWW⟩ := hrel
    obtain rfl := HWW.out
    by_cases hlt : i < W.length
    · have d6 : decide ((i : Int) < (W.length : Int)) = true := decide_eq_true (by omega)
      have d7 : decide (i < W.length) = true := decide_eq_true hlt
      have j0 : (0 : Int) ≤ (i : Int) := by omega
      have j1 : (i : Int) < (W.length : Int) := by omega
      obtain ⟨ad, x, hA, hx, k0, k1, k2, k3⟩ := at_P HC.out i (by rw [List.length_map]; exact hlt)
      subst hA
      rw [List.getElem?_map, List.getElem?_eq_getElem hlt] at hx
      have hx' : pendOf W[i] = x := Option.some.inj hx
      have hk : x.1 = W[i].kind := by rw [← hx']; rfl
      have HK := Aside0.mk hk
      generalize x.1 = kk at *
      clear hx hx' k1 k2 k3 hk
      by_cases hz : 2 < kk
      · have d8 : decide (2 < kk) = true := decide_eq_true hz
        have hV : namingV s = true := by rw [HN.out]; exact List.any_eq_true.2 ⟨W[i], List.getElem_mem hlt, decide_eq_true (by rw [← HK.out]; exact hz)⟩
        clear hz
        go_wp2_with fail
        go_ret
        exact ⟨rfl, HB.out⟩
      · have d8 : decide (2 < kk) = false := decide_eq_false hz
        have HZ := Aside0.mk hz
        clear hz
        go_wp2_with fail
        go_roundg (gk - 1)
        case measure => have := HI.out.1; omega
        case rel =>
          refine ⟨i + 1, next_i6 (by have := HW.out; omega), ⟨by have := HI.out.1; omega, fun p hp => ?_⟩, ⟨rfl⟩⟩
          rw [List.take_succ_eq_append_getElem hlt, List.mem_append] at hp
          rcases hp with hp | hp
          · exact HI.out.2 p hp
          · rw [List.mem_singleton.1 hp, ← HK.out]; exact HZ.out
    · have d6 : decide ((i : Int) < (W.length : Int)) = false := decide_eq_false (by omega)
      have d7 : decide (i < W.length) = false := decide_eq_false hlt
      have hV : namingV s = false := by
        rw [HN.out]
        refine List.any_eq_false.2 (fun p hp => ?_)
        have h1 := HI.out.2 p (by rw [List.take_of_length_le (by omega)]; exact hp)
        simpa using h1
      go_wp2_with fail
      go_ret
      exact ⟨rfl, HB.out⟩
end
end Go.Proofs.Ytnegcjgolaakcaa

/- DiskFast: what is held through the law's first loop; what a disk in the midst reads. -/
namespace Go.Proofs.Ytnegcjgolaakcaa
open Go.RowKit Go.Maps
open Go.Proofs.YtnegcjgolaakcaaW.PrintWords Go.Proofs.YtnegcjgolaakcaaW.PrintLast Go.Proofs.YtnegcjgolaakcaaW.PrintMore
set_option linter.unusedVariables false
set_option linter.unusedSimpArgs false
section
variable {w w0 w1 w2 w3 w' W : World} {g B T T' : Nat} {s s' S0 : DS} {S S' SL : Nat → Prop}
theorem DiskAt.grown {base nb fb : Nat} {v : Value} {ad : List Nat} {ok : Nat → Prop} (h : DiskAt w g s base ok nb fb v ad) {row : Option Nat} (hg : w.grownBy w' row) (hok : ∀ k, ok k → some k ≠ row) : DiskAt w' g s base ok nb fb v ad :=
  h.step (fun k hk hlt => hg.block k hlt (hok k hk))
/-- a held row grows -/
theorem Lx.grown (h : Lx S w0 B T w g s) {row : Option Nat} (hg : w.grownBy w' row) (hr : ∀ k, row = some k → S k) : Lx (fun k => S k ∨ (w.heap.size ≤ k ∧ k < w'.heap.size)) w' B T w' g s := by
  obtain ⟨⟨base, ok, nb, fb, v, ad, h1, h2, h3⟩, a1, a2, a3, h4, h5⟩ := h
  refine ⟨⟨base, _, nb, fb, v, ad, h1, ?_, h3.bound.grown hg (fun k hk e => h2 k hk.1 (hr k e.symm))⟩, ?_, Nat.le_refl _, fun _ _ => rfl, h4, h5⟩
  · rintro k ⟨hk1, hk2, hk3⟩ (hk | hk)
    · exact h2 k hk1 hk
    · omega
  · rintro k (hk | hk)
    · exact Nat.lt_of_lt_of_le (Nat.lt_of_lt_of_le (a1 k hk) a2) hg.size
    · exact hk.2
/-- a row of names that stays, one of strings that grows, and the disk -/
def Was (SL : Nat → Prop) (lo b0 : Nat) (vL : Value) (L : List ByteArray) (B T : Nat) (W : World) (g : Nat) (s : DS) (v : Value) (xs : List ByteArray) : Prop :=
  ∃ S, Lx S W B T W g s ∧ (∀ k, SL k → S k ∧ k < b0) ∧ Kd.string.R 9 W lo SL vL L ∧ Kd.string.R 9 W b0 S v xs ∧ b0 ≤ W.heap.size
variable {lo b0 : Nat} {vL v v3 : Value} {L xs xs' : List ByteArray}
theorem Was.slice (h : Was SL lo b0 vL L B T W g s v xs) : ∃ A c, v = .slice A xs.length c := by
  obtain ⟨S, _, _, _, h4, _⟩ := h
  exact Kd.R_slice h4
theorem Was.lw (h : Was SL lo b0 vL L B T W g s v xs) : Lw B T W g s := by
  obtain ⟨S, h1, _⟩ := h
  exact h1.lw
theorem Was.below (h : Was SL lo b0 vL L B T W g s v xs) (hb : Below W.heap.size W w') : Was SL lo b0 vL L B T w' g s v xs := by
  obtain ⟨S, h1, h2, h3, h4, h5⟩ := h
  exact ⟨S, (h1.below hb).anchor, h2, Kd.R_below h3 hb, Kd.R_below h4 hb, Nat.le_trans h5 hb.size⟩
/-- what has come is held, with a row of bytes -/
theorem Was.hold {vb : Value} {l : List Int} (h : Was SL lo b0 vL L B T W g s v xs) (hb : Below W.heap.size W w') (hr : bK.R 5 w' W.heap.size (fun _ => True) vb l) :
    ∃ S, Lx S w' B T w' g s ∧ (∀ k, SL k → S k ∧ k < b0) ∧ Kd.string.R 9 w' lo SL vL L ∧ Kd.string.R 9 w' b0 S v xs ∧ b0 ≤ w'.heap.size ∧ bK.R 5 w' W.heap.size S vb l := by
  obtain ⟨S, h1, h2, h3, h4, h5⟩ := h
  exact ⟨_, h1.hold hb, fun k hk => ⟨.inl (h2 k hk).1, (h2 k hk).2⟩, Kd.R_below h3 hb, Kd.R_mono (Kd.R_below h4 hb) (fun k hk => .inl hk), Nat.le_trans h5 hb.size, row_hold hr⟩
theorem Was.grow (h : Was SL lo b0 vL L B T W g s v xs) (hg : W.grownBy w' v.ownBlock) (ho : Kd.string.R 9 w' b0 (fun k => b0 ≤ k) v3 xs') (hat : v3.ownBlock = v.ownBlock ∨ ∃ b, v3.ownBlock = some b ∧ W.heap.size ≤ b) : Was SL lo b0 vL L B T w' g s v3 xs' := by
  obtain ⟨S, h1, h2, h3, h4, h5⟩ := h
  have hown : ∀ k, v.ownBlock = some k → S k := h4.1
  have hge : ∀ k, v.ownBlock = some k → b0 ≤ k := Kd.R_base h4
  refine ⟨_, h1.grown hg hown, fun k hk => ⟨.inl (h2 k hk).1, (h2 k hk).2⟩, Kd.R_grown h3 hg (fun k hk e => by have := hge k e.symm; have := (h2 k hk).2; omega), ?_, Nat.le_trans h5 hg.size⟩
  have hlt := Kd.R_lt ho
  obtain ⟨h6, inner, h7, h8⟩ := ho
  refine ⟨fun k hk => ?_, inner, h7, h8.imp_ (fun _ _ hp => hp)⟩
  rcases hat with e | ⟨b, e, hbk⟩
  · exact .inl (hown k (by rw [← e]; exact hk))
  · rw [hk] at e
    cases e
    exact .inr ⟨hbk, hlt k hk⟩
theorem Was.start (h : Lw B T W g s) (hb : Below W.heap.size W w') (hr : Kd.string.R 9 w' W.heap.size (fun _ => True) vL L) : Was (fun k => W.heap.size ≤ k ∧ k < w'.heap.size) W.heap.size w'.heap.size vL L B T w' g s (.slice none 0 0) [] := by
  refine ⟨_, h.hold.hold hb, fun k hk => ⟨.inr hk, hk.2⟩, ?_, Kd.R_nil _ _ _ _ _, Nat.le_refl _⟩
  exact Kd.R_mono (Kd.R_bound hr) (fun k hk => ⟨hk.2.1, hk.2.2.1⟩)
/-- a disk in the midst reads what was -/
theorem mid_read {i : Nat} (hI : S0.Inv T) (ho : S0.off = false) (hM : Mid S0 T' L i s) {n : ByteArray} (hn : n ∈ listV S0) : s.read n = S0.read n ∧ (S0.read n).2 = 0 := by
  obtain ⟨h1, h2, h3⟩ := list_named hI hn
  obtain ⟨i, hi⟩ := List.mem_iff_getElem?.1 h1
  have a1 := hi
  unfold DS.nmL at a1
  rw [List.getElem?_map] at a1
  obtain ⟨f, hf, rfl⟩ := Option.map_eq_some_iff.1 a1
  have hS := read_at hI ho (List.mem_of_getElem? hf) h2
  have a2 : s.nmL[i]? = some f.name := by rw [hM.nm]; exact hi
  have a3 : (nowsL s)[i]? = some f.now := by rw [hM.now]; unfold nowsL; rw [List.getElem?_map, hf]; rfl
  unfold DS.nmL at a2
  unfold nowsL at a3
  rw [List.getElem?_map] at a2 a3
  obtain ⟨f2, hf2, hn2⟩ := Option.map_eq_some_iff.1 a2
  rw [hf2] at a3
  have hw2 : f2.now = f.now := Option.some.inj a3
  have hs := read_at hM.inv hM.off (List.mem_of_getElem? hf2) (by rw [hn2]; exact h2)
  rw [hn2, hw2] at hs
  exact ⟨by rw [hs, hS], by rw [hS]⟩
/-- where the fuse is far -/
theorem mid_start (hI : S0.Inv T) (hW : Whole S0) (ho : S0.off = false) : S0.fuse 1099511627776 = (0, { S0 with left := 1099511627776, off := false }) ∧ ({ S0 with left := 1099511627776, off := false } : DS).off = false ∧ listV { S0 with left := 1099511627776, off := false } = listV S0 ∧ Mid { S0 with left := 1099511627776, off := false } T L 0 { S0 with left := 1099511627776, off := false } := by
  have hf := far_eq ho
  have hI2 := Inv.fuse hI 1099511627776 (by decide)
  have hW2 := hW.fuse 1099511627776
  rw [hf] at hI2 hW2
  refine ⟨hf, rfl, ?_, hI2, hW2, rfl, rfl, rfl, rfl, fun j n hj => absurd hj (Nat.not_lt_zero _)⟩
  unfold listV
  rw [ho]
  rfl
theorem fast_naming (h : Fast S0 T s) : namingV s = false := by
  unfold namingV
  refine List.any_eq_false.2 (fun p hp => ?_)
  have := (h.wk p hp).1
  simp
  omega
def wasOf (S0 : DS) (n : ByteArray) : ByteArray := strOfNums (S0.read n).1
theorem was_next (S0 : DS) {i : Nat} {n : ByteArray} (h : L[i]? = some n) : (L.take (i + 1)).map (wasOf S0) = (L.take i).map (wasOf S0) ++ [wasOf S0 n] := by
  obtain ⟨hl, rfl⟩ := List.getElem?_eq_some_iff.1 h
  rw [List.take_succ_eq_append_getElem hl, List.map_append]
  rfl
end
end Go.Proofs.Ytnegcjgolaakcaa

/- DiskFast: the law's walk. -/
namespace Go.Proofs.Ytnegcjgolaakcaa
open Go.RowKit Go.Maps Go.Sort
open Go.Proofs.YtnegcjgolaakcaaW.PrintWords Go.Proofs.YtnegcjgolaakcaaW.PrintLast Go.Proofs.YtnegcjgolaakcaaW.PrintMore
open Pbulk (S62 k62 z62 rd_T62 at_T62)
set_option linter.unusedVariables false
set_option linter.unusedSimpArgs false
section
def F6RT28 : Bool × List (List Nat × List Nat) := (true, [([], []), ([], []), ([0, 1], [0, 1]), ([2], [2]), ([], []), ([], []), ([4, 5], [4, 5]), ([6], [6]), ([3, 7], [3, 7]), ([8], [8]), ([9], [9]), ([10, 9], [9, 10]), ([9, 11], [9, 11]), ([12, 9], [12]), ([13], [13]), ([14, 13], [13, 14]), ([13], [13]), ([13], [13]), ([16, 17, 13], [13, 16, 17]), ([18, 13], [13, 18]), ([15, 19, 13], [13, 15, 19]), ([13, 20], [13, 20])])
def F6RB28 : List Nat := [0, 0, 3, 7, 0, 0, 48, 112, 255, 511, 1023, 2047, 4095, 8191, 16383, 32767, 16383, 16383, 212991, 475135, 1048575, 2097151]
theorem F6Rtab28 : rtab .any (opsOf Try.f6 28) = F6RT28 := by kernel_rfl
theorem F6Rbits28 : waitsOk F6RT28.2 F6RB28 = true := by kernel_rfl
set_option maxHeartbeats 4000000 in
set_option maxRecDepth 100000 in
theorem fast_walk (x y : Int) (l : List S62) (A : Option Addr) (c : Nat) (k : List Int) (K : Option Addr) (kc : Nat) (w : World) (hC : Kd.C k62 w A l.length l) (hc : l.length ≤ c) (hz : SzOk l) (hl : ∀ o ∈ l, OpOk' o) (hCk : (Kd.int .i64).C w K k.length k) (hkl : ∀ x ∈ k, x ≤ 9223372036854775807) :
    Calls Try.prog 6 #[.int .i64 x, .int .i64 y, .slice A l.length c, .slice K k.length kc] w fun e w' => e = .returned (.bool true) ∧ Below w.heap.size w w' := by
  have HC := Aside0.mk hC
  have HCC := Aside0.mk hc
  have HZ := Aside0.mk hz
  have HL := Aside0.mk hl
  have HCK := Aside0.mk hCk
  have HKL := Aside0.mk hkl
  obtain ⟨kn, hkn⟩ : ∃ kn, kn = k.length := ⟨_, rfl⟩
  have HKN := Aside0.mk hkn
  rw [← hkn]
  clear hC hc hz hl hCk hkl hkn
  go_enter Try.func6, Try.ntmps6
  go_wp2_with fail
  cases hg : goodNew x y with
  | false =>
    refine (new_bad x y w hg).mono ?_
    rintro e w1 ⟨rfl, hb⟩
    have HB1 := Aside0.mk hb
    clear hb hg
    go_wp2_with fail
    refine (alive_calls w1).mono ?_
    rintro e w2 ⟨rfl, hb⟩
    have HB2 := Aside0.mk (HB1.out.trans (hb.mono HB1.out.size))
    clear hb
    go_wp2_with fail
    go_ret
    exact ⟨rfl, HB2.out⟩
  | true =>
    refine (lw_new x y w hg).mono ?_
    rintro e w1 ⟨g, rfl, hd, hb⟩
    have HG := Aside0.mk hg
    have H1 := Aside0.mk hd
    have HB1 := Aside0.mk hb
    obtain ⟨kk, r, hk, hr⟩ := bulk_some l HZ.out
    have HK := Aside0.mk hk
    have HR := Aside0.mk hr
    clear hd hb hg hk hr
    go_wp2_with fail
    refine (Pbulk.pupillaw24_bulk.calls kk A c l r w1 (Kd.C_below HC.out HB1.out) HCC.out HK.out).mono ?_
    rintro e w2 ⟨rfl, hdr⟩
    have hb2 := drawn_below hdr
    have H2 := Aside0.mk (H1.out.below hb2)
    have HB2 := Aside0.mk (HB1.out.trans (hb2.mono HB1.out.size))
    clear hdr hb2 H1 HB1
    by_cases hr2 : 200000 < r
    · have d1 : decide (200000 < r) = true := decide_eq_true hr2
      clear hr2
      go_wp2_with fail
      refine (alive_calls w2).mono ?_
      rintro e w3 ⟨rfl, hb⟩
      have HB3 := Aside0.mk (HB2.out.trans (hb.mono HB2.out.size))
      clear hb
      go_wp2_with fail
      go_ret
      exact ⟨rfl, HB3.out⟩
    have d1 : decide (200000 < r) = false := decide_eq_false hr2
    by_cases hk2 : 200000 < kn
    · have d2 : decide (200000 < (kn : Int)) = true := decide_eq_true (by omega)
      have d2' : decide (200000 < kn) = true := decide_eq_true hk2
      clear hr2 hk2
      go_wp2_with fail
      refine (alive_calls w2).mono ?_
      rintro e w3 ⟨rfl, hb⟩
      have HB3 := Aside0.mk (HB2.out.trans (hb.mono HB2.out.size))
      clear hb
      go_wp2_with fail
      go_ret
      exact ⟨rfl, HB3.out⟩
    have d2 : decide (200000 < (kn : Int)) = false := decide_eq_false (by omega)
    have d2' : decide (200000 < kn) = false := decide_eq_false hk2
    have HNB : Aside0 (opN l ≤ 400000) := ⟨by have h1 := HR.out (by omega); have h2 := opN_bulk l; omega⟩
    have HOK := Aside0.mk (ok_of_bulk HL.out (HR.out (by omega)))
    have HKN2 := Aside0.mk hk2
    clear hr2 hk2
    go_wp2_with fail
    refine (told_calls l A c H2.out (fun W' hW => Kd.C_below HC.out (HB2.out.trans hW)) HOK.out (by have := HNB.out; omega)).mono ?_
    rintro e w3 ⟨rfl, hd, hb⟩
    have HWH := Aside0.mk (Whole.told l (Whole.new x y) (Inv.new HG.out) (fun o ho => (HOK.out o ho).2.2.1))
    generalize toldS (DS.new x y) l = S at *
    have H3 := Aside0.mk (hd.more (T' := 400000) (by have := HNB.out; omega) (by decide))
    have HB3 := Aside0.mk (HB2.out.trans hb)
    clear hd hb H2 HB2 d1 HK HR HG HNB HOK
    go_wp2_with fail
    refine (lw_on H3.out).mono ?_
    rintro e w4 ⟨rfl, hw4⟩
    have hw4' := hw4.symm
    subst hw4'
    clear hw4
    cases ho : S.off with
    | true =>
      go_wp2_with fail
      refine (alive_calls w3).mono ?_
      rintro e w5 ⟨rfl, hb⟩
      have HB5 := Aside0.mk (HB3.out.trans (hb.mono HB3.out.size))
      clear hb
      go_wp2_with fail
      go_ret
      exact ⟨rfl, HB5.out⟩
    | false =>
      have HO := Aside0.mk ho
      clear ho
      go_wp2_with fail
      refine (lw_fuse 1099511627776 H3.out (by decide)).mono ?_
      rintro e w5 ⟨rfl, hd, hf⟩
      rw [far_eq HO.out] at hd
      rw [far_eq HO.out]
      have HMM : Aside0 (∀ L, Mid { S with left := 1099511627776, off := false } 400000 L 0 { S with left := 1099511627776, off := false }) := ⟨fun L => (mid_start (L := L) H3.out.2.1 HWH.out HO.out).2.2.2⟩
      have HOF : Aside0 (({ S with left := 1099511627776, off := false } : DS).off = false) := ⟨rfl⟩
      generalize ({ S with left := 1099511627776, off := false } : DS) = S0 at *
      have H5 := Aside0.mk hd
      have HB5 := Aside0.mk (lw_below HB3.out H3.out.size hf)
      clear hd hf H3 HB3
      go_wp2_with fail
      refine (lw_list H5.out).mono ?_
      rintro e w6 ⟨A6, c6, rfl, hR6, hb⟩
      have HW6 := Aside0.mk (Was.start H5.out hb hR6)
      have HLS := Aside0.mk (fun (n : ByteArray) hn => list_size H5.out.2.1 (n := n) hn)
      have HLN : Aside0 ((listV S0).length ≤ 400000) := ⟨by have h1 := list_len HOF.out; have h3 := count_le S0; have h4 := H5.out.2.1.lf; omega⟩
      have HB6 := Aside0.mk (HB5.out.trans (hb.mono HB5.out.size))
      have HI0 := Aside0.mk H5.out.2.1
      have HBB := Aside0.mk (Nat.le_trans HB6.out.size (Nat.le_refl _))
      generalize w5.heap.size = lo at *
      generalize w6.heap.size = b0 at *
      obtain ⟨n6, hn6⟩ : ∃ n6, n6 = (listV S0).length := ⟨_, rfl⟩
      have HN6 := Aside0.mk hn6
      rw [← hn6] at HW6 HLN ⊢
      have HM6 := Aside0.mk (HMM.out (listV S0))
      clear hR6 hb hn6 H5 HB5 HMM HWH
      go_wp2_with fail
      go_loopg [12, 13] n6 (fun kq v12 v13 w' => ∃ (i : Nat) (s : DS), v13 = .int .i64 i ∧ Aside0 (i + kq = n6) ∧ Aside0 (Mid S0 400000 (listV S0) i s) ∧ Aside0 (Was (fun k => lo ≤ k ∧ k < b0) lo b0 (.slice A6 n6 c6) (listV S0) w.heap.size 400000 w' g s v12 (((listV S0).take i).map (wasOf S0))) ∧ Aside0 (Below w.heap.size w w'))
      case atStart => exact ⟨0, S0, rfl, ⟨by omega⟩, HM6, HW6, HB6⟩
      case round =>
        clear HW6 HB6
        obtain ⟨i, s, rfl, HI, HM, HW, HB⟩ := hrel
        by_cases hlt : i < n6
        · have d6 : decide ((i : Int) < (n6 : Int)) = true := decide_eq_true (by omega)
          have d7 : decide (i < n6) = true := decide_eq_true hlt
          have j0 : (0 : Int) ≤ (i : Int) := by omega
          have j1 : (i : Int) < (n6 : Int) := by omega
          have hCL : Kd.string.C wr A6 n6 (listV S0) := by
            obtain ⟨_, _, _, h3, _⟩ := HW.out
            have h := (Kd.R_reads' h3).2.2
            rw [← HN6.out] at h
            exact h
          obtain ⟨ad2, hli, hA0, k0⟩ := at_S hCL i hlt
          subst hA0
          have HAT := Aside0.mk (List.getElem?_eq_getElem hli)
          generalize (listV S0)[i] = n at k0 HAT
          have HMR := Aside0.mk (mid_read HI0.out HOF.out HM.out (List.mem_of_getElem? HAT.out))
          have HMN := Aside0.mk (mid_next HM.out (by have := HLN.out; have := HN6.out; omega) HAT.out (list_named HI0.out (List.mem_of_getElem? HAT.out)))
          have HNX := Aside0.mk (was_next S0 HAT.out)
          have HSN : Aside0 (n.size ≤ maxLen) := ⟨by have := HLS.out n (List.mem_of_getElem? HAT.out); simp only [maxLen]; omega⟩
          have HLTI := Aside0.mk hlt
          clear hli hlt hCL
          go_wp2_with fail
          refine (lw_read n HW.out.lw HSN.out).mono ?_
          rintro e w7 ⟨vb, rfl, hR, hb⟩
          rw [HMR.out.1] at hR
          rw [HMR.out.1, HMR.out.2]
          have hx := HW.out.hold hb hR
          have HB7 := Aside0.mk (HB.out.trans (hb.mono HB.out.size))
          obtain ⟨A7, c7, rfl⟩ := Kd.R_slice hR
          obtain ⟨m, hm⟩ : ∃ m, m = (S0.read n).1.length := ⟨_, rfl⟩
          rw [← hm] at hx ⊢
          obtain ⟨Sx, x1, x2, x3, x4, x5, x6⟩ := hx
          have HX := Aside0.mk (And.intro x1 (And.intro x2 (And.intro x3 (And.intro x4 (And.intro x5 x6)))))
          have k1 : w7.cell? (ad2.add i) = some (.string n) := by
            have h := (Kd.R_reads' x3).2.2
            rw [← HN6.out] at h
            obtain ⟨ad3, hli, hA3, k1⟩ := at_S h i HLTI.out
            cases hA3
            have h2 := HAT.out
            rw [List.getElem?_eq_getElem hli] at h2
            rw [k1, Option.some.inj h2]
          clear hR hb hm k0 x1 x2 x3 x4 x5 x6 HW HB
          go_wp2_with fail
          refine (lx_flush n HX.out.1 HSN.out).mono ?_
          rintro e w8 ⟨rfl, hd, hf⟩
          rw [HMN.out.1]
          have hstr := bytes_str (hd.row HX.out.2.2.2.2.2)
          have HW8 := Aside0.mk (show Was (fun k => lo ≤ k ∧ k < b0) lo b0 (.slice (some ad2) n6 c6) (listV S0) w.heap.size 400000 w8 g (s.Flush n).2 _ _ from ⟨Sx, hd.anchor, HX.out.2.1, Kd.R_step HX.out.2.2.1 (fun k hk _ => hd.keep k (HX.out.2.1 k hk).1), hd.row HX.out.2.2.2.1, Nat.le_trans HX.out.2.2.2.2.1 hd.ge⟩)
          have HB8 := Aside0.mk (lw_below HB7.out HX.out.1.size hf)
          clear hd hf k1 HX HB7
          obtain ⟨An, cn, hun⟩ := HW8.out.slice
          have HLI : Aside0 ((((listV S0).take i).map (wasOf S0)).length = i) := ⟨by rw [List.length_map, List.length_take]; have := HN6.out; have := HLTI.out; omega⟩
          rw [HLI.out] at hun
          subst hun
          have hstr' : (convert 30 9 (.slice A7 m c7)).run Try.prog w8 = .ok (.string (wasOf S0 n)) w8 := hstr
          clear hstr
          go_wp2_with (first | ((with_reducible refine gate_builtin (b := .append) (xs := #[.tmp 76, .tmp 79]) rfl ?_); at_builtin; refine Kd.R_append Kd.string (w0 := w8) b0 rfl (.tmp 76) (.tmp 79) 42 9 (.string ⟨#[]⟩) 16 rfl Try.underlying42 info9 rfl (by decide) (by decide) (.slice An i cn) (((listV S0).take i).map (wasOf S0)) (wasOf S0 n) [.string (wasOf S0 n)] (fun k => b0 ≤ k) (fun _ => False) rfl rfl ?aP (fun _ hk => hk.elim) ?aF ?aO ?aB ?aS ?aL ?_; (case aP => exact rfl); (case aF => exact fun k hk => by obtain ⟨_, _, _, _, _, h5⟩ := HW8.out; omega); (case aO => obtain ⟨_, _, _, _, h4, _⟩ := HW8.out; exact Kd.R_mono (Kd.R_bound h4) (fun k hk => hk.2.1)); (case aB => exact Below.refl _ _); (case aS => obtain ⟨_, _, _, _, _, h5⟩ := HW8.out; exact h5); (case aL => rw [HLI.out]; have := HLN.out; have := HLTI.out; omega); intro v3 w9 ho hb hg hat; have HO9 := Aside0.mk (HW8.out.grow hg ho hat); have HB9 : Aside0 (Below w.heap.size w w9) := ⟨HB8.out.grown hg HB8.out.size (fun k hk => by obtain ⟨_, _, _, _, h4, _⟩ := HW8.out; have := Kd.R_base h4 k hk; have := HBB.out; omega)⟩; rw [← HNX.out] at HO9; clear ho hb hg hat hstr') | fail)
          go_roundg (gk - 1)
          case measure => have := HI.out; have := HLTI.out; omega
          case rel => exact ⟨i + 1, (s.Flush n).2, next_i6 (by have := HLTI.out; have := HLN.out; omega), ⟨by have := HI.out; have := HLTI.out; omega⟩, ⟨HMN.out.2⟩, HO9, HB9⟩
        · have d6 : decide ((i : Int) < (n6 : Int)) = false := decide_eq_false (by omega)
          have d7 : decide (i < n6) = false := decide_eq_false hlt
          obtain rfl : i = n6 := by have := HI.out; omega
          rw [List.take_of_length_le (by rw [← HN6.out]; omega)] at HW
          rw [HN6.out] at HM
          have HMS := Aside0.mk (mid_sync HI0.out HOF.out HM.out (by have := HLN.out; have := HN6.out; omega))
          clear d6 d7 hlt HM
          obtain ⟨An, cn, hun⟩ := HW.out.slice
          have HLI : Aside0 (((listV S0).map (wasOf S0)).length = i) := ⟨by rw [List.length_map]; exact HN6.out.symm⟩
          rw [HLI.out] at hun
          subst hun
          obtain ⟨Sx, x1, x2, x3, x4, x5⟩ := HW.out
          have HX := Aside0.mk (And.intro x1 (And.intro x2 (And.intro x3 (And.intro x4 x5))))
          clear x1 x2 x3 x4 x5 HW
          go_wp2_with fail
          refine (lx_sync HX.out.1).mono ?_
          rintro e w7 ⟨rfl, hd, hf⟩
          rw [HMS.out.1]
          have HX7 := Aside0.mk (And.intro hd.anchor (And.intro HX.out.2.1 (And.intro (Kd.R_step HX.out.2.2.1 (fun k hk _ => hd.keep k (HX.out.2.1 k hk).1)) (hd.row HX.out.2.2.2.1))))
          have HB7 := Aside0.mk (lw_below HB.out HX.out.1.size hf)
          clear hd hf HX HB
          go_wp2_with fail
          refine (nam_calls HX7.out.1.lw).mono ?_
          rintro e w8 ⟨rfl, hb⟩
          rw [fast_naming HMS.out.2]
          have HX8 := Aside0.mk (And.intro (HX7.out.1.below hb).anchor (And.intro HX7.out.2.1 (And.intro (Kd.R_below HX7.out.2.2.1 hb) (Kd.R_below HX7.out.2.2.2 hb))))
          have HB8 := Aside0.mk (HB7.out.trans (hb.mono HX7.out.1.size))
          clear hb HX7 HB7
          have HCK8 := Aside0.mk (Kd.C_below HCK.out HB8.out)
          rw [← HKN.out] at HCK8
          go_wp2_with ((with_reducible refine gate_builtin (b := .append) (xs := #[.const (.slice none 0 0), .tmp 89]) rfl ?_); at_builtin; refine Kd.R_append_rows (Kd.int .i64) (Rr := (Kd.int .i64).K w8) (w0 := w8) w8.heap.size rfl (.const (.slice none 0 0)) (.tmp 89) 37 3 (.int .i64 0) 8 rfl Try.underlying37 info3 rfl (by decide) (by decide) (.slice none 0 0) [] k K kn kc (fun _ => True) (fun _ => False) rfl rfl ?aO ?aR ?aK (fun _ hk => hk.elim) (fun _ _ => trivial) ?aB ?aS ?aL ?_; (case aO => exact Kd.R_nil _ _ _ _ _); (case aR => exact HCK8.out); (case aK => exact fun x cs h => h); (case aB => exact Below.refl _ _); (case aS => exact Nat.le_refl _); (case aL => have := HKN2.out; simp only [List.length_nil]; omega); intro v7 w9 ho hb hg hat; rw [List.nil_append] at ho; have HO9 := Aside0.mk ho; have HB9 := Aside0.mk hb; obtain ⟨A7, c7, hv7⟩ := Kd.R_slice HO9.out; clear ho hb hg hat; subst hv7)
          refine (lx_crash k A7 c7 HX8.out.1 HB9.out HKL.out (Kd.R_reads' HO9.out).2.2 (row_mine HO9.out)).mono ?_
          rintro e wa ⟨rfl, hd, hf⟩
          have HFC := Aside0.mk (fast_crash HI0.out HOF.out HMS.out.2 k)
          generalize s.Sync.2.crash k = s2 at *
          have HXa := Aside0.mk (And.intro hd.lw (And.intro (Kd.R_step HX8.out.2.2.1 (fun k hk _ => hd.keep k (HX8.out.2.1 k hk).1)) (hd.row HX8.out.2.2.2)))
          have HBa := Aside0.mk (lw_below (HB8.out.trans (HB9.out.mono HX8.out.1.size)) (Nat.le_trans HX8.out.1.size HB9.out.size) hf)
          clear hd hf HX8 HB8 HB9 HO9 HMS
          go_wp2_with fail
          refine (lw_list HXa.out.1).mono ?_
          rintro e wb ⟨Ab, cb, rfl, hR, hb⟩
          rw [HFC.out.1, ← HN6.out] at hR
          rw [HFC.out.1, ← HN6.out]
          have HXb := Aside0.mk (And.intro (HXa.out.1.below hb) (And.intro (Kd.R_below HXa.out.2.1 hb) (And.intro (Kd.R_below HXa.out.2.2 hb) hR)))
          have HBb := Aside0.mk (HBa.out.trans (hb.mono HXa.out.1.size))
          clear hb hR HXa HBa
          go_wp2_with fail
          refine (lw_on HXb.out.1).mono ?_
          rintro e wc ⟨rfl, hwc⟩
          have hwc' := hwc.symm
          subst hwc'
          clear hwc
          rw [HFC.out.2.1]
          go_wp2_with fail
          refine (lw_pend HXb.out.1).mono ?_
          rintro e wd ⟨Ad, cd, rfl, _, hb⟩
          rw [HFC.out.2.2.1]
          have HXd := Aside0.mk (And.intro (HXb.out.1.below hb) (And.intro (Kd.R_reads' (Kd.R_below HXb.out.2.1 hb)).2.2 (And.intro (Kd.R_reads' (Kd.R_below HXb.out.2.2.1 hb)).2.2 (Kd.R_reads' (Kd.R_below HXb.out.2.2.2 hb)).2.2)))
          rw [← HN6.out, HLI.out] at HXd
          have HBd := Aside0.mk (HBb.out.trans (hb.mono HXb.out.1.size))
          clear hb HXb HBb
          go_wp2_with fail
          go_loopg [18] i (fun kq v18 w' => ∃ j : Nat, v18 = .int .i64 j ∧ Aside0 (j + kq = i) ∧ Aside0 (Lw w.heap.size 400000 w' g s2 ∧ Kd.string.C w' A6 i (listV S0) ∧ Kd.string.C w' An i ((listV S0).map (wasOf S0)) ∧ Kd.string.C w' Ab i (listV S0)) ∧ Aside0 (Below w.heap.size w w'))
          case atStart => exact ⟨0, rfl, ⟨by omega⟩, HXd, HBd⟩
          case round =>
            clear HXd HBd
            obtain ⟨j, rfl, HJ, HX, HB⟩ := hrel
            by_cases hlt : j < i
            · have d6 : decide ((j : Int) < (i : Int)) = true := decide_eq_true (by omega)
              have d7 : decide (j < i) = true := decide_eq_true hlt
              have j0 : (0 : Int) ≤ (j : Int) := by omega
              have j1 : (j : Int) < (i : Int) := by omega
              obtain ⟨ad2, hli, hA0, k0⟩ := at_S HX.out.2.2.2 j hlt
              subst hA0
              have HAT := Aside0.mk (List.getElem?_eq_getElem hli)
              generalize (listV S0)[j] = n at k0 HAT
              have HFR := Aside0.mk (HFC.out.2.2.2 n (List.mem_of_getElem? HAT.out))
              have HMR := Aside0.mk (mid_read HI0.out HOF.out (HM6.out) (List.mem_of_getElem? HAT.out))
              have HSN : Aside0 (n.size ≤ maxLen) := ⟨by have := HLS.out n (List.mem_of_getElem? HAT.out); simp only [maxLen]; omega⟩
              have HLTJ := Aside0.mk hlt
              clear hli hlt
              go_wp2_with fail
              refine (lw_read n HX.out.1 HSN.out).mono ?_
              rintro e w7 ⟨vb, rfl, hR, hb⟩
              rw [HFR.out] at hR
              rw [HFR.out, HMR.out.2]
              obtain ⟨A7, c7, rfl⟩ := Kd.R_slice hR
              obtain ⟨m, hm⟩ : ∃ m, m = (S0.read n).1.length := ⟨_, rfl⟩
              have HX7 := Aside0.mk (And.intro (HX.out.1.below hb) (And.intro (Kd.C_below HX.out.2.1 hb) (And.intro (Kd.C_below HX.out.2.2.1 hb) (Kd.C_below HX.out.2.2.2 hb))))
              have HB7 := Aside0.mk (HB.out.trans (hb.mono HX.out.1.size))
              have hstr : (convert 30 9 (.slice A7 (S0.read n).1.length c7)).run Try.prog w7.drew = .ok (.string (wasOf S0 n)) w7.drew := bytes_str (Kd.R_below hR (below_drew (Below.refl _ _)))
              rw [← hm] at hstr ⊢
              clear hR hb hm k0 HX HB
              have hC8 := Kd.C_below HX7.out.2.1 (w1 := w7.drew) (below_drew (Below.refl _ _))
              have hC9 := Kd.C_below HX7.out.2.2.1 (w1 := w7.drew) (below_drew (Below.refl _ _))
              have hC10 := Kd.C_below HX7.out.2.2.2 (w1 := w7.drew) (below_drew (Below.refl _ _))
              obtain ⟨ad8, hl8, hA8, k8⟩ := at_S hC8 j HLTJ.out
              obtain ⟨ad9, hl9, hA9, k9⟩ := at_S hC9 j HLTJ.out
              obtain ⟨ad10, hl10, hA10, k10⟩ := at_S hC10 j HLTJ.out
              cases hA10
              subst hA8
              subst hA9
              have e8 : (listV S0)[j] = n := by have h := HAT.out; rw [List.getElem?_eq_getElem hl8] at h; exact Option.some.inj h
              have e9 : ((listV S0).map (wasOf S0))[j] = wasOf S0 n := by rw [List.getElem_map, e8]
              rw [e8] at k8 k10
              rw [e9] at k9
              clear e8 e9 hl8 hl9 hl10 hC8 hC9 hC10
              go_upto_region 28 with fail
              refine start_ (n := 22) (S := fun w' => w'.cell? (ad2.add j) = some (.string n) ∧ w'.cell? (ad8.add j) = some (.string n) ∧ w'.cell? (ad9.add j) = some (.string (wasOf S0 n)) ∧ (convert 30 9 (.slice A7 m c7)).run Try.prog w' = .ok (.string (wasOf S0 n)) w') (ds := []) #[false, false, false, false, false, false, false, false, false, false, false, false, false, false, false, false, false, false, false, false, false, false] (by kernel_rfl) rfl rfl ⟨k10, k8, k9, hstr⟩ (fun hHeld => ?_)
              refine with_tabW F6Rtab28 F6Rbits28 (fun HT_ HW_ => ?_)
              refine pure_ (i := 0) (N := some 125) (v := ?_) (a' := ?_) #[true, false, false, false, false, false, false, false, false, false, false, false, false, false, false, false, false, false, false, false, false, false] rfl rfl (any_of HT_.out (by kernel_rfl)) (fun _ _ _ h => h) (Or.inl ⟨by rfl, ?_⟩) ?_ ?_
              rotate_left
              · intro w'
                go_simp
                with_reducible rfl
              rotate_left
              · simp only [Act.put, List.setIfInBounds_toArray, List.set_cons_zero, List.set_cons_succ, i64_w, i32_w]
                rfl
              refine pure_ (i := 1) (N := some 126) (v := ?_) (a' := ?_) #[true, true, false, false, false, false, false, false, false, false, false, false, false, false, false, false, false, false, false, false, false, false] rfl rfl (any_of HT_.out (by kernel_rfl)) (fun _ _ _ h => h) (Or.inl ⟨by rfl, ?_⟩) ?_ ?_
              rotate_left
              · intro w'
                go_simp
                with_reducible rfl
              rotate_left
              · simp only [Act.put, List.setIfInBounds_toArray, List.set_cons_zero, List.set_cons_succ, i64_w, i32_w]
                rfl
              refine pure_ (i := 2) (N := some 127) (v := ?_) (a' := ?_) #[true, true, true, false, false, false, false, false, false, false, false, false, false, false, false, false, false, false, false, false, false, false] rfl rfl (any_of HT_.out (by kernel_rfl)) (fun _ _ _ h => h) (Or.inl ⟨by rfl, ?_⟩) ?_ ?_
              rotate_left
              · intro w'
                go_simp
                with_reducible rfl
              rotate_left
              · simp only [Act.put, List.setIfInBounds_toArray, List.set_cons_zero, List.set_cons_succ, i64_w, i32_w]
                rfl
              refine pure_ (i := 4) (N := some 129) (v := ?_) (a' := ?_) #[true, true, true, false, true, false, false, false, false, false, false, false, false, false, false, false, false, false, false, false, false, false] rfl rfl (any_of HT_.out (by kernel_rfl)) (fun _ _ _ h => h) (Or.inl ⟨by rfl, ?_⟩) ?_ ?_
              rotate_left
              · intro w'
                go_simp
                with_reducible rfl
              rotate_left
              · simp only [Act.put, List.setIfInBounds_toArray, List.set_cons_zero, List.set_cons_succ, i64_w, i32_w]
                rfl
              refine pure_ (i := 5) (N := some 130) (v := ?_) (a' := ?_) #[true, true, true, false, true, true, false, false, false, false, false, false, false, false, false, false, false, false, false, false, false, false] rfl rfl (any_of HT_.out (by kernel_rfl)) (fun _ _ _ h => h) (Or.inl ⟨by rfl, ?_⟩) ?_ ?_
              rotate_left
              · intro w'
                go_simp
                with_reducible rfl
              rotate_left
              · simp only [Act.put, List.setIfInBounds_toArray, List.set_cons_zero, List.set_cons_succ, i64_w, i32_w]
                rfl
              refine pure_ (i := 6) (N := some 131) (v := ?_) (a' := ?_) #[true, true, true, false, true, true, true, false, false, false, false, false, false, false, false, false, false, false, false, false, false, false] rfl rfl (any_of HT_.out (by kernel_rfl)) (fun _ _ _ h => h) (Or.inl ⟨by rfl, ?_⟩) ?_ ?_
              rotate_left
              · intro w'
                go_simp
                with_reducible rfl
              rotate_left
              · simp only [Act.put, List.setIfInBounds_toArray, List.set_cons_zero, List.set_cons_succ, i64_w, i32_w]
                rfl
              refine take_ (i := 3) (N := some 128) (v := ?_) (a' := ?_) #[true, true, true, true, true, true, true, false, false, false, false, false, false, false, false, false, false, false, false, false, false, false] rfl rfl (take_ofW HT_.out HW_.out (by kernel_rfl)) (fun _ _ _ h => h) (Or.inl ⟨by rfl, ?_⟩) hHeld ?_ ?_
              rotate_left
              · rintro w' ⟨s0, s1, s2, s3⟩
                go_simp
                with_reducible rfl
              rotate_left
              · simp only [Act.put, List.setIfInBounds_toArray, List.set_cons_zero, List.set_cons_succ, i64_w, i32_w]
                rfl
              refine take_ (i := 7) (N := some 132) (v := ?_) (a' := ?_) #[true, true, true, true, true, true, true, true, false, false, false, false, false, false, false, false, false, false, false, false, false, false] rfl rfl (take_ofW HT_.out HW_.out (by kernel_rfl)) (fun _ _ _ h => h) (Or.inl ⟨by rfl, ?_⟩) hHeld ?_ ?_
              rotate_left
              · rintro w' ⟨s0, s1, s2, s3⟩
                go_simp
                with_reducible rfl
              rotate_left
              · simp only [Act.put, List.setIfInBounds_toArray, List.set_cons_zero, List.set_cons_succ, i64_w, i32_w]
                rfl
              refine pure_ (i := 8) (N := some 133) (v := ?_) (a' := ?_) #[true, true, true, true, true, true, true, true, true, false, false, false, false, false, false, false, false, false, false, false, false, false] rfl rfl (any_of HT_.out (by kernel_rfl)) (fun _ _ _ h => h) (Or.inl ⟨by rfl, ?_⟩) ?_ ?_
              rotate_left
              · intro w'
                go_simp
                with_reducible rfl
              rotate_left
              · simp only [Act.put, List.setIfInBounds_toArray, List.set_cons_zero, List.set_cons_succ, i64_w, i32_w]
                rfl
              refine pure_ (i := 9) (N := some 134) (v := ?_) (a' := ?_) #[true, true, true, true, true, true, true, true, true, true, false, false, false, false, false, false, false, false, false, false, false, false] rfl rfl (any_of HT_.out (by kernel_rfl)) (fun _ _ _ h => h) (Or.inl ⟨by rfl, ?_⟩) ?_ ?_
              rotate_left
              · intro w'
                go_simp
                with_reducible rfl
              rotate_left
              · simp only [Act.put, List.setIfInBounds_toArray, List.set_cons_zero, List.set_cons_succ, i64_w, i32_w]
                rfl
              refine pure_ (i := 10) (N := some 135) (v := ?_) (a' := ?_) #[true, true, true, true, true, true, true, true, true, true, true, false, false, false, false, false, false, false, false, false, false, false] rfl rfl (any_of HT_.out (by kernel_rfl)) (fun _ _ _ h => h) (Or.inl ⟨by rfl, ?_⟩) ?_ ?_
              rotate_left
              · intro w'
                go_simp
                with_reducible rfl
              rotate_left
              · simp only [Act.put, List.setIfInBounds_toArray, List.set_cons_zero, List.set_cons_succ, i64_w, i32_w]
                rfl
              refine pure_ (i := 11) (N := some 136) (v := ?_) (a' := ?_) #[true, true, true, true, true, true, true, true, true, true, true, true, false, false, false, false, false, false, false, false, false, false] rfl rfl (any_of HT_.out (by kernel_rfl)) (fun _ _ _ h => h) (Or.inl ⟨by rfl, ?_⟩) ?_ ?_
              rotate_left
              · intro w'
                go_simp
                with_reducible rfl
              rotate_left
              · simp only [Act.put, List.setIfInBounds_toArray, List.set_cons_zero, List.set_cons_succ, i64_w, i32_w]
                rfl
              refine pure_ (i := 12) (N := some 137) (v := ?_) (a' := ?_) #[true, true, true, true, true, true, true, true, true, true, true, true, true, false, false, false, false, false, false, false, false, false] rfl rfl (any_of HT_.out (by kernel_rfl)) (fun _ _ _ h => h) (Or.inl ⟨by rfl, ?_⟩) ?_ ?_
              rotate_left
              · intro w'
                go_simp
                with_reducible rfl
              rotate_left
              · simp only [Act.put, List.setIfInBounds_toArray, List.set_cons_zero, List.set_cons_succ, i64_w, i32_w]
                rfl
              refine pure_ (i := 13) (N := some 138) (v := ?_) (a' := ?_) #[true, true, true, true, true, true, true, true, true, true, true, true, true, true, false, false, false, false, false, false, false, false] rfl rfl (any_of HT_.out (by kernel_rfl)) (fun _ _ _ h => h) (Or.inl ⟨by rfl, ?_⟩) ?_ ?_
              rotate_left
              · intro w'
                go_simp
                with_reducible rfl
              rotate_left
              · simp only [Act.put, List.setIfInBounds_toArray, List.set_cons_zero, List.set_cons_succ, i64_w, i32_w]
                rfl
              refine pure_ (i := 14) (N := some 139) (v := ?_) (a' := ?_) #[true, true, true, true, true, true, true, true, true, true, true, true, true, true, true, false, false, false, false, false, false, false] rfl rfl (any_of HT_.out (by kernel_rfl)) (fun _ _ _ h => h) (Or.inl ⟨by rfl, ?_⟩) ?_ ?_
              rotate_left
              · intro w'
                go_simp
                with_reducible rfl
              rotate_left
              · simp only [Act.put, List.setIfInBounds_toArray, List.set_cons_zero, List.set_cons_succ, i64_w, i32_w]
                rfl
              refine pure_ (i := 16) (N := some 141) (v := ?_) (a' := ?_) #[true, true, true, true, true, true, true, true, true, true, true, true, true, true, true, false, true, false, false, false, false, false] rfl rfl (any_of HT_.out (by kernel_rfl)) (fun _ _ _ h => h) (Or.inl ⟨by rfl, ?_⟩) ?_ ?_
              rotate_left
              · intro w'
                go_simp
                with_reducible rfl
              rotate_left
              · simp only [Act.put, List.setIfInBounds_toArray, List.set_cons_zero, List.set_cons_succ, i64_w, i32_w]
                rfl
              refine pure_ (i := 17) (N := some 142) (v := ?_) (a' := ?_) #[true, true, true, true, true, true, true, true, true, true, true, true, true, true, true, false, true, true, false, false, false, false] rfl rfl (any_of HT_.out (by kernel_rfl)) (fun _ _ _ h => h) (Or.inl ⟨by rfl, ?_⟩) ?_ ?_
              rotate_left
              · intro w'
                go_simp
                with_reducible rfl
              rotate_left
              · simp only [Act.put, List.setIfInBounds_toArray, List.set_cons_zero, List.set_cons_succ, i64_w, i32_w]
                rfl
              refine pure_ (i := 18) (N := some 143) (v := ?_) (a' := ?_) #[true, true, true, true, true, true, true, true, true, true, true, true, true, true, true, false, true, true, true, false, false, false] rfl rfl (any_of HT_.out (by kernel_rfl)) (fun _ _ _ h => h) (Or.inl ⟨by rfl, ?_⟩) ?_ ?_
              rotate_left
              · intro w'
                go_simp
                with_reducible rfl
              rotate_left
              · simp only [Act.put, List.setIfInBounds_toArray, List.set_cons_zero, List.set_cons_succ, i64_w, i32_w]
                rfl
              refine take_ (i := 15) (N := some 140) (v := ?_) (a' := ?_) #[true, true, true, true, true, true, true, true, true, true, true, true, true, true, true, true, true, true, true, false, false, false] rfl rfl (take_ofW HT_.out HW_.out (by kernel_rfl)) (fun _ _ _ h => h) (Or.inl ⟨by rfl, ?_⟩) hHeld ?_ ?_
              rotate_left
              · rintro w' ⟨s0, s1, s2, s3⟩
                go_simp
                with_reducible rfl
              rotate_left
              · simp only [Act.put, List.setIfInBounds_toArray, List.set_cons_zero, List.set_cons_succ, i64_w, i32_w]
                rfl
              refine take_ (i := 19) (N := some 144) (v := ?_) (a' := ?_) #[true, true, true, true, true, true, true, true, true, true, true, true, true, true, true, true, true, true, true, true, false, false] rfl rfl (take_ofW HT_.out HW_.out (by kernel_rfl)) (fun _ _ _ h => h) (Or.inl ⟨by rfl, ?_⟩) hHeld ?_ ?_
              rotate_left
              · rintro w' ⟨s0, s1, s2, s3⟩
                go_simp
                with_reducible rfl
              rotate_left
              · simp only [Act.put, List.setIfInBounds_toArray, List.set_cons_zero, List.set_cons_succ, i64_w, i32_w]
                rfl
              refine pure_ (i := 20) (N := some 145) (v := ?_) (a' := ?_) #[true, true, true, true, true, true, true, true, true, true, true, true, true, true, true, true, true, true, true, true, true, false] rfl rfl (any_of HT_.out (by kernel_rfl)) (fun _ _ _ h => h) (Or.inl ⟨by rfl, ?_⟩) ?_ ?_
              rotate_left
              · intro w'
                go_simp
                with_reducible rfl
              rotate_left
              · simp only [Act.put, List.setIfInBounds_toArray, List.set_cons_zero, List.set_cons_succ, i64_w, i32_w]
                rfl
              refine pure_ (i := 21) (N := some 146) (v := ?_) (a' := ?_) #[true, true, true, true, true, true, true, true, true, true, true, true, true, true, true, true, true, true, true, true, true, true] rfl rfl (any_of HT_.out (by kernel_rfl)) (fun _ _ _ h => h) (Or.inl ⟨by rfl, ?_⟩) ?_ ?_
              rotate_left
              · intro w'
                go_simp
                with_reducible rfl
              rotate_left
              · simp only [Act.put, List.setIfInBounds_toArray, List.set_cons_zero, List.set_cons_succ, i64_w, i32_w]
                rfl
              refine done_ (done_of HT_.out (by kernel_rfl)) ?_
              have HX8 := Aside0.mk (And.intro (HX7.out.1.below (w' := w7.drew) (below_drew (Below.refl _ _))) (And.intro (Kd.C_below HX7.out.2.1 (w1 := w7.drew) (below_drew (Below.refl _ _))) (And.intro (Kd.C_below HX7.out.2.2.1 (w1 := w7.drew) (below_drew (Below.refl _ _))) (Kd.C_below HX7.out.2.2.2 (w1 := w7.drew) (below_drew (Below.refl _ _))))))
              have HB8 := Aside0.mk (show Below w.heap.size w w7.drew from HB7.out.drew)
              clear hHeld k8 k9 k10 hstr
              generalize w7.drew = w8 at *
              go_wp2_with fail
              go_roundg (gk - 1)
              case measure => have := HJ.out; have := HLTJ.out; omega
              case rel => exact ⟨j + 1, next_i6 (by have := HLTJ.out; have := HLN.out; omega), ⟨by have := HJ.out; have := HLTJ.out; omega⟩, HX8, HB8⟩
            · have d6 : decide ((j : Int) < (i : Int)) = false := decide_eq_false (by omega)
              have d7 : decide (j < i) = false := decide_eq_false hlt
              clear hlt
              go_wp2_with fail
              refine (alive_calls _).mono ?_
              rintro e we ⟨rfl, hb⟩
              have HBe := Aside0.mk (HB.out.trans (hb.mono HB.out.size))
              clear hb
              go_wp2_with fail
              go_ret
              exact ⟨rfl, HBe.out⟩
end
end Go.Proofs.Ytnegcjgolaakcaa

/- What a list of numbers is that came in. -/
namespace Go.Proofs.Ytnegcjgolaakcaa
open Go.RowKit
open Go.Proofs.YtnegcjgolaakcaaW.PrintWords
open Go.ChangeShapes Go.WideShapes
set_option linter.unusedVariables false
theorem keepOpen (W : World) : Opens Try.prog W 37 (Kd.slice 3 (Kd.int .i64)) (fun l => ∀ x ∈ l, x ≤ 9223372036854775807) :=
  (Opens.slice Try.underlying37 (by kernel_rfl) (Opens.int Try.underlying3)).imp fun l h x hx => i64_le (h.2.2 x hx)
end Go.Proofs.Ytnegcjgolaakcaa
