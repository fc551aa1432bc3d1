/- (*disk.Disk).settle. -/
import Derived.Test.YtnegcjgolaakcaaDB
import Derived.Test.YtnegcjgolaakcaaDA
import Derived.Laws.EntriesVeiled
import Derived.Lib.SlBytesConst
import Derived.Laws.BytesArg
namespace Go.Proofs.Ytnegcjgolaakcaa
open Go.RowKit Go.Maps
open Go.Proofs.YtnegcjgolaakcaaW.PrintWords Go.Proofs.YtnegcjgolaakcaaW.PrintLast Go.Proofs.YtnegcjgolaakcaaW.PrintMore
set_option linter.unusedVariables false
set_option linter.unusedSimpArgs false
section
variable {w w' : World} {g : Nat} {s s' : DS} {base : Nat} {ok : Nat → Prop} {nb fb : Nat} {v v1 : Value} {ad ad' : List Nat} {T : Nat}
/-- what is asked of a work, by a function value -/
def Asks (w : World) (ad : List Nat) (ws : List PW) (f : FuncId) (cap : Array Value) (is : PW → Bool) : Prop :=
  ∀ W', Stay (fun t => t ≠ 79) w W' → (∀ (i q' : Nat), ad[i]? = some q' → ∃ cc, IsB W' q' cc 79) → ∀ (p : PW) (q : Nat) (B : Option Addr) (c : Nat), p ∈ ws → ad[p.file]? = some q →
    Calls Try.prog f (#[.agg (cW (⟨p.kind, p.nm, p.tgt, p.len, q, p.b⟩ : MW) (.slice B p.b.length c))] ++ cap) W' (fun e w'' => e = .returned (.bool (is p)) ∧ Below W'.heap.size W' w'')
/-- what has been made fast of the first works, and what has not -/
def doneS (s : DS) (is : PW → Bool) (i : Nat) : DS := ((s.works.take i).filter is).foldl (fun s w => s.work w w.b.length) s
def restS (s : DS) (is : PW → Bool) (i : Nat) : List PW := (s.works.take i).filter (fun w => !is w)
theorem done_next {s : DS} {is : PW → Bool} {i : Nat} {p : PW} (h : s.works[i]? = some p) : doneS s is (i + 1) = if is p = true then (doneS s is i).work p p.b.length else doneS s is i := by
  obtain ⟨hl, rfl⟩ := List.getElem?_eq_some_iff.1 h
  unfold doneS
  rw [List.take_succ_eq_append_getElem hl, List.filter_append, List.foldl_append]
  cases hi : is s.works[i] <;> simp [hi]
theorem rest_next {s : DS} {is : PW → Bool} {i : Nat} {p : PW} (h : s.works[i]? = some p) : restS s is (i + 1) = if is p = true then restS s is i else restS s is i ++ [p] := by
  obtain ⟨hl, rfl⟩ := List.getElem?_eq_some_iff.1 h
  unfold restS
  rw [List.take_succ_eq_append_getElem hl, List.filter_append]
  cases hi : is s.works[i] <;> simp [hi]
theorem fold_works (ws : List PW) : ∀ (s : DS), (ws.foldl (fun s w => s.work w w.b.length) s).works = s.works ∧ (ws.foldl (fun s w => s.work w w.b.length) s).files.length = s.files.length := by
  induction ws with
  | nil => exact fun s => ⟨rfl, rfl⟩
  | cons p ws ih => exact fun s => ⟨(ih _).1.trans (work_works s p _), (ih _).2.trans (work_len p _)⟩
theorem add0 (b k : Nat) : (⟨b, 0, none⟩ : Addr).add k = ⟨b, k, none⟩ := by
  unfold Addr.add
  split
  · rename_i h
    subst h
    rfl
  · simp
theorem at_WR {gw n c : Nat} {xs : List MW} (h : workK.R 76 w base ok (.slice (some ⟨gw, 0, none⟩) n c) xs) (i : Nat) (h1 : i < n) {x : MW} (hx : xs[i]? = some x) : ∃ (B : Option Addr) (cb : Nat), w.cell? ⟨gw, i * 6, none⟩ = some (.int .i64 x.kind) ∧ w.cell? ⟨gw, i * 6 + 1, none⟩ = some (.string x.nm) ∧ w.cell? ⟨gw, i * 6 + 2, none⟩ = some (.string x.tgt) ∧ w.cell? ⟨gw, i * 6 + 3, none⟩ = some (.int .i64 x.len) ∧ w.cell? ⟨gw, i * 6 + 4, none⟩ = some (ptrV x.f) ∧ w.cell? ⟨gw, i * 6 + 5, none⟩ = some (.slice B x.b.length cb) ∧ bK.R 5 w base (fun k => ok k ∧ k ≠ gw) (.slice B x.b.length cb) x.b := by
  obtain ⟨cs, _, hM, hc, _⟩ := Kd.R_elem h x (i : Int) (by omega) (by omega)
  have hg : xs.getD ((i : Int)).toNat x = x := by
    rw [List.getD_eq_getElem?_getD, Int.toNat_natCast, hx]
    rfl
  rw [hg] at hM
  have hc' : ∀ (j : Nat) (u : Value), cs[j]? = some u → w.cell? ⟨gw, i * 6 + j, none⟩ = some u := hc
  obtain ⟨vb, rfl, hR⟩ := workK_openM hM
  obtain ⟨B, cb, rfl⟩ := Kd.R_slice hR
  exact ⟨B, cb, hc' 0 _ rfl, hc' 1 _ rfl, hc' 2 _ rfl, hc' 3 _ rfl, hc' 4 _ rfl, hc' 5 _ rfl, hR⟩
theorem drop_next {s : DS} {i : Nat} {p : PW} (h : s.works[i]? = some p) : wkN (s.works.drop i) = p.b.length + wkN (s.works.drop (i + 1)) := by
  obtain ⟨hl, rfl⟩ := List.getElem?_eq_some_iff.1 h
  rw [List.drop_eq_getElem_cons hl, wkN_cons]
theorem done_works (s : DS) (is : PW → Bool) (i : Nat) : (doneS s is i).works = s.works := (fold_works _ s).1
theorem done_len (s : DS) (is : PW → Bool) (i : Nat) : (doneS s is i).files.length = s.files.length := (fold_works _ s).2
set_option maxHeartbeats 4000000 in
set_option maxRecDepth 100000 in
theorem settle_calls (f : FuncId) (cap : Array Value) (is : PW → Bool) (h : DiskAt w g s base ok nb fb v ad) (hI : s.Inv T) (hT : T ≤ 1073741824) (hfresh : ∀ k, w.heap.size ≤ k → ok k) (hE : Enters f) (hdo : Asks w ad s.works f cap is) :
    Calls Try.prog 47 #[ptrV g, .func (.func f) #[] cap] w fun e w' => e = .returned (.tuple #[]) ∧ ∃ v', DiskAt w' g (s.settle is) base ok nb fb v' ad ∧ Fr ok w w' := by
  have hFI := (Inv_FI.1 hI)
  have hok : ∃ A c, v = .slice A s.works.length c := by
    obtain ⟨A, c, e⟩ := Kd.R_slice h.wks
    rw [List.length_map] at e
    exact ⟨A, c, e⟩
  obtain ⟨A, c, rfl⟩ := hok
  have y4 : w.cell? ⟨g, 4, none⟩ = some (.slice A s.works.length c) := (blk_cell h.blk 4).trans rfl
  have hgs := blk_lt h.blk
  have HW := Aside0.mk (Kd.R_lt h.wks)
  have H := Aside0.mk h
  have HT := Aside0.mk hT
  have HF := Aside0.mk hfresh
  have HFI := Aside0.mk hFI
  have HE := Aside0.mk hE
  have HD := Aside0.mk hdo
  clear h hI hT hfresh hFI hE hdo
  go_enter Try.func47, Try.ntmps47
  go_wp2_with fail
  go_loopg [4, 12] s.works.length (fun kq v4 v12 w' => ∃ (i : Nat), v12 = .int .i64 i ∧ Aside0 (i + kq = s.works.length) ∧ Aside0 (workK.R 76 w' base ok v4 ((restS s is i).map (mwOf ad)) ∧ (∀ k, v4.ownBlock = some k → w.heap.size ≤ k)) ∧ Aside0 (FI T (doneS s is i) (wkN (s.works.drop i))) ∧ Aside0 (DiskAt w' g (doneS s is i) base (fun k => ok k ∧ some k ≠ v4.ownBlock) nb fb (.slice A s.works.length c) ad) ∧ Aside0 (Fr ok w w' ∧ Stay (fun t => t ≠ 79) w w'))
  case atStart => exact ⟨0, rfl, ⟨by omega⟩, ⟨Kd.R_nil _ _ _ _ _, fun k hk => by simp [Value.ownBlock] at hk⟩, ⟨HFI.out.1⟩, ⟨H.out.mono (fun k hk => ⟨hk, by simp [Value.ownBlock]⟩)⟩, ⟨Fr.refl _ _, fun _ _ _ _ _ => rfl⟩⟩
  case round =>
    clear y4 hgs
    obtain ⟨i, rfl, HI, HR, HFD, HDK, HFr⟩ := hrel
    have hRr := HDK.out.wks
    rw [done_works] at hRr
    by_cases hlt : i < s.works.length
    · have d6 : decide ((i : Int) < (s.works.length : Int)) = true := decide_eq_true (by omega)
      have d7 : decide (i < s.works.length) = true := decide_eq_true hlt
      have j0 : (0 : Int) ≤ (i : Int) := by omega
      have j1 : (i : Int) < (s.works.length : Int) := by omega
      obtain ⟨gw, cw, ev, hgw1, hgw2, hgw3⟩ := Kd.R_form hRr (by rw [List.length_map]; omega)
      injection ev with e1 e2 e3
      subst e1
      obtain ⟨p, hp⟩ : ∃ p, p = s.works[i] := ⟨_, rfl⟩
      have hpi : s.works[i]? = some p := by rw [hp, List.getElem?_eq_getElem hlt]
      have hpm : p ∈ s.works := List.mem_of_getElem? hpi
      obtain ⟨q, hq⟩ : ∃ q, ad[p.file]? = some q := ⟨_, List.getElem?_eq_getElem (by rw [H.out.len]; exact (HFI.out.2.1 p hpm).1)⟩
      have em : mwOf ad p = (⟨p.kind, p.nm, p.tgt, p.len, q, p.b⟩ : MW) := mw_at hq _ _ _ _ _
      obtain ⟨B, cb, m0, m1, m2, m3, m4, m5, hBR⟩ := at_WR hRr i hlt (by rw [List.getElem?_map, hpi, Option.map_some, em])
      have HP := Aside0.mk (And.intro hpi (And.intro hpm hq))
      have HBR := Aside0.mk hBR
      have HRL := Aside0.mk (Kd.R_lt HR.out.1)
      clear hRr hgw1 hgw3 hp hpi hpm hq em hBR e2 e3
      go_wp2_with fail
      have H1 := Aside0.mk (HDK.out.below (w' := wr.alloc (.cells #[.int .i64 p.kind, .string p.nm, .string p.tgt, .int .i64 p.len, ptrV q, .slice B p.b.length cb] 76)) (below_alloc (Below.refl _ _) _))
      have HB1 := Aside0.mk (show Below wr.heap.size wr (wr.alloc (.cells #[.int .i64 p.kind, .string p.nm, .string p.tgt, .int .i64 p.len, ptrV q, .slice B p.b.length cb] 76)) from below_alloc (Below.refl _ _) _)
      have HW1 := Aside0.mk (blk_new wr (.cells #[.int .i64 p.kind, .string p.nm, .string p.tgt, .int .i64 p.len, ptrV q, .slice B p.b.length cb] 76))
      rw [HE.out, Oper.upon_enter]
      generalize wr.alloc (.cells #[.int .i64 p.kind, .string p.nm, .string p.tgt, .int .i64 p.len, ptrV q, .slice B p.b.length cb] 76) = w1 at *
      refine (HD.out w1 (HFr.out.2.trans (Stay.of_below HB1.out _)) (fun j q' hq' => file_blk H1.out hq') p q B cb HP.out.2.1 HP.out.2.2).mono ?_
      rintro e w2 ⟨rfl, hb2⟩
      have H2 := Aside0.mk (H1.out.below hb2)
      have HB2 := Aside0.mk (HB1.out.trans (hb2.mono HB1.out.size))
      have HW2 := Aside0.mk (blk_below HW1.out hb2)
      have HBR2 := Aside0.mk (Kd.R_below HBR.out HB2.out)
      have HR2 := Aside0.mk (Kd.R_below HR.out.1 HB2.out)
      have HF2 := Aside0.mk (HFr.out.1.trans (Fr.ofBelow (S := ok) HB2.out) (fun _ h _ => h))
      have HS2 := Aside0.mk (HFr.out.2.trans (Stay.of_below HB2.out (fun t => t ≠ 79)))
      clear hb2 m0 m1 m2 m3 m4 m5 H1 HB1 HW1
      generalize wr.heap.size = gx at *
      have k0 : w2.cell? ⟨gx, 0, none⟩ = some (.int .i64 p.kind) := (blk_cell HW2.out 0).trans rfl
      have k1 : w2.cell? ⟨gx, 1, none⟩ = some (.string p.nm) := (blk_cell HW2.out 1).trans rfl
      have k2 : w2.cell? ⟨gx, 2, none⟩ = some (.string p.tgt) := (blk_cell HW2.out 2).trans rfl
      have k3 : w2.cell? ⟨gx, 3, none⟩ = some (.int .i64 p.len) := (blk_cell HW2.out 3).trans rfl
      have k4 : w2.cell? ⟨gx, 4, none⟩ = some (ptrV q) := (blk_cell HW2.out 4).trans rfl
      have k5 : w2.cell? ⟨gx, 5, none⟩ = some (.slice B p.b.length cb) := (blk_cell HW2.out 5).trans rfl
      have hgx := blk_lt HW2.out
      cases his : is p with
      | true =>
        have HIS := Aside0.mk his
        clear his
        go_wp2_with fail
        refine (make_calls (e := wkN (s.works.drop (i + 1))) p p.b.length B cb q H2.out (by rw [← drop_next HP.out.1]; exact HFD.out) HT.out (fun k hk => ⟨HF.out k (Nat.le_trans HF2.out.size hk), fun e => by have h1 := HRL.out k e.symm; have h2 := HB2.out.size; omega⟩) HP.out.2.2 (by rw [done_len]; exact HFI.out.2.1 p HP.out.2.1) (Kd.R_reads' HBR2.out).2.1 (Kd.R_reads' HBR2.out).2.2 (by have h1 := HFD.out.old; rw [drop_next HP.out.1] at h1; have := HT.out; omega)).mono ?_
        rintro e w3 ⟨rfl, hd3, hf3, hs3⟩
        have H3 := Aside0.mk hd3
        have HF3 := Aside0.mk (HF2.out.trans hf3 (fun _ h _ => h.1))
        have HS3 := Aside0.mk (HS2.out.trans hs3)
        have HR3 := Aside0.mk (R_objs HR2.out hs3 (fun t ht => by rcases wK_E t ht with rfl | rfl <;> decide))
        have HN := Aside0.mk (done_next (is := is) HP.out.1)
        have HN2 := Aside0.mk (rest_next (is := is) HP.out.1)
        clear hd3 hf3 hs3 k0 k1 k2 k3 k4 k5 hgx
        go_wp2_with fail
        go_roundg (gk - 1)
        case measure => have := HI.out; omega
        case rel =>
          refine ⟨i + 1, next_i6 (by have := HFI.out.2.2.1; have := HT.out; omega), ⟨by have := HI.out; omega⟩, ⟨?_, HR.out.2⟩, ⟨?_⟩, ⟨?_⟩, ⟨HF3.out, HS3.out⟩⟩
          · rw [HN2.out, if_pos HIS.out]; exact HR3.out
          · rw [HN.out, if_pos HIS.out]
            exact FI.work (by rw [← drop_next HP.out.1]; exact HFD.out) (by rw [done_len]; exact HFI.out.2.1 p HP.out.2.1) _
          · rw [HN.out, if_pos HIS.out]; exact H3.out
      | false =>
        have HIS := Aside0.mk his
        clear his
        have HN := Aside0.mk (done_next (is := is) HP.out.1)
        have HN2 := Aside0.mk (rest_next (is := is) HP.out.1)
        have HLR : Aside0 ((restS s is i).length ≤ 1073741824) := ⟨by have h1 : (restS s is i).length ≤ (s.works.take i).length := List.length_filter_le _ _; have h2 : (s.works.take i).length ≤ s.works.length := (by rw [List.length_take]; omega); have := HFI.out.2.2.1; have := HT.out; omega⟩
        obtain ⟨A4, c4, hu4⟩ := Kd.R_slice HR2.out
        generalize hln : ((restS s is i).map (mwOf ad)).length = ln at hu4
        subst hu4
        clear hln
        go_wp2_with (first | ((with_reducible refine gate_builtin (b := .append) (xs := #[.tmp 25, .tmp 27]) rfl ?_); at_builtin; refine Kd.R_append workK (w0 := w2) base rfl (.tmp 25) (.tmp 27) 66 76 (.agg #[.int .i64 0, .string ⟨#[]⟩, .string ⟨#[]⟩, .int .i64 0, .pointer none, .slice none 0 0]) 80 rfl Try.underlying66 info76 rfl (by decide) (by decide) (.slice A4 ln c4) ((restS s is i).map (mwOf ad)) (⟨p.kind, p.nm, p.tgt, p.len, q, p.b⟩ : MW) [.int .i64 p.kind, .string p.nm, .string p.tgt, .int .i64 p.len, ptrV q, .slice B p.b.length cb] ok (fun k => ok k ∧ some k ≠ (Value.slice A4 ln c4).ownBlock) rfl rfl ?aP (fun _ hk => hk) ?aF ?aO ?aB ?aS ?aL ?_; (case aP => exact workK_mkM _ _ _ _ (Kd.R_mono HBR2.out (fun k hk => hk.1))); (case aF => exact fun k hk => HF.out k (Nat.le_trans HF2.out.size hk)); (case aO => exact HR2.out); (case aB => exact (Below.refl _ _).mono (Nat.le_trans H2.out.okg.2 (Nat.le_of_lt (blk_lt H2.out.blk)))); (case aS => exact Nat.le_trans H2.out.okg.2 (Nat.le_of_lt (blk_lt H2.out.blk))); (case aL => rw [List.length_map]; have := HLR.out; omega); intro v3 w3 ho hb hg hat; have HO3 := Aside0.mk ho; have HG3 := Aside0.mk (And.intro hg hat); obtain ⟨A5, c5, hv5⟩ := Kd.R_slice HO3.out; generalize hln5 : ((restS s is i).map (mwOf ad) ++ [(⟨p.kind, p.nm, p.tgt, p.len, q, p.b⟩ : MW)]).length = l5 at hv5; clear ho hb hg hat hln5 k0 k1 k2 k3 k4 k5 hgx; subst hv5) | fail)
        go_roundg (gk - 1)
        case measure => have := HI.out; omega
        case rel =>
          have em : mwOf ad p = (⟨p.kind, p.nm, p.tgt, p.len, q, p.b⟩ : MW) := mw_at HP.out.2.2 _ _ _ _ _
          have hge : ∀ k, (Value.slice A5 l5 c5).ownBlock = some k → w.heap.size ≤ k := fun k hk => by
            rcases HG3.out.2 with h1 | ⟨b, h1, h2⟩
            · rw [h1] at hk; exact HR.out.2 k hk
            · rw [h1] at hk
              injection hk with hk
              have := HF2.out.size
              omega
          refine ⟨i + 1, next_i6 (by have := HFI.out.2.2.1; have := HT.out; omega), ⟨by have := HI.out; omega⟩, ⟨?_, hge⟩, ⟨?_⟩, ⟨?_⟩, ⟨HF2.out.grown HG3.out.1 (fun k e hlt => by have := HR.out.2 k e; omega), fun k c t ht hc => (HG3.out.1.block k (Nat.lt_of_lt_of_le (blk_lt hc) HF2.out.size) (fun e => by have h1 := HR.out.2 k e.symm; have h2 := blk_lt hc; omega)).trans (HS2.out k c t ht hc)⟩⟩
          · rw [HN2.out, if_neg (by rw [HIS.out]; decide), List.map_append, List.map_cons, List.map_nil, em]; exact HO3.out
          · rw [HN.out, if_neg (by rw [HIS.out]; decide)]
            have h1 := HFD.out
            rw [drop_next HP.out.1] at h1
            exact ⟨h1.nm, h1.fs, h1.okn, h1.okf, h1.lf, h1.now, by have := h1.old; omega⟩
          · rw [HN.out, if_neg (by rw [HIS.out]; decide)]
            refine (H2.out.bound.step (fun k hk hlt => HG3.out.1.block k hlt hk.1.2)).mono (fun k hk => ⟨hk.1.1, fun e => ?_⟩)
            rcases HG3.out.2 with h1 | ⟨b, h1, h2⟩
            · rw [h1] at e; exact hk.1.2 e
            · rw [h1] at e
              injection e with e
              have := hk.2.2
              omega
    · have d6 : decide ((i : Int) < (s.works.length : Int)) = false := decide_eq_false (by omega)
      have d7 : decide (i < s.works.length) = false := decide_eq_false hlt
      have HII : Aside0 (i = s.works.length) := ⟨by have := HI.out; omega⟩
      have hgs := blk_lt HDK.out.blk
      have f4 := blk_frozen HDK.out.blk 4
      have y4 : wr.cell? ⟨g, 4, none⟩ = some (.slice A s.works.length c) := (blk_cell HDK.out.blk 4).trans rfl
      obtain ⟨A4, c4, hu4⟩ := Kd.R_slice HR.out.1
      generalize hln : ((restS s is i).map (mwOf ad)).length = ln at hu4
      subst hu4
      clear hln hRr hlt
      go_wp2_with fail
      go_end0
      refine ⟨rfl, .slice A4 ln c4, ?_, Fr.setCell (S := ok) (p := ⟨g, 4, none⟩) HFr.out.1 (fun _ => H.out.okg.1) _⟩
      have h9 := (HDK.out.mono (ok' := ok) (fun k hk => hk.1)).newRow HR.out.1
      have e9 : s.settle is = { doneS s is i with works := restS s is i } := by
        unfold DS.settle doneS restS
        rw [HII.out, List.take_length]
      rw [e9]
      exact h9
end
end Go.Proofs.Ytnegcjgolaakcaa

/- Flush and Sync, Remove and Rename. -/
namespace Go.Proofs.Ytnegcjgolaakcaa
open Go.RowKit Go.Maps
open Go.Proofs.YtnegcjgolaakcaaW.PrintWords Go.Proofs.YtnegcjgolaakcaaW.PrintLast Go.Proofs.YtnegcjgolaakcaaW.PrintMore
set_option linter.unusedVariables false
set_option linter.unusedSimpArgs false
section
variable {w w' : World} {g : Nat} {s s' : DS} {base : Nat} {ok : Nat → Prop} {nb fb : Nat} {v v1 : Value} {ad ad' : List Nat} {T : Nat}
set_option maxHeartbeats 4000000 in
set_option maxRecDepth 100000 in
theorem bytesOf_calls (x : MW) (vb : Value) (B : Option Addr) (c n q : Nat) (hv : vb = .slice B n c) {cx cq : Array Value} (hx : IsB w x.f cx 79) (hq : IsB w q cq 79) :
    Calls Try.prog 49 #[.agg (cW x vb), ptrV q] w fun e w' => e = .returned (.bool (decide (x.f = q) && decide (x.kind ≤ 2))) ∧ Below w.heap.size w w' := by
  subst hv
  have HQ : Aside0 ((binOp .eql 71 (ptrV x.f) (ptrV q)).run Try.prog (w.alloc (.cells (cW x (.slice B n c)) 76)) = .ok (.bool (decide (x.f = q))) (w.alloc (.cells (cW x (.slice B n c)) 76))) := ⟨by
    have h := eql_run (w := w.alloc (.cells (cW x (.slice B n c)) 76)) (c := some x.f) (q := q) (blk_alloc hq _) (fun c' e => by cases e; exact ⟨_, blk_alloc hx _⟩)
    rw [show decide (some x.f = some q) = decide (x.f = q) by simp] at h
    exact h⟩
  clear hx hq
  by_cases hf : x.f = q
  · rw [decide_eq_true hf] at HQ ⊢
    by_cases hk : x.kind ≤ 2
    · have d1 : decide (x.kind ≤ 2) = true := decide_eq_true hk
      rw [d1]
      clear hf hk
      go_enter Try.func49, Try.ntmps49
      go_wp2_with (first | (refine wpList_eql71 rfl _ _ _ rfl _ _ true rfl rfl HQ.out ?_) | fail)
      go_ret
      exact ⟨rfl, below_alloc (Below.refl _ _) _⟩
    · have d1 : decide (x.kind ≤ 2) = false := decide_eq_false hk
      rw [d1]
      clear hf hk
      go_enter Try.func49, Try.ntmps49
      go_wp2_with (first | (refine wpList_eql71 rfl _ _ _ rfl _ _ true rfl rfl HQ.out ?_) | fail)
      go_ret
      exact ⟨rfl, below_alloc (Below.refl _ _) _⟩
  · rw [decide_eq_false hf] at HQ ⊢
    clear hf
    go_enter Try.func49, Try.ntmps49
    go_wp2_with (first | (refine wpList_eql71 rfl _ _ _ rfl _ _ false rfl rfl HQ.out ?_) | fail)
    go_ret
    exact ⟨rfl, below_alloc (Below.refl _ _) _⟩
set_option maxHeartbeats 4000000 in
set_option maxRecDepth 100000 in
theorem flushIs_calls (x : MW) (B : Option Addr) (c n q g3 : Nat) {cx cq : Array Value} (h3 : IsB w g3 #[ptrV q] 71) (hx : IsB w x.f cx 79) (hq : IsB w q cq 79) :
    Calls Try.prog 48 #[.agg (cW x (.slice B n c)), ptrV g3] w fun e w' => e = .returned (.bool (decide (x.f = q) && decide (x.kind ≤ 2))) ∧ Below w.heap.size w w' := by
  have c3 : w.cell? ⟨g3, 0, none⟩ = some (ptrV q) := (blk_cell h3 0).trans rfl
  have hl3 := blk_lt h3
  have HX := Aside0.mk (bytesOf_calls (w := w.alloc (.cells (cW x (.slice B n c)) 76)) x _ B c n q rfl (blk_alloc hx _) (blk_alloc hq _))
  clear h3 hx hq
  go_enter Try.func48, Try.ntmps48
  go_wp2_with fail
  refine HX.out.mono ?_
  rintro e w1 ⟨rfl, hb⟩
  have HB := Aside0.mk ((below_alloc (Below.refl w.heap.size w) (.cells (cW x (.slice B n c)) 76)).trans (hb.mono (by simp)))
  clear hb c3 hl3
  go_wp2_with fail
  go_ret
  exact ⟨rfl, HB.out⟩
set_option maxHeartbeats 4000000 in
set_option maxRecDepth 100000 in
theorem naming_calls (x : MW) (B : Option Addr) (c n : Nat) :
    Calls Try.prog 50 #[.agg (cW x (.slice B n c))] w fun e w' => e = .returned (.bool (decide (3 ≤ x.kind))) ∧ Below w.heap.size w w' := by
  go_enter Try.func50, Try.ntmps50
  go_wp2_with fail
  go_ret
  exact ⟨rfl, below_alloc (Below.refl _ _) _⟩
theorem naming_asks (ws : List PW) : Asks w ad ws 50 #[] DS.ofNames := fun W' _ _ p q B c _ _ => naming_calls _ B c _
theorem file_asks (h : DiskAt w g s base ok nb fb v ad) (hw : ∀ p ∈ s.works, p.file < s.files.length) {i q g3 : Nat} (hq : ad[i]? = some q) (h3 : IsB w g3 #[ptrV q] 71) : Asks w ad s.works 48 #[ptrV g3] (DS.ofBytes i) := by
  intro W' hS hB p q' B c hp hq'
  obtain ⟨cx, hx⟩ := hB _ _ hq'
  obtain ⟨cq, hcq⟩ := hB _ _ hq
  have hl := flushIs_calls (w := W') (⟨p.kind, p.nm, p.tgt, p.len, q', p.b⟩ : MW) B c p.b.length q g3 ((hS g3 _ 71 (by decide) h3).trans h3) hx hcq
  have e : (decide ((⟨p.kind, p.nm, p.tgt, p.len, q', p.b⟩ : MW).f = q) && decide ((⟨p.kind, p.nm, p.tgt, p.len, q', p.b⟩ : MW).kind ≤ 2)) = DS.ofBytes i p := by
    unfold DS.ofBytes
    have h1 : (q' = q) ↔ (p.file = i) := ⟨fun e => nodup_at h.nd hq' (e ▸ hq), fun e => by rw [e, hq] at hq'; exact (Option.some.inj hq').symm⟩
    show (decide (q' = q) && decide (p.kind ≤ 2)) = decide (p.file = i ∧ p.kind ≤ 2)
    rw [Bool.decide_and]
    congr 1
    exact decide_eq_decide.2 h1
  rw [e] at hl
  exact hl
def F46RT1 : Bool × List (List Nat × List Nat) := (true, [([], []), ([0], [0]), ([1], [1]), ([2], [2]), ([], []), ([3, 4], [3, 4]), ([5], [5]), ([6], [6]), ([6], [6]), ([], []), ([9, 7, 0, 1, 2, 3, 4, 5, 6, 7, 9], [7, 9]), ([8, 10, 0, 1, 2, 3, 4, 5, 6, 7, 8, 9, 10], [8])])
def F46RB1 : List Nat := [0, 1, 3, 7, 0, 31, 63, 127, 127, 0, 767, 2047]
theorem F46Rtab1 : rtab .any (opsOf Try.f46 1) = F46RT1 := by kernel_rfl
theorem F46Rbits1 : waitsOk F46RT1.2 F46RB1 = true := by kernel_rfl
set_option maxHeartbeats 4000000 in
set_option maxRecDepth 100000 in
theorem flush_do {g0 g1 : Nat} (n : ByteArray) (h0 : IsB w g0 #[ptrV g] 22) (h1 : IsB w g1 #[.string n] 9) (h : DiskAt w g s base ok nb fb v ad) (hI : s.Inv T) (hT : T ≤ 1073741824) (hfresh : ∀ k, w.heap.size ≤ k → ok k)
    (hn : namedV n = true) :
    Calls Try.prog 46 #[ptrV g0, ptrV g1] w (DiskPost w g base ok nb fb (s.flush n)) := by
  have hs := named_le hn
  obtain ⟨D, hown, hD⟩ := h.nms.open
  have c0 : w.cell? ⟨g0, 0, none⟩ = some (ptrV g) := (blk_cell h0 0).trans rfl
  have c1 : w.cell? ⟨g1, 0, none⟩ = some (.string n) := (blk_cell h1 0).trans rfl
  have y2 : w.cell? ⟨g, 2, none⟩ = some (.map (some nb)) := (blk_cell h.blk 2).trans rfl
  have hgs := blk_lt h.blk
  have HO := Aside0.mk hown
  have HD := Aside0.mk hD
  have HS := Aside0.mk hs
  have H0 := Aside0.mk h0
  have H1 := Aside0.mk h1
  have H := Aside0.mk h
  have HI := Aside0.mk hI
  have HT := Aside0.mk hT
  have HF := Aside0.mk hfresh
  have HN := Aside0.mk hn
  generalize hr : s.flush n = r
  have HR := Aside0.mk hr
  clear h0 h1 hown hD h hI hT hfresh hn hs hr
  cases hna : s.nameAt ad n with
  | none =>
    have HNA := Aside0.mk hna
    have HR2 : Aside0 (r = (60, s)) := ⟨by rw [← HR.out]; unfold DS.flush; rw [find_none H.out (not_nameless HN.out) hna]⟩
    clear hna HR
    go_enter Try.func46, Try.ntmps46
    go_upto_region 1 with fail
    have look : ∀ (W : World), W.heap[nb]? = w.heap[nb]? → (Instr.lookup 65 (.map (some nb)) (.string n) true).run Try.prog W = .ok (.tuple #[.pointer none, .bool false]) W := fun W e => by
      have hd := look_run (ownsMap_heap HO.out e) HD.out HS.out
      rw [HNA.out] at hd
      exact hd
    have LK := Aside0.mk look
    have l0 := look w.drew rfl
    clear look
    refine start_ (n := 12) (S := fun w' => w'.cell? ⟨g0, 0, none⟩ = some (ptrV g) ∧ w'.cell? ⟨g1, 0, none⟩ = some (.string n) ∧ w'.cell? ⟨g, 2, none⟩ = some (.map (some nb)) ∧ (Instr.lookup 65 (.map (some nb)) (.string n) true).run Try.prog w' = .ok (.tuple #[.pointer none, .bool false]) w') (ds := [10]) #[false, false, false, false, false, false, false, false, false, false, false, false] (by kernel_rfl) rfl rfl ⟨c0, c1, y2, l0⟩ (fun hHeld => ?_)
    refine with_tabW F46Rtab1 F46Rbits1 (fun HT_ HW_ => ?_)
    refine take_ (i := 0) (N := some 6) (v := ?_) (a' := ?_) #[true, false, false, false, false, false, false, false, false, false, false, false] rfl rfl (take_ofW HT_.out HW_.out (by kernel_rfl)) (fun _ _ _ h => h) (Or.inl ⟨by rfl, ?_⟩) hHeld ?_ ?_
    rotate_left
    · rintro w' ⟨s0, s1, s2, s3⟩
      go_simp
      with_reducible rfl
    rotate_left
    · simp only [Act.put, List.setIfInBounds_toArray, List.set_cons_zero, List.set_cons_succ, i64_w, i32_w]
      rfl
    refine pure_ (i := 1) (N := some 7) (v := ?_) (a' := ?_) #[true, true, false, false, false, false, false, false, false, false, false, false] rfl rfl (any_of HT_.out (by kernel_rfl)) (fun _ _ _ h => h) (Or.inl ⟨by rfl, ?_⟩) ?_ ?_
    rotate_left
    · intro w'
      go_simp
      with_reducible rfl
    rotate_left
    · simp only [Act.put, List.setIfInBounds_toArray, List.set_cons_zero, List.set_cons_succ, i64_w, i32_w]
      rfl
    refine pure_ (i := 2) (N := some 8) (v := ?_) (a' := ?_) #[true, true, true, false, false, false, false, false, false, false, false, false] rfl rfl (any_of HT_.out (by kernel_rfl)) (fun _ _ _ h => h) (Or.inl ⟨by rfl, ?_⟩) ?_ ?_
    rotate_left
    · intro w'
      go_simp
      with_reducible rfl
    rotate_left
    · simp only [Act.put, List.setIfInBounds_toArray, List.set_cons_zero, List.set_cons_succ, i64_w, i32_w]
      rfl
    refine take_ (i := 3) (N := some 9) (v := ?_) (a' := ?_) #[true, true, true, true, false, false, false, false, false, false, false, false] rfl rfl (take_ofW HT_.out HW_.out (by kernel_rfl)) (fun _ _ _ h => h) (Or.inl ⟨by rfl, ?_⟩) hHeld ?_ ?_
    rotate_left
    · rintro w' ⟨s0, s1, s2, s3⟩
      go_simp
      with_reducible rfl
    rotate_left
    · simp only [Act.put, List.setIfInBounds_toArray, List.set_cons_zero, List.set_cons_succ, i64_w, i32_w]
      rfl
    refine take_ (i := 4) (N := some 10) (v := ?_) (a' := ?_) #[true, true, true, true, true, false, false, false, false, false, false, false] rfl rfl (take_ofW HT_.out HW_.out (by kernel_rfl)) (fun _ _ _ h => h) (Or.inl ⟨by rfl, ?_⟩) hHeld ?_ ?_
    rotate_left
    · rintro w' ⟨s0, s1, s2, s3⟩
      go_simp
      with_reducible rfl
    rotate_left
    · simp only [Act.put, List.setIfInBounds_toArray, List.set_cons_zero, List.set_cons_succ, i64_w, i32_w]
      rfl
    refine take_ (i := 5) (N := some 11) (v := ?_) (a' := ?_) #[true, true, true, true, true, true, false, false, false, false, false, false] rfl rfl (take_ofW HT_.out HW_.out (by kernel_rfl)) (fun _ _ _ h => h) (Or.inl ⟨by rfl, ?_⟩) hHeld ?_ ?_
    rotate_left
    · rintro w' ⟨s0, s1, s2, s3⟩
      go_simp
      with_reducible rfl
    rotate_left
    · simp only [Act.put, List.setIfInBounds_toArray, List.set_cons_zero, List.set_cons_succ, i64_w, i32_w]
      rfl
    refine pure_ (i := 6) (N := some 5) (v := ?_) (a' := ?_) #[true, true, true, true, true, true, true, false, false, false, false, false] rfl rfl (any_of HT_.out (by kernel_rfl)) (fun _ _ _ h => h) (Or.inl ⟨by rfl, ?_⟩) ?_ ?_
    rotate_left
    · intro w'
      go_simp
      with_reducible rfl
    rotate_left
    · simp only [Act.put, List.setIfInBounds_toArray, List.set_cons_zero, List.set_cons_succ, i64_w, i32_w]
      rfl
    refine pure_ (i := 7) (N := some 12) (v := ?_) (a' := ?_) #[true, true, true, true, true, true, true, true, false, false, false, false] rfl rfl (any_of HT_.out (by kernel_rfl)) (fun _ _ _ h => h) (Or.inl ⟨by rfl, ?_⟩) ?_ ?_
    rotate_left
    · intro w'
      go_simp
      with_reducible rfl
    rotate_left
    · simp only [Act.put, List.setIfInBounds_toArray, List.set_cons_zero, List.set_cons_succ, i64_w, i32_w]
      rfl
    refine pure_ (i := 8) (N := some 13) (v := ?_) (a' := ?_) #[true, true, true, true, true, true, true, true, true, false, false, false] rfl rfl (any_of HT_.out (by kernel_rfl)) (fun _ _ _ h => h) (Or.inl ⟨by rfl, ?_⟩) ?_ ?_
    rotate_left
    · intro w'
      go_simp
      with_reducible rfl
    rotate_left
    · simp only [Act.put, List.setIfInBounds_toArray, List.set_cons_zero, List.set_cons_succ, i64_w, i32_w]
      rfl
    refine one_ (i := 9) (N := some 3) #[true, true, true, true, true, true, true, true, true, true, false, false] rfl rfl (one_of HT_.out (by kernel_rfl)) (by decide) (fun K hK => ?_)
    refine value_ (w1 := ?_) (v := ?_) (by rfl) rfl ?_ ?_
    rotate_left 2
    · go_simp
      constructor
      · rfl
      · rfl
    refine hK.out _ _ ⟨(blk_cell (blk_alloc H0.out _) 0).trans rfl, (blk_cell (blk_alloc H1.out _) 0).trans rfl, (blk_cell (blk_alloc H.out.blk _) 2).trans rfl, LK.out _ (Below.heap_alloc _ _ nb HO.out.lt)⟩ (fun hHeld => ?_)
    clear hK K
    refine norm_ (a' := ?_) ?_ ?_
    rotate_left
    · show Act.put _ (some 3) _ = _
      simp only [Act.put, List.setIfInBounds_toArray, List.set_cons_zero, List.set_cons_succ, i64_w, i32_w]
      rfl
    refine last_ (i := 10) (N := none) #[true, true, true, true, true, true, true, true, true, true, true, false] rfl rfl (one_of HT_.out (by kernel_rfl)) (by decide) (fun K hK => ?_)
    refine skip_ (w1 := ?_) (by rfl) rfl ?_ ?_
    rotate_left
    · go_simp
      rfl
    refine hK.out _ _ ?_
    clear hK K
    refine pure_ (i := 11) (N := some 4) (v := ?_) (a' := ?_) #[true, true, true, true, true, true, true, true, true, true, true, true] rfl rfl (any_of HT_.out (by kernel_rfl)) (fun _ _ _ h => h) (Or.inl ⟨by rfl, ?_⟩) ?_ ?_
    rotate_left
    · intro w'
      go_simp
      with_reducible rfl
    rotate_left
    · simp only [Act.put, List.setIfInBounds_toArray, List.set_cons_zero, List.set_cons_succ, i64_w, i32_w]
      rfl
    refine done_ (done_of HT_.out (by kernel_rfl)) ?_
    have H9 := Aside0.mk (H.out.below (w' := (w.alloc (.cells #[.pointer none] 71)).drew) (below_drew (below_alloc (Below.refl _ _) _)))
    have HB9 := Aside0.mk (show Below w.heap.size w (w.alloc (.cells #[.pointer none] 71)).drew from below_drew (below_alloc (Below.refl _ _) _))
    clear hHeld l0 LK
    generalize (w.alloc (.cells #[.pointer none] 71)).drew = w9 at *
    go_wp2_with fail
    go_ret
    rw [HR2.out]
    exact ⟨rfl, ⟨_, _, H9.out⟩, Fr.ofBelow HB9.out⟩
  | some q =>
    have HNA := Aside0.mk hna
    obtain ⟨i, f, hfi, hff, hfn, hne, hq, hL⟩ := spot_ad H.out hna
    have HQ := Aside0.mk hq
    have HR2 : Aside0 (r = (0, s.settle (DS.ofBytes i))) := ⟨by rw [← HR.out]; unfold DS.flush; rw [hfi]⟩
    clear hna HR hfi hff hfn hne hq hL
    go_enter Try.func46, Try.ntmps46
    go_upto_region 1 with fail
    have look : ∀ (W : World), W.heap[nb]? = w.heap[nb]? → (Instr.lookup 65 (.map (some nb)) (.string n) true).run Try.prog W = .ok (.tuple #[ptrV q, .bool true]) W := fun W e => by
      have hd := look_run (ownsMap_heap HO.out e) HD.out HS.out
      rw [HNA.out] at hd
      exact hd
    have LK := Aside0.mk look
    have l0 := look w.drew rfl
    clear look
    refine start_ (n := 12) (S := fun w' => w'.cell? ⟨g0, 0, none⟩ = some (ptrV g) ∧ w'.cell? ⟨g1, 0, none⟩ = some (.string n) ∧ w'.cell? ⟨g, 2, none⟩ = some (.map (some nb)) ∧ (Instr.lookup 65 (.map (some nb)) (.string n) true).run Try.prog w' = .ok (.tuple #[ptrV q, .bool true]) w') (ds := [10]) #[false, false, false, false, false, false, false, false, false, false, false, false] (by kernel_rfl) rfl rfl ⟨c0, c1, y2, l0⟩ (fun hHeld => ?_)
    refine with_tabW F46Rtab1 F46Rbits1 (fun HT_ HW_ => ?_)
    refine take_ (i := 0) (N := some 6) (v := ?_) (a' := ?_) #[true, false, false, false, false, false, false, false, false, false, false, false] rfl rfl (take_ofW HT_.out HW_.out (by kernel_rfl)) (fun _ _ _ h => h) (Or.inl ⟨by rfl, ?_⟩) hHeld ?_ ?_
    rotate_left
    · rintro w' ⟨s0, s1, s2, s3⟩
      go_simp
      with_reducible rfl
    rotate_left
    · simp only [Act.put, List.setIfInBounds_toArray, List.set_cons_zero, List.set_cons_succ, i64_w, i32_w]
      rfl
    refine pure_ (i := 1) (N := some 7) (v := ?_) (a' := ?_) #[true, true, false, false, false, false, false, false, false, false, false, false] rfl rfl (any_of HT_.out (by kernel_rfl)) (fun _ _ _ h => h) (Or.inl ⟨by rfl, ?_⟩) ?_ ?_
    rotate_left
    · intro w'
      go_simp
      with_reducible rfl
    rotate_left
    · simp only [Act.put, List.setIfInBounds_toArray, List.set_cons_zero, List.set_cons_succ, i64_w, i32_w]
      rfl
    refine pure_ (i := 2) (N := some 8) (v := ?_) (a' := ?_) #[true, true, true, false, false, false, false, false, false, false, false, false] rfl rfl (any_of HT_.out (by kernel_rfl)) (fun _ _ _ h => h) (Or.inl ⟨by rfl, ?_⟩) ?_ ?_
    rotate_left
    · intro w'
      go_simp
      with_reducible rfl
    rotate_left
    · simp only [Act.put, List.setIfInBounds_toArray, List.set_cons_zero, List.set_cons_succ, i64_w, i32_w]
      rfl
    refine take_ (i := 3) (N := some 9) (v := ?_) (a' := ?_) #[true, true, true, true, false, false, false, false, false, false, false, false] rfl rfl (take_ofW HT_.out HW_.out (by kernel_rfl)) (fun _ _ _ h => h) (Or.inl ⟨by rfl, ?_⟩) hHeld ?_ ?_
    rotate_left
    · rintro w' ⟨s0, s1, s2, s3⟩
      go_simp
      with_reducible rfl
    rotate_left
    · simp only [Act.put, List.setIfInBounds_toArray, List.set_cons_zero, List.set_cons_succ, i64_w, i32_w]
      rfl
    refine take_ (i := 4) (N := some 10) (v := ?_) (a' := ?_) #[true, true, true, true, true, false, false, false, false, false, false, false] rfl rfl (take_ofW HT_.out HW_.out (by kernel_rfl)) (fun _ _ _ h => h) (Or.inl ⟨by rfl, ?_⟩) hHeld ?_ ?_
    rotate_left
    · rintro w' ⟨s0, s1, s2, s3⟩
      go_simp
      with_reducible rfl
    rotate_left
    · simp only [Act.put, List.setIfInBounds_toArray, List.set_cons_zero, List.set_cons_succ, i64_w, i32_w]
      rfl
    refine take_ (i := 5) (N := some 11) (v := ?_) (a' := ?_) #[true, true, true, true, true, true, false, false, false, false, false, false] rfl rfl (take_ofW HT_.out HW_.out (by kernel_rfl)) (fun _ _ _ h => h) (Or.inl ⟨by rfl, ?_⟩) hHeld ?_ ?_
    rotate_left
    · rintro w' ⟨s0, s1, s2, s3⟩
      go_simp
      with_reducible rfl
    rotate_left
    · simp only [Act.put, List.setIfInBounds_toArray, List.set_cons_zero, List.set_cons_succ, i64_w, i32_w]
      rfl
    refine pure_ (i := 6) (N := some 5) (v := ?_) (a' := ?_) #[true, true, true, true, true, true, true, false, false, false, false, false] rfl rfl (any_of HT_.out (by kernel_rfl)) (fun _ _ _ h => h) (Or.inl ⟨by rfl, ?_⟩) ?_ ?_
    rotate_left
    · intro w'
      go_simp
      with_reducible rfl
    rotate_left
    · simp only [Act.put, List.setIfInBounds_toArray, List.set_cons_zero, List.set_cons_succ, i64_w, i32_w]
      rfl
    refine pure_ (i := 7) (N := some 12) (v := ?_) (a' := ?_) #[true, true, true, true, true, true, true, true, false, false, false, false] rfl rfl (any_of HT_.out (by kernel_rfl)) (fun _ _ _ h => h) (Or.inl ⟨by rfl, ?_⟩) ?_ ?_
    rotate_left
    · intro w'
      go_simp
      with_reducible rfl
    rotate_left
    · simp only [Act.put, List.setIfInBounds_toArray, List.set_cons_zero, List.set_cons_succ, i64_w, i32_w]
      rfl
    refine pure_ (i := 8) (N := some 13) (v := ?_) (a' := ?_) #[true, true, true, true, true, true, true, true, true, false, false, false] rfl rfl (any_of HT_.out (by kernel_rfl)) (fun _ _ _ h => h) (Or.inl ⟨by rfl, ?_⟩) ?_ ?_
    rotate_left
    · intro w'
      go_simp
      with_reducible rfl
    rotate_left
    · simp only [Act.put, List.setIfInBounds_toArray, List.set_cons_zero, List.set_cons_succ, i64_w, i32_w]
      rfl
    refine one_ (i := 9) (N := some 3) #[true, true, true, true, true, true, true, true, true, true, false, false] rfl rfl (one_of HT_.out (by kernel_rfl)) (by decide) (fun K hK => ?_)
    refine value_ (w1 := ?_) (v := ?_) (by rfl) rfl ?_ ?_
    rotate_left 2
    · go_simp
      constructor
      · rfl
      · rfl
    refine hK.out _ _ ⟨(blk_cell (blk_alloc H0.out _) 0).trans rfl, (blk_cell (blk_alloc H1.out _) 0).trans rfl, (blk_cell (blk_alloc H.out.blk _) 2).trans rfl, LK.out _ (Below.heap_alloc _ _ nb HO.out.lt)⟩ (fun hHeld => ?_)
    clear hK K
    refine norm_ (a' := ?_) ?_ ?_
    rotate_left
    · show Act.put _ (some 3) _ = _
      simp only [Act.put, List.setIfInBounds_toArray, List.set_cons_zero, List.set_cons_succ, i64_w, i32_w]
      rfl
    refine last_ (i := 10) (N := none) #[true, true, true, true, true, true, true, true, true, true, true, false] rfl rfl (one_of HT_.out (by kernel_rfl)) (by decide) (fun K hK => ?_)
    refine skip_ (w1 := ?_) (by rfl) rfl ?_ ?_
    rotate_left
    · go_simp
      rfl
    refine hK.out _ _ ?_
    clear hK K
    refine pure_ (i := 11) (N := some 4) (v := ?_) (a' := ?_) #[true, true, true, true, true, true, true, true, true, true, true, true] rfl rfl (any_of HT_.out (by kernel_rfl)) (fun _ _ _ h => h) (Or.inl ⟨by rfl, ?_⟩) ?_ ?_
    rotate_left
    · intro w'
      go_simp
      with_reducible rfl
    rotate_left
    · simp only [Act.put, List.setIfInBounds_toArray, List.set_cons_zero, List.set_cons_succ, i64_w, i32_w]
      rfl
    refine done_ (done_of HT_.out (by kernel_rfl)) ?_
    have H2 := Aside0.mk (H.out.below (w' := (w.alloc (.cells #[ptrV q] 71)).drew) (below_drew (below_alloc (Below.refl _ _) _)))
    have HB2 := Aside0.mk (show Below w.heap.size w (w.alloc (.cells #[ptrV q] 71)).drew from below_drew (below_alloc (Below.refl _ _) _))
    have HQ2 := Aside0.mk (blk_drew (blk_new w (.cells #[ptrV q] 71)))
    have H02 := Aside0.mk (blk_drew (blk_alloc H0.out (.cells #[ptrV q] 71)))
    clear hHeld l0 LK c0 c1 y2 hgs H0 H1
    generalize (w.alloc (.cells #[ptrV q] 71)).drew = w2 at *
    obtain ⟨gq, hgq⟩ : ∃ gq, gq = w.heap.size := ⟨_, rfl⟩
    rw [← hgq] at HQ2 ⊢
    clear hgq
    have c0 : w2.cell? ⟨g0, 0, none⟩ = some (ptrV g) := (blk_cell H02.out 0).trans rfl
    go_wp2_with fail
    refine (settle_calls 48 _ (DS.ofBytes i) H2.out HI.out HT.out (fun k hk => HF.out k (Nat.le_trans HB2.out.size hk)) (enters_ (fn := Try.f48) (by kernel_rfl) (by kernel_rfl) (by kernel_rfl)) (file_asks H2.out (fun p hp => HI.out.wf p hp) HQ.out HQ2.out)).mono ?_
    rintro e w3 ⟨rfl, v3, hd, hf⟩
    have HD3 := Aside0.mk hd
    have HF3 := Aside0.mk hf
    clear hd hf c0
    go_wp2_with fail
    go_ret
    rw [HR2.out]
    exact ⟨rfl, ⟨_, _, HD3.out⟩, (Fr.ofBelow HB2.out : Fr ok w w2).trans HF3.out (fun _ h _ => h)⟩
set_option maxHeartbeats 4000000 in
set_option maxRecDepth 100000 in
theorem sync_do {g0 g1 : Nat} (h0 : IsB w g0 #[ptrV g] 22) (h1 : IsB w g1 #[.func (.func 50) #[] #[]] 82) (h : DiskAt w g s base ok nb fb v ad) (hI : s.Inv T) (hT : T ≤ 1073741824) (hfresh : ∀ k, w.heap.size ≤ k → ok k) :
    Calls Try.prog 51 #[ptrV g0, ptrV g1] w (DiskPost w g base ok nb fb (0, s.settle DS.ofNames)) := by
  have c0 : w.cell? ⟨g0, 0, none⟩ = some (ptrV g) := (blk_cell h0 0).trans rfl
  have c1 : w.cell? ⟨g1, 0, none⟩ = some (.func (.func 50) #[] #[]) := (blk_cell h1 0).trans rfl
  have HS := Aside0.mk (settle_calls 50 #[] DS.ofNames h hI hT hfresh (enters_ (fn := Try.f50) (by kernel_rfl) (by kernel_rfl) (by kernel_rfl)) (naming_asks _))
  clear h0 h1 h hI hT hfresh
  go_enter Try.func51, Try.ntmps51
  go_wp2_with fail
  refine HS.out.mono ?_
  rintro e w3 ⟨rfl, v3, hd, hf⟩
  have HD3 := Aside0.mk hd
  have HF3 := Aside0.mk hf
  clear hd hf c0 c1
  go_wp2_with fail
  go_ret
  exact ⟨rfl, ⟨_, _, HD3.out⟩, HF3.out⟩
end
end Go.Proofs.Ytnegcjgolaakcaa

/- Flush and Sync, Remove and Rename: the methods. -/
namespace Go.Proofs.Ytnegcjgolaakcaa
open Go.RowKit Go.Maps
open Go.Proofs.YtnegcjgolaakcaaW.PrintWords Go.Proofs.YtnegcjgolaakcaaW.PrintLast Go.Proofs.YtnegcjgolaakcaaW.PrintMore
set_option linter.unusedVariables false
set_option linter.unusedSimpArgs false
section
variable {w w' : World} {g : Nat} {s s' : DS} {base : Nat} {ok : Nat → Prop} {nb fb : Nat} {v v1 : Value} {ad ad' : List Nat} {T : Nat}
theorem remove_left (s : DS) (n : ByteArray) : (s.remove n).2.left = s.left := by unfold DS.remove; split <;> rfl
theorem give_left (s : DS) (i : Nat) (b : ByteArray) : (s.give i b).left = s.left := by rw [DS.give_head]
theorem rename_left (s : DS) (a b : ByteArray) : (s.rename a b).2.left = s.left := by
  unfold DS.rename
  cases s.find a with
  | none => rfl
  | some i =>
    dsimp only
    split
    · rfl
    · exact give_left s i b
theorem settle_head (s : DS) (is : PW → Bool) : s.settle is = { doneS s is s.works.length with works := restS s is s.works.length } := by
  unfold DS.settle doneS restS
  rw [List.take_length]
theorem fold_head (ws : List PW) : ∀ s : DS, (ws.foldl (fun s w => s.work w w.b.length) s).left = s.left ∧ (ws.foldl (fun s w => s.work w w.b.length) s).off = s.off ∧ (ws.foldl (fun s w => s.work w w.b.length) s).names = s.names ∧ (ws.foldl (fun s w => s.work w w.b.length) s).room = s.room := by
  induction ws with
  | nil => exact fun s => ⟨rfl, rfl, rfl, rfl⟩
  | cons p ws ih =>
    intro s
    have e := work_head s p p.b.length
    have h := ih (s.work p p.b.length)
    rw [List.foldl_cons]
    refine ⟨h.1.trans ?_, h.2.1.trans ?_, h.2.2.1.trans ?_, h.2.2.2.trans ?_⟩ <;> rw [e]
theorem settle_left (s : DS) (is : PW → Bool) : (s.settle is).left = s.left := (fold_head _ s).1
theorem flush_left (s : DS) (n : ByteArray) : (s.flush n).2.left = s.left := by
  unfold DS.flush
  split
  · exact settle_left s _
  · rfl
set_option maxHeartbeats 4000000 in
set_option maxRecDepth 100000 in
theorem remove_calls (n : ByteArray) (h : DiskAt w g s base ok nb fb v ad) (hI : s.Inv T) (hT : T ≤ 1073741824) (hfresh : ∀ k, w.heap.size ≤ k → ok k) (hsn : n.size ≤ maxLen) :
    Calls Try.prog 14 #[ptrV g, .string n] w (DiskPost w g base ok nb fb (s.Remove n)) := by
  have H := Aside0.mk h
  have HI := Aside0.mk hI
  have HT := Aside0.mk hT
  have HF := Aside0.mk hfresh
  have HSn := Aside0.mk hsn
  generalize hr : s.Remove n = r
  have HR := Aside0.mk hr
  clear h hI hT hfresh hr hsn
  go_enter Try.func14, Try.ntmps14
  go_upto_region 1 with fail
  have hb3 : Below w.heap.size w ((w.alloc (.cells #[ptrV g] 22)).alloc (.cells #[.string n] 9)) := below_alloc (below_alloc (Below.refl _ _) _) _
  have q0 : IsB ((w.alloc (.cells #[ptrV g] 22)).alloc (.cells #[.string n] 9)) (w.heap.size) #[ptrV g] 22 := blk_alloc (blk_new _ _) _
  have q1 : IsB ((w.alloc (.cells #[ptrV g] 22)).alloc (.cells #[.string n] 9)) (w.heap.size + 1) #[.string n] 9 := (by have := blk_new ((w).alloc (.cells #[ptrV g] 22)) (.cells #[.string n] 9); rwa [World.size_alloc] at this)
  generalize (w.alloc (.cells #[ptrV g] 22)).alloc (.cells #[.string n] 9) = w3 at *
  generalize w.heap.size + 1 = g1 at *
  obtain ⟨g0, hg0⟩ : ∃ g0, g0 = w.heap.size := ⟨_, rfl⟩
  rw [← hg0] at q0 ⊢
  have HB3 := Aside0.mk hb3
  have c0 : w3.cell? ⟨g0, 0, none⟩ = some (ptrV g) := (blk_cell q0 0).trans rfl
  have c1 : w3.cell? ⟨g1, 0, none⟩ = some (.string n) := (blk_cell q1 0).trans rfl
  have Q0 := Aside0.mk q0
  have Q1 := Aside0.mk q1
  clear hb3 q0 q1 hg0
  go_wp2_with fail
  have hb4 : Below w3.heap.size w3 (w3.alloc (.cells #[.string n] 9)) := below_alloc (Below.refl _ _) _
  have HB4 := Aside0.mk hb4
  have hS := one_S (blk_new w3 (.cells #[.string n] 9))
  generalize w3.alloc (.cells #[.string n] 9) = w4 at *
  refine (step_calls 42 _ (some ⟨w3.heap.size, 0, none⟩) 1 [n] (fun s => s.remove n) ((H.out.below HB3.out).below hb4) (fun k hk => HF.out k (Nat.le_trans (Nat.le_trans HB3.out.size hb4.size) hk)) hS (by simp) (fun m hm => by rw [List.mem_singleton.1 hm]; exact HSn.out) (enters_ (fn := Try.f42) (by kernel_rfl) (by kernel_rfl) (by kernel_rfl)) (fun _ => by rw [remove_left]; exact HI.out.left) ?_).mono ?_
  · intro hall _ W' hW
    have hn : namedV n = true := by simpa using hall
    have hb5 : Below w3.heap.size w3 W' := hb4.trans (hW.mono hb4.size)
    exact remove_do n (blk_below Q0.out hb5) (blk_below Q1.out hb5) ((H.out.below HB3.out).below hb5) HI.out HT.out (fun k hk => HF.out k (Nat.le_trans (Nat.le_trans HB3.out.size hb5.size) hk)) hn HSn.out
  · rintro e w5 ⟨rfl, hd, hf⟩
    have HD := Aside0.mk hd
    have HF5 := Aside0.mk hf
    have hr : s.step [n] (fun s => s.remove n) = r := HR.out
    rw [hr] at HD
    rw [hr]
    clear hd hf hb4 hS hr
    go_wp2_with fail
    go_ret
    exact ⟨rfl, HD.out, ((Fr.ofBelow HB3.out).trans (Fr.ofBelow HB4.out) (fun _ h _ => h)).trans HF5.out (fun _ h _ => h)⟩
set_option maxHeartbeats 4000000 in
set_option maxRecDepth 100000 in
theorem flush_calls (n : ByteArray) (h : DiskAt w g s base ok nb fb v ad) (hI : s.Inv T) (hT : T ≤ 1073741824) (hfresh : ∀ k, w.heap.size ≤ k → ok k) (hsn : n.size ≤ maxLen) :
    Calls Try.prog 18 #[ptrV g, .string n] w (DiskPost w g base ok nb fb (s.Flush n)) := by
  have H := Aside0.mk h
  have HI := Aside0.mk hI
  have HT := Aside0.mk hT
  have HF := Aside0.mk hfresh
  have HSn := Aside0.mk hsn
  generalize hr : s.Flush n = r
  have HR := Aside0.mk hr
  clear h hI hT hfresh hr hsn
  go_enter Try.func18, Try.ntmps18
  go_upto_region 1 with fail
  have hb3 : Below w.heap.size w ((w.alloc (.cells #[ptrV g] 22)).alloc (.cells #[.string n] 9)) := below_alloc (below_alloc (Below.refl _ _) _) _
  have q0 : IsB ((w.alloc (.cells #[ptrV g] 22)).alloc (.cells #[.string n] 9)) (w.heap.size) #[ptrV g] 22 := blk_alloc (blk_new _ _) _
  have q1 : IsB ((w.alloc (.cells #[ptrV g] 22)).alloc (.cells #[.string n] 9)) (w.heap.size + 1) #[.string n] 9 := (by have := blk_new ((w).alloc (.cells #[ptrV g] 22)) (.cells #[.string n] 9); rwa [World.size_alloc] at this)
  generalize (w.alloc (.cells #[ptrV g] 22)).alloc (.cells #[.string n] 9) = w3 at *
  generalize w.heap.size + 1 = g1 at *
  obtain ⟨g0, hg0⟩ : ∃ g0, g0 = w.heap.size := ⟨_, rfl⟩
  rw [← hg0] at q0 ⊢
  have HB3 := Aside0.mk hb3
  have c0 : w3.cell? ⟨g0, 0, none⟩ = some (ptrV g) := (blk_cell q0 0).trans rfl
  have c1 : w3.cell? ⟨g1, 0, none⟩ = some (.string n) := (blk_cell q1 0).trans rfl
  have Q0 := Aside0.mk q0
  have Q1 := Aside0.mk q1
  clear hb3 q0 q1 hg0
  go_wp2_with fail
  have hb4 : Below w3.heap.size w3 (w3.alloc (.cells #[.string n] 9)) := below_alloc (Below.refl _ _) _
  have HB4 := Aside0.mk hb4
  have hS := one_S (blk_new w3 (.cells #[.string n] 9))
  generalize w3.alloc (.cells #[.string n] 9) = w4 at *
  refine (step_calls 46 _ (some ⟨w3.heap.size, 0, none⟩) 1 [n] (fun s => s.flush n) ((H.out.below HB3.out).below hb4) (fun k hk => HF.out k (Nat.le_trans (Nat.le_trans HB3.out.size hb4.size) hk)) hS (by simp) (fun m hm => by rw [List.mem_singleton.1 hm]; exact HSn.out) (enters_ (fn := Try.f46) (by kernel_rfl) (by kernel_rfl) (by kernel_rfl)) (fun _ => by rw [flush_left]; exact HI.out.left) ?_).mono ?_
  · intro hall _ W' hW
    have hn : namedV n = true := by simpa using hall
    have hb5 : Below w3.heap.size w3 W' := hb4.trans (hW.mono hb4.size)
    exact flush_do n (blk_below Q0.out hb5) (blk_below Q1.out hb5) ((H.out.below HB3.out).below hb5) HI.out HT.out (fun k hk => HF.out k (Nat.le_trans (Nat.le_trans HB3.out.size hb5.size) hk)) hn
  · rintro e w5 ⟨rfl, hd, hf⟩
    have HD := Aside0.mk hd
    have HF5 := Aside0.mk hf
    have hr : s.step [n] (fun s => s.flush n) = r := HR.out
    rw [hr] at HD
    rw [hr]
    clear hd hf hb4 hS hr
    go_wp2_with fail
    go_ret
    exact ⟨rfl, HD.out, ((Fr.ofBelow HB3.out).trans (Fr.ofBelow HB4.out) (fun _ h _ => h)).trans HF5.out (fun _ h _ => h)⟩
set_option maxHeartbeats 4000000 in
set_option maxRecDepth 100000 in
theorem rename_calls (n : ByteArray) (m : ByteArray) (h : DiskAt w g s base ok nb fb v ad) (hI : s.Inv T) (hT : T ≤ 1073741824) (hfresh : ∀ k, w.heap.size ≤ k → ok k) (hsn : n.size ≤ maxLen) (hsm : m.size ≤ maxLen) :
    Calls Try.prog 13 #[ptrV g, .string n, .string m] w (DiskPost w g base ok nb fb (s.Rename n m)) := by
  have H := Aside0.mk h
  have HI := Aside0.mk hI
  have HT := Aside0.mk hT
  have HF := Aside0.mk hfresh
  have HSn := Aside0.mk hsn
  have HSm := Aside0.mk hsm
  generalize hr : s.Rename n m = r
  have HR := Aside0.mk hr
  clear h hI hT hfresh hr hsn hsm
  go_enter Try.func13, Try.ntmps13
  go_upto_region 1 with fail
  have hb3 : Below w.heap.size w (((w.alloc (.cells #[ptrV g] 22)).alloc (.cells #[.string n] 9)).alloc (.cells #[.string m] 9)) := below_alloc (below_alloc (below_alloc (Below.refl _ _) _) _) _
  have q0 : IsB (((w.alloc (.cells #[ptrV g] 22)).alloc (.cells #[.string n] 9)).alloc (.cells #[.string m] 9)) (w.heap.size) #[ptrV g] 22 := blk_alloc (blk_alloc (blk_new _ _) _) _
  have q1 : IsB (((w.alloc (.cells #[ptrV g] 22)).alloc (.cells #[.string n] 9)).alloc (.cells #[.string m] 9)) (w.heap.size + 1) #[.string n] 9 := blk_alloc ((by have := blk_new ((w).alloc (.cells #[ptrV g] 22)) (.cells #[.string n] 9); rwa [World.size_alloc] at this)) _
  have q2 : IsB (((w.alloc (.cells #[ptrV g] 22)).alloc (.cells #[.string n] 9)).alloc (.cells #[.string m] 9)) (w.heap.size + 1 + 1) #[.string m] 9 := (by have := blk_new (((w).alloc (.cells #[ptrV g] 22)).alloc (.cells #[.string n] 9)) (.cells #[.string m] 9); rwa [World.size_alloc, World.size_alloc] at this)
  generalize ((w.alloc (.cells #[ptrV g] 22)).alloc (.cells #[.string n] 9)).alloc (.cells #[.string m] 9) = w3 at *
  generalize w.heap.size + 1 + 1 = g2 at *
  generalize w.heap.size + 1 = g1 at *
  obtain ⟨g0, hg0⟩ : ∃ g0, g0 = w.heap.size := ⟨_, rfl⟩
  rw [← hg0] at q0 ⊢
  have HB3 := Aside0.mk hb3
  have c0 : w3.cell? ⟨g0, 0, none⟩ = some (ptrV g) := (blk_cell q0 0).trans rfl
  have c1 : w3.cell? ⟨g1, 0, none⟩ = some (.string n) := (blk_cell q1 0).trans rfl
  have c2 : w3.cell? ⟨g2, 0, none⟩ = some (.string m) := (blk_cell q2 0).trans rfl
  have Q0 := Aside0.mk q0
  have Q1 := Aside0.mk q1
  have Q2 := Aside0.mk q2
  clear hb3 q0 q1 q2 hg0
  go_wp2_with fail
  have hb4 : Below w3.heap.size w3 (w3.alloc (.cells #[.string n, .string m] 9)) := below_alloc (Below.refl _ _) _
  have HB4 := Aside0.mk hb4
  have hS := two_S (blk_new w3 (.cells #[.string n, .string m] 9))
  generalize w3.alloc (.cells #[.string n, .string m] 9) = w4 at *
  refine (step_calls 41 _ (some ⟨w3.heap.size, 0, none⟩) 2 [n, m] (fun s => s.rename n m) ((H.out.below HB3.out).below hb4) (fun k hk => HF.out k (Nat.le_trans (Nat.le_trans HB3.out.size hb4.size) hk)) hS (by simp) (fun m' hm => by rcases List.mem_cons.1 hm with rfl | hm; exact HSn.out; rw [List.mem_singleton.1 hm]; exact HSm.out) (enters_ (fn := Try.f41) (by kernel_rfl) (by kernel_rfl) (by kernel_rfl)) (fun _ => by rw [rename_left]; exact HI.out.left) ?_).mono ?_
  · intro hall _ W' hW
    have hn : namedV n = true ∧ namedV m = true := by simpa using hall
    have hb5 : Below w3.heap.size w3 W' := hb4.trans (hW.mono hb4.size)
    exact rename_do n m (blk_below Q0.out hb5) (blk_below Q1.out hb5) (blk_below Q2.out hb5) ((H.out.below HB3.out).below hb5) HI.out HT.out (fun k hk => HF.out k (Nat.le_trans (Nat.le_trans HB3.out.size hb5.size) hk)) hn.1 HSn.out hn.2 HSm.out
  · rintro e w5 ⟨rfl, hd, hf⟩
    have HD := Aside0.mk hd
    have HF5 := Aside0.mk hf
    have hr : s.step [n, m] (fun s => s.rename n m) = r := HR.out
    rw [hr] at HD
    rw [hr]
    clear hd hf hb4 hS hr
    go_wp2_with fail
    go_ret
    exact ⟨rfl, HD.out, ((Fr.ofBelow HB3.out).trans (Fr.ofBelow HB4.out) (fun _ h _ => h)).trans HF5.out (fun _ h _ => h)⟩
set_option maxHeartbeats 4000000 in
set_option maxRecDepth 100000 in
theorem sync_calls (h : DiskAt w g s base ok nb fb v ad) (hI : s.Inv T) (hT : T ≤ 1073741824) (hfresh : ∀ k, w.heap.size ≤ k → ok k) :
    Calls Try.prog 20 #[ptrV g] w (DiskPost w g base ok nb fb s.Sync) := by
  have H := Aside0.mk h
  have HI := Aside0.mk hI
  have HT := Aside0.mk hT
  have HF := Aside0.mk hfresh
  generalize hr : s.Sync = r
  have HR := Aside0.mk hr
  clear h hI hT hfresh hr
  go_enter Try.func20, Try.ntmps20
  go_upto_region 2 with fail
  have hb3 : Below w.heap.size w ((w.alloc (.cells #[ptrV g] 22)).alloc (.cells #[.func (.func 50) #[] #[]] 82)) := below_alloc (below_alloc (Below.refl _ _) _) _
  have q0 : IsB ((w.alloc (.cells #[ptrV g] 22)).alloc (.cells #[.func (.func 50) #[] #[]] 82)) w.heap.size #[ptrV g] 22 := blk_alloc (blk_new _ _) _
  have q1 : IsB ((w.alloc (.cells #[ptrV g] 22)).alloc (.cells #[.func (.func 50) #[] #[]] 82)) (w.heap.size + 1) #[.func (.func 50) #[] #[]] 82 := by have := blk_new (w.alloc (.cells #[ptrV g] 22)) (.cells #[.func (.func 50) #[] #[]] 82); rwa [World.size_alloc] at this
  generalize (w.alloc (.cells #[ptrV g] 22)).alloc (.cells #[.func (.func 50) #[] #[]] 82) = w3 at *
  generalize w.heap.size + 1 = g1 at *
  obtain ⟨g0, hg0⟩ : ∃ g0, g0 = w.heap.size := ⟨_, rfl⟩
  rw [← hg0] at q0 ⊢
  have HB3 := Aside0.mk hb3
  have c0 : w3.cell? ⟨g0, 0, none⟩ = some (ptrV g) := (blk_cell q0 0).trans rfl
  have Q0 := Aside0.mk q0
  have Q1 := Aside0.mk q1
  clear hb3 q0 q1 hg0
  go_wp2_with fail
  refine (step_calls 51 _ none 0 [] (fun s => (0, s.settle DS.ofNames)) (H.out.below HB3.out) (fun k hk => HF.out k (Nat.le_trans HB3.out.size hk)) ⟨rfl, by decide, fun h => absurd h (Nat.lt_irrefl 0)⟩ (by simp) (fun m hm => by cases hm) (enters_ (fn := Try.f51) (by kernel_rfl) (by kernel_rfl) (by kernel_rfl)) (fun _ => by rw [settle_left]; exact HI.out.left) ?_).mono ?_
  · intro hall _ W' hW
    exact sync_do (blk_below Q0.out hW) (blk_below Q1.out hW) ((H.out.below HB3.out).below hW) HI.out HT.out (fun k hk => HF.out k (Nat.le_trans (Nat.le_trans HB3.out.size hW.size) hk))
  · rintro e w5 ⟨rfl, hd, hf⟩
    have HD := Aside0.mk hd
    have HF5 := Aside0.mk hf
    have hr : s.step [] (fun s => (0, s.settle DS.ofNames)) = r := HR.out
    rw [hr] at HD
    rw [hr]
    clear hd hf hr
    go_wp2_with fail
    go_ret
    exact ⟨rfl, HD.out, (Fr.ofBelow HB3.out).trans HF5.out (fun _ h _ => h)⟩
end
end Go.Proofs.Ytnegcjgolaakcaa

/- Plain: a crash; a disk in memory whose dead files are forgotten. -/
namespace Go.Proofs.Ytnegcjgolaakcaa
open Go.RowKit Go.Maps
open Go.Proofs.YtnegcjgolaakcaaW.PrintWords Go.Proofs.YtnegcjgolaakcaaW.PrintLast Go.Proofs.YtnegcjgolaakcaaW.PrintMore
set_option linter.unusedVariables false
set_option linter.unusedSimpArgs false
def repF (s : DS) (p : PW × Int) : DS := if 0 < p.2 then s.work p.1 p.2.toNat else s
def repS (s : DS) (keep : List Int) (i : Nat) : DS := ((s.works.zip keep).take i).foldl repF s
theorem rep_fold (l : List (PW × Int)) : ∀ s : DS, (l.foldl repF s).works = s.works ∧ (l.foldl repF s).files.length = s.files.length ∧ (l.foldl repF s).left = s.left ∧ (l.foldl repF s).off = s.off ∧ (l.foldl repF s).names = s.names ∧ (l.foldl repF s).room = s.room := by
  induction l with
  | nil => exact fun s => ⟨rfl, rfl, rfl, rfl, rfl, rfl⟩
  | cons p l ih =>
    intro s
    have h1 : (repF s p).works = s.works ∧ (repF s p).files.length = s.files.length ∧ (repF s p).left = s.left ∧ (repF s p).off = s.off ∧ (repF s p).names = s.names ∧ (repF s p).room = s.room := by
      unfold repF
      split
      · refine ⟨work_works _ _ _, work_len _ _, ?_, ?_, ?_, ?_⟩ <;> rw [work_head]
      · exact ⟨rfl, rfl, rfl, rfl, rfl, rfl⟩
    have h2 := ih (repF s p)
    rw [List.foldl_cons]
    exact ⟨h2.1.trans h1.1, h2.2.1.trans h1.2.1, h2.2.2.1.trans h1.2.2.1, h2.2.2.2.1.trans h1.2.2.2.1, h2.2.2.2.2.1.trans h1.2.2.2.2.1, h2.2.2.2.2.2.trans h1.2.2.2.2.2⟩
theorem rep_next {s : DS} {keep : List Int} {i : Nat} {p : PW} (h : s.works[i]? = some p) : repS s keep (i + 1) = (match keep[i]? with | some k => if 0 < k then (repS s keep i).work p k.toNat else repS s keep i | none => repS s keep i) := by
  unfold repS
  cases hk : keep[i]? with
  | none =>
    have hl : keep.length ≤ i := List.getElem?_eq_none_iff.1 hk
    have hz : (s.works.zip keep).length ≤ i := by rw [List.length_zip]; omega
    rw [List.take_of_length_le (Nat.le_succ_of_le hz), List.take_of_length_le hz]
  | some k =>
    have hz : (s.works.zip keep)[i]? = some (p, k) := by rw [List.getElem?_zip_eq_some]; exact ⟨h, hk⟩
    obtain ⟨hl, hz2⟩ := List.getElem?_eq_some_iff.1 hz
    rw [List.take_succ_eq_append_getElem hl, List.foldl_append, hz2]
    rfl
theorem rep_all (s : DS) (keep : List Int) : repS s keep s.works.length = s.replay keep := by
  unfold repS DS.replay
  rw [List.take_of_length_le (by rw [List.length_zip]; omega)]
  rfl
/-- so far as the crash has come: whose name is no more among those that are left has its name and bytes -/
def midF (lf : ByteArray → Bool) (f : PF) : PF := if f.fast ≠ nameless ∧ lf f.fast = false then { f with name := f.fast, now := f.old } else { f with name := nameless }
def midS (s : DS) (lf : ByteArray → Bool) : DS := { s with files := s.files.map (midF lf) }
theorem mid_fast (lf : ByteArray → Bool) (f : PF) : (midF lf f).fast = f.fast := by unfold midF; split <;> rfl
theorem mid_old (lf : ByteArray → Bool) (f : PF) : (midF lf f).old = f.old := by unfold midF; split <;> rfl
theorem mid_congr {s : DS} {lf lf' : ByteArray → Bool} (h : ∀ f ∈ s.files, f.fast ≠ nameless → lf f.fast = lf' f.fast) : midS s lf = midS s lf' := by
  unfold midS
  congr 1
  refine List.map_congr_left (fun f hf => ?_)
  unfold midF
  by_cases h0 : f.fast = nameless
  · simp [h0]
  · rw [h f hf h0]
theorem mid_step {s : DS} (hU : UL s.fsL) {lf : ByteArray → Bool} {i : Nat} {f : PF} (hi : s.files[i]? = some f) (h0 : f.fast ≠ nameless) (hl : lf f.fast = true) :
    midS s (fun n => lf n && !decide (n = f.fast)) = ((midS s lf).setNow i f.old).setName i f.fast := by
  unfold midS DS.setNow DS.setName
  congr 1
  apply List.ext_getElem?
  intro j
  rw [List.getElem?_map, List.getElem?_modify, List.getElem?_modify, List.getElem?_map]
  by_cases hij : i = j
  · subst hij
    rw [hi]
    simp only [Option.map_some, if_pos]
    unfold midF
    rw [if_pos ⟨h0, by simp⟩, if_neg (by rw [hl]; simp)]
    rfl
  · simp only [if_neg hij]
    cases hj : s.files[j]? with
    | none => rfl
    | some f' =>
      simp only [Option.map_some]
      unfold midF
      by_cases hn : f'.fast = nameless
      · rw [if_neg (fun h => h.1 hn), if_neg (fun h => h.1 hn)]
        rfl
      · have hne : ¬ f'.fast = f.fast := by
          intro e
          have e1 : s.fsL[i]? = some f.fast := by unfold DS.fsL; rw [List.getElem?_map, hi]; rfl
          have e2 : s.fsL[j]? = some f.fast := by unfold DS.fsL; rw [List.getElem?_map, hj, ← e]; rfl
          exact hij (UL_at hU e1 e2 h0)
        have e : (lf f'.fast && !decide (f'.fast = f.fast)) = lf f'.fast := by rw [decide_eq_false hne]; simp
        show some (if f'.fast ≠ nameless ∧ (lf f'.fast && !decide (f'.fast = f.fast)) = false then _ else _) = _
        rw [e]
        rfl
theorem mid_find {s : DS} {lf : ByteArray → Bool} {n : ByteArray} (h0 : n ≠ nameless) (hl : lf n = true) : (midS s lf).find n = none := by
  rw [DS.find_L, idxL_none]
  intro hm
  obtain ⟨f, hf, hn⟩ := List.mem_map.1 hm
  obtain ⟨f', hf', rfl⟩ := List.mem_map.1 hf
  unfold midF at hn
  split at hn
  · rename_i hc
    rw [show f'.fast = n from hn] at hc
    rw [hl] at hc
    cases hc.2
  · exact h0 (show nameless = n from hn).symm
theorem mid_UL {s : DS} (hU : UL s.fsL) (lf : ByteArray → Bool) : UL (midS s lf).nmL := by
  unfold UL DS.nmL midS
  rw [List.map_map, List.pairwise_map]
  unfold UL DS.fsL at hU
  rw [List.pairwise_map] at hU
  refine hU.imp (fun {a b} h e => ?_)
  simp only [Function.comp] at e ⊢
  unfold midF at e ⊢
  split at e
  · rename_i ha
    split at e
    · exact absurd (h e) ha.1
    · exact absurd e ha.1
  · rename_i ha
    rw [if_neg ha]
theorem crash_eq (s : DS) (keep : List Int) : s.crash keep = { midS (s.replay keep) (fun _ => false) with files := (midS (s.replay keep) (fun _ => false)).files.filter (fun f => f.fast ≠ nameless), works := [], off := false, left := -1 } := by
  have e : (midS (s.replay keep) (fun _ => false)).files.filter (fun f => f.fast ≠ nameless) = ((s.replay keep).files.filter (fun f => f.fast ≠ nameless)).map (fun f => { f with name := f.fast, now := f.old }) := by
    unfold midS
    rw [List.filter_map]
    have e1 : ((fun f : PF => decide (f.fast ≠ nameless)) ∘ midF fun _ => false) = fun f : PF => decide (f.fast ≠ nameless) := by funext f; simp [mid_fast]
    rw [e1]
    refine List.map_congr_left (fun f hf => ?_)
    have := (List.mem_filter.1 hf).2
    unfold midF
    rw [if_pos ⟨by simpa using this, rfl⟩]
  have hr := rep_fold (s.works.zip keep) s
  have e2 : (midS (s.replay keep) (fun _ => false)).names = s.names := hr.2.2.2.2.1
  have e3 : (midS (s.replay keep) (fun _ => false)).room = s.room := hr.2.2.2.2.2
  rw [e]
  dsimp only
  rw [e2, e3]
  rfl
theorem atL_cons (x : ByteArray) (L : List ByteArray) (a : Nat) (ad : List Nat) (k : ByteArray) : atL (x :: L) (a :: ad) k = if k = nameless then none else if x = k then some a else atL L ad k := by
  unfold atL idxL
  by_cases hk : k = nameless
  · rw [if_pos hk, if_pos hk]
  · rw [if_neg hk, if_neg hk, if_neg hk, List.findIdx?_cons]
    by_cases hx : x = k
    · simp [hx]
    · simp only [hx, decide_false, Bool.false_eq_true, if_false]
      cases List.findIdx? (fun x => decide (x = k)) L <;> simp
theorem atL_filter (p : PF × Nat → Bool) (nm : PF → ByteArray) (k : ByteArray) : ∀ (Z : List (PF × Nat)), (∀ z ∈ Z, p z = false → nm z.1 = nameless) → atL ((Z.filter p).map (fun z => nm z.1)) ((Z.filter p).map Prod.snd) k = atL (Z.map (fun z => nm z.1)) (Z.map Prod.snd) k
  | [], _ => rfl
  | z :: Z, h => by
    have ih := atL_filter p nm k Z (fun z hz => h z (List.mem_cons_of_mem _ hz))
    rw [List.map_cons, List.map_cons, atL_cons, List.filter_cons]
    cases hp : p z with
    | true => rw [if_pos rfl, List.map_cons, List.map_cons, atL_cons, ih]
    | false =>
      rw [if_neg (by decide), ih, h z List.mem_cons_self hp]
      by_cases hk : k = nameless
      · rw [if_pos hk]; unfold atL; rw [if_pos hk]
      · rw [if_neg hk, if_neg (fun e => hk e.symm)]
theorem cntL_filter (p : PF × Nat → Bool) (nm : PF → ByteArray) : ∀ (Z : List (PF × Nat)), (∀ z ∈ Z, p z = false → nm z.1 = nameless) → cntL ((Z.filter p).map (fun z => nm z.1)) = cntL (Z.map (fun z => nm z.1))
  | [], _ => rfl
  | z :: Z, h => by
    have ih := cntL_filter p nm Z (fun z hz => h z (List.mem_cons_of_mem _ hz))
    unfold cntL at ih ⊢
    rw [List.map_cons, List.countP_cons, List.filter_cons]
    cases hp : p z with
    | true => rw [if_pos rfl, List.map_cons, List.countP_cons, ih]
    | false => rw [if_neg (by decide), ih, h z List.mem_cons_self hp]; simp
section
variable {w w' : World} {g : Nat} {s s' : DS} {base : Nat} {ok : Nat → Prop} {nb fb : Nat} {v v1 : Value} {ad ad' : List Nat} {T e : Nat}
/-- files without any name are forgotten -/
theorem DiskAt.prune (h : DiskAt w g s base ok nb fb v ad) (hw : s.works = []) (hz : ∀ f ∈ s.files, f.fast = nameless → f.name = nameless) : ∃ ad', DiskAt w g { s with files := s.files.filter (fun f => f.fast ≠ nameless) } base ok nb fb v ad' := by
  let Z := s.files.zip ad
  have hZ1 : Z.map Prod.fst = s.files := List.map_fst_zip (by rw [h.len]; exact Nat.le_refl _)
  have hZ2 : Z.map Prod.snd = ad := List.map_snd_zip (by rw [h.len]; exact Nat.le_refl _)
  let p : PF × Nat → Bool := fun z => decide (z.1.fast ≠ nameless)
  have hF : (Z.filter p).map Prod.fst = s.files.filter (fun f => f.fast ≠ nameless) := by
    rw [← hZ1, List.filter_map]
    rfl
  have hn : ∀ nm : PF → ByteArray, Z.map (fun z => nm z.1) = s.files.map nm := fun nm => by rw [← hZ1, List.map_map]; rfl
  have hn2 : ∀ nm : PF → ByteArray, (Z.filter p).map (fun z => nm z.1) = (s.files.filter (fun f => f.fast ≠ nameless)).map nm := fun nm => by rw [← hF, List.map_map]; rfl
  have hmem : ∀ z ∈ Z, z.1 ∈ s.files := fun z hz' => by rw [← hZ1]; exact List.mem_map_of_mem hz'
  have q1 : ∀ z ∈ Z, p z = false → z.1.name = nameless := fun z hz' hp => hz _ (hmem z hz') (by simpa [p] using hp)
  have q2 : ∀ z ∈ Z, p z = false → z.1.fast = nameless := fun z hz' hp => by simpa [p] using hp
  refine ⟨(Z.filter p).map Prod.snd, h.blk, h.okg, h.okn, h.okf, h.ne, ?_, ?_, ?_, ?_, ?_, ?_⟩
  · have e : ({ s with files := s.files.filter (fun f => f.fast ≠ nameless) } : DS).count = s.count := by
      rw [DS.count_L, DS.count_L]
      show cntL ((s.files.filter (fun f => f.fast ≠ nameless)).map PF.name) = cntL (s.files.map PF.name)
      rw [← hn2, ← hn]
      exact cntL_filter p PF.name Z q1
    rw [e]
    refine h.nms.congr (fun k => ?_)
    rw [DS.nameAt_L, DS.nameAt_L]
    show atL (s.files.map PF.name) ad k = atL ((s.files.filter (fun f => f.fast ≠ nameless)).map PF.name) ((Z.filter p).map Prod.snd) k
    rw [← hn2, ← hn, atL_filter p PF.name k Z q1, hZ2]
  · have e : ({ s with files := s.files.filter (fun f => f.fast ≠ nameless) } : DS).countF = s.countF := by
      rw [DS.countF_L, DS.countF_L]
      show cntL ((s.files.filter (fun f => f.fast ≠ nameless)).map PF.fast) = cntL (s.files.map PF.fast)
      rw [← hn2, ← hn]
      exact cntL_filter p PF.fast Z q2
    rw [e]
    refine h.fst.congr (fun k => ?_)
    rw [DS.fastOf_L, DS.fastOf_L]
    show atL (s.files.map PF.fast) ad k = atL ((s.files.filter (fun f => f.fast ≠ nameless)).map PF.fast) ((Z.filter p).map Prod.snd) k
    rw [← hn2, ← hn, atL_filter p PF.fast k Z q2, hZ2]
  · have hk := h.wks
    rw [hw] at hk
    show workK.R 76 w base ok v (s.works.map (mwOf _))
    rw [hw]
    exact hk
  · intro i f hi
    have hi' : ((Z.filter p).map Prod.fst)[i]? = some f := by rw [hF]; exact hi
    rw [List.getElem?_map] at hi'
    obtain ⟨z, hzi, rfl⟩ := Option.map_eq_some_iff.1 hi'
    have hzm : z ∈ Z := (List.mem_filter.1 (List.mem_of_getElem? hzi)).1
    obtain ⟨j, hj⟩ := List.mem_iff_getElem?.1 hzm
    obtain ⟨hj1, hj2⟩ := List.getElem?_zip_eq_some.1 hj
    obtain ⟨c, hc, hFA⟩ := h.fls j _ hj1
    rw [hj2] at hc
    cases hc
    exact ⟨z.2, by rw [List.getElem?_map, hzi]; rfl, hFA⟩
  · show ((Z.filter p).map Prod.snd).length = (s.files.filter (fun f => f.fast ≠ nameless)).length
    rw [← hF, List.length_map, List.length_map]
  · have h1 : ((Z.filter p).map Prod.snd).Sublist ad := by rw [← hZ2]; exact (List.filter_sublist).map _
    exact h1.nodup h.nd
/-- a new map of names: no name is known -/
theorem DiskAt.unnamed (h : DiskAt w g s base ok nb fb v ad) {nb' : Nat} (hb : MapAt w nb' 0 (fun _ => none)) (ho : ok nb' ∧ base ≤ nb') (hne : nb' ≠ fb) (hg : nb' ≠ g) : DiskAt (w.setCell ⟨g, 2, none⟩ (.map (some nb'))) g (midS s (fun _ => true)) base ok nb' fb v ad := by
  have hS : Stay (fun q => q ≠ 68) w (w.setCell ⟨g, 2, none⟩ (.map (some nb'))) := Stay.of_set h.blk 2 _ (by simp)
  have hm : ∀ b n get, MapAt w b n get → MapAt (w.setCell ⟨g, 2, none⟩ (.map (some nb'))) b n get := fun b n get hM => hM.heap (Below.heap_setCell _ _ _ _ (fun e => hM.noCells ((show b = g from e) ▸ h.blk)))
  have hfs : (midS s (fun _ => true)).fsL = s.fsL := by
    unfold DS.fsL midS
    rw [List.map_map]
    exact List.map_congr_left (fun f _ => mid_fast _ f)
  have hnm : ∀ x ∈ (midS s (fun _ => true)).nmL, x = nameless := by
    intro x hx
    obtain ⟨f, hf, rfl⟩ := List.mem_map.1 hx
    obtain ⟨f', _, rfl⟩ := List.mem_map.1 hf
    unfold midF
    rw [if_neg (by simp)]
  refine ⟨blk_put h.blk 2 _ rfl, h.okg, ho, h.okf, hne, ?_, ?_, R_objs h.wks hS (fun q hq => by rcases wK_E q hq with rfl | rfl <;> decide), ?_, ?_, h.nd⟩
  · have e0 : (midS s (fun _ => true)).count = 0 := by
      rw [DS.count_L]
      unfold cntL
      rw [List.countP_eq_zero]
      intro x hx
      simp [hnm x hx]
    rw [e0]
    refine (hm _ _ _ hb).congr (fun k => ?_)
    rw [DS.nameAt_L]
    unfold atL
    split
    · rfl
    · rename_i hk
      have : idxL (midS s (fun _ => true)).nmL k = none := by
        rw [idxL_none]
        exact fun hm => hk (hnm k hm)
      rw [this]
      rfl
  · rw [DS.countF_L, hfs, ← DS.countF_L]
    refine (hm _ _ _ h.fst).congr (fun k => ?_)
    rw [DS.fastOf_L, DS.fastOf_L, hfs]
  · intro i f hi
    have hi' : (s.files.map (midF (fun _ => true)))[i]? = some f := hi
    rw [List.getElem?_map] at hi'
    obtain ⟨f', hf', rfl⟩ := Option.map_eq_some_iff.1 hi'
    obtain ⟨c, hc, hF⟩ := h.fls i f' hf'
    exact ⟨c, hc, (hF.stay hS (by decide) (by decide)).rest (by unfold midF; split; rename_i h; cases h.2; rfl) (mid_old _ _)⟩
  · show ad.length = (s.files.map (midF (fun _ => true))).length
    rw [List.length_map]
    exact h.len
end
end Go.Proofs.Ytnegcjgolaakcaa

/- (*disk.Disk).Crash. -/
namespace Go.Proofs.Ytnegcjgolaakcaa
open Go.RowKit Go.Maps
open Go.Proofs.YtnegcjgolaakcaaW.PrintWords Go.Proofs.YtnegcjgolaakcaaW.PrintLast Go.Proofs.YtnegcjgolaakcaaW.PrintMore
set_option linter.unusedVariables false
set_option linter.unusedSimpArgs false
section
variable {w w' : World} {g : Nat} {s s' : DS} {base : Nat} {ok : Nat → Prop} {nb fb : Nat} {v v1 : Value} {ad ad' : List Nat} {T : Nat}
theorem at_I {w : World} {A : Option Addr} {n : Nat} {xs : List Int} (h : (Kd.int .i64).C w A n xs) (i : Nat) (h1 : i < n) {x : Int} (hx : xs[i]? = some x) : ∃ a : Addr, A = some a ∧ w.cell? (a.add i) = some (.int .i64 x) := by
  obtain ⟨a, c, e, _, hK, hc0⟩ := Kd.C_get h x (i : Int) (by omega) (by omega)
  have hc : ∀ j u, c[j]? = some u → w.cell? (a.add (i * 1 + j)) = some u := hc0
  have hK' : c = [.int .i64 (xs.getD i x)] := hK
  subst hK'
  have hq := hc 0 _ rfl
  rw [Nat.mul_one, Nat.add_zero] at hq
  refine ⟨a, e, hq.trans ?_⟩
  rw [List.getD_eq_getElem?_getD, hx]
  rfl
theorem setNow_nm (s : DS) (i : Nat) (b : List Int) : (s.setNow i b).nmL = s.nmL := map_modify_same s.files i (fun f => { f with now := b }) _ (fun _ => rfl)
theorem fast_spot {n : ByteArray} {q : Nat} (hna : s.fastOf ad n = some q) : ∃ (i : Nat) (f : PF), s.files[i]? = some f ∧ f.fast = n ∧ n ≠ nameless ∧ ad[i]? = some q := by
  unfold DS.fastOf at hna
  split at hna
  · cases hna
  · rename_i hn
    obtain ⟨i, hi, hq⟩ := Option.bind_eq_some_iff.1 hna
    rw [DS.findF_L] at hi
    have h1 := idxL_some hi
    unfold DS.fsL at h1
    rw [List.getElem?_map] at h1
    obtain ⟨f, hfi, hfn⟩ := Option.map_eq_some_iff.1 h1
    exact ⟨i, f, hfi, hfn, hn, hq⟩
theorem mid_at {s : DS} {lf : ByteArray → Bool} {i : Nat} {f : PF} (hi : s.files[i]? = some f) : (midS s lf).files[i]? = some (midF lf f) := by
  unfold midS
  rw [List.getElem?_map, hi]
  rfl
theorem mid_fs (s : DS) (lf : ByteArray → Bool) : (midS s lf).fsL = s.fsL := by
  unfold DS.fsL midS
  rw [List.map_map]
  exact List.map_congr_left (fun f _ => mid_fast _ f)
/-- a range's step: nothing but the range's own block has turned -/
theorem DiskAt.stepR {r : Nat} (h : DiskAt w g s base (fun k => ok k ∧ k ≠ r) nb fb v ad) (hg : w.grownBy w' (some r)) : DiskAt w' g s base (fun k => ok k ∧ k ≠ r) nb fb v ad :=
  h.step (fun k hk hlt => hg.block k hlt (fun e => hk.2 (by injection e)))
def F22RT4 : Bool × List (List Nat × List Nat) := (true, [([], []), ([], []), ([], []), ([], []), ([2, 3], [2, 3]), ([4], [4]), ([0, 1, 5], [0, 1, 5])])
def F22RB4 : List Nat := [0, 0, 0, 0, 12, 28, 63]
theorem F22Rtab4 : rtab .any (opsOf Try.f22 4) = F22RT4 := by kernel_rfl
theorem F22Rbits4 : waitsOk F22RT4.2 F22RB4 = true := by kernel_rfl
set_option maxHeartbeats 4000000 in
set_option maxRecDepth 100000 in
theorem crash_calls (keep : List Int) (K : Option Addr) (kc : Nat) (h : DiskAt w g s base ok nb fb v ad) (hI : s.Inv T) (hT : T ≤ 1073741824) (hfresh : ∀ k, w.heap.size ≤ k → ok k) (hk : ∀ x ∈ keep, x ≤ 9223372036854775807) (hC : ∀ W', Fr ok w W' → (Kd.int .i64).C W' K keep.length keep) :
    Calls Try.prog 22 #[ptrV g, .slice K keep.length kc] w fun e w' => e = .returned (.tuple #[]) ∧ (∃ nb' v' ad', DiskAt w' g (s.crash keep) base ok nb' fb v' ad') ∧ Fr ok w w' := by
  have hFI := (Inv_FI.1 hI)
  obtain ⟨A, c, rfl⟩ : ∃ A c, v = .slice A s.works.length c := by
    obtain ⟨A, c, e⟩ := Kd.R_slice h.wks
    rw [List.length_map] at e
    exact ⟨A, c, e⟩
  have y4 : w.cell? ⟨g, 4, none⟩ = some (.slice A s.works.length c) := (blk_cell h.blk 4).trans rfl
  have hgs := blk_lt h.blk
  have H := Aside0.mk h
  have HT := Aside0.mk hT
  have HF := Aside0.mk hfresh
  have HFI := Aside0.mk hFI
  have HK := Aside0.mk hk
  have HC := Aside0.mk hC
  clear h hI hT hfresh hFI hk hC
  go_enter Try.func22, Try.ntmps22
  go_wp2_with fail
  go_loopg [13] s.works.length (fun kq v13 w' => ∃ (i : Nat), v13 = .int .i64 i ∧ Aside0 (i + kq = s.works.length) ∧ Aside0 (FI T (repS s keep i) (wkN (s.works.drop i))) ∧ Aside0 (DiskAt w' g (repS s keep i) base ok nb fb (.slice A s.works.length c) ad) ∧ Aside0 (Fr ok w w'))
  case atStart => exact ⟨0, rfl, ⟨by omega⟩, ⟨HFI.out.1⟩, H, ⟨Fr.refl _ _⟩⟩
  case round =>
    clear y4 hgs
    obtain ⟨i, rfl, HI, HFD, HDK, HFr⟩ := hrel
    have hrep := rep_fold ((s.works.zip keep).take i) s
    by_cases hlt : i < s.works.length
    · have d6 : decide ((i : Int) < (s.works.length : Int)) = true := decide_eq_true (by omega)
      have d7 : decide (i < s.works.length) = true := decide_eq_true hlt
      have j0 : (0 : Int) ≤ (i : Int) := by omega
      have j1 : (i : Int) < (s.works.length : Int) := by omega
      have hRr := HDK.out.wks
      rw [show (repS s keep i).works = s.works from hrep.1] at hRr
      obtain ⟨gw, cw, ev, hgw1, hgw2, hgw3⟩ := Kd.R_form hRr (by rw [List.length_map]; omega)
      injection ev with e1 e2 e3
      subst e1
      obtain ⟨p, hp⟩ : ∃ p, p = s.works[i] := ⟨_, rfl⟩
      have hpi : s.works[i]? = some p := by rw [hp, List.getElem?_eq_getElem hlt]
      have hpm : p ∈ s.works := List.mem_of_getElem? hpi
      obtain ⟨q, hq⟩ : ∃ q, ad[p.file]? = some q := ⟨_, List.getElem?_eq_getElem (by rw [H.out.len]; exact (HFI.out.2.1 p hpm).1)⟩
      have em : mwOf ad p = (⟨p.kind, p.nm, p.tgt, p.len, q, p.b⟩ : MW) := mw_at hq _ _ _ _ _
      obtain ⟨B, cb, m0, m1, m2, m3, m4, m5, hBR⟩ := at_WR hRr i hlt (by rw [List.getElem?_map, hpi, Option.map_some, em])
      have HP := Aside0.mk (And.intro hpi (And.intro hpm hq))
      have HBR := Aside0.mk hBR
      have HLN := Aside0.mk (show (repS s keep i).files.length = s.files.length from hrep.2.1)
      have HN := Aside0.mk (rep_next (keep := keep) hpi)
      clear hRr hgw1 hgw3 hp hpi hpm hq em hBR e2 e3 hrep
      go_upto_region 3 with fail
      have H1 := Aside0.mk (HDK.out.below (w' := wr.alloc (.cells #[.int .i64 p.kind, .string p.nm, .string p.tgt, .int .i64 p.len, ptrV q, .slice B p.b.length cb] 76)) (below_alloc (Below.refl _ _) _))
      have HB1 := Aside0.mk (show Below wr.heap.size wr (wr.alloc (.cells #[.int .i64 p.kind, .string p.nm, .string p.tgt, .int .i64 p.len, ptrV q, .slice B p.b.length cb] 76)) from below_alloc (Below.refl _ _) _)
      have HW1 := Aside0.mk (blk_new wr (.cells #[.int .i64 p.kind, .string p.nm, .string p.tgt, .int .i64 p.len, ptrV q, .slice B p.b.length cb] 76))
      generalize wr.alloc (.cells #[.int .i64 p.kind, .string p.nm, .string p.tgt, .int .i64 p.len, ptrV q, .slice B p.b.length cb] 76) = w2 at *
      have HBR2 := Aside0.mk (Kd.R_below HBR.out HB1.out)
      have HF2 := Aside0.mk (HFr.out.trans (Fr.ofBelow (S := ok) HB1.out) (fun _ h _ => h))
      clear m0 m1 m2 m3 m4 m5
      generalize wr.heap.size = gx at *
      have k0 : w2.cell? ⟨gx, 0, none⟩ = some (.int .i64 p.kind) := (blk_cell HW1.out 0).trans rfl
      have k1 : w2.cell? ⟨gx, 1, none⟩ = some (.string p.nm) := (blk_cell HW1.out 1).trans rfl
      have k2 : w2.cell? ⟨gx, 2, none⟩ = some (.string p.tgt) := (blk_cell HW1.out 2).trans rfl
      have k3 : w2.cell? ⟨gx, 3, none⟩ = some (.int .i64 p.len) := (blk_cell HW1.out 3).trans rfl
      have k4 : w2.cell? ⟨gx, 4, none⟩ = some (ptrV q) := (blk_cell HW1.out 4).trans rfl
      have k5 : w2.cell? ⟨gx, 5, none⟩ = some (.slice B p.b.length cb) := (blk_cell HW1.out 5).trans rfl
      have hgx := blk_lt HW1.out
      cases hki : keep[i]? with
      | none =>
        have hkl : keep.length ≤ i := List.getElem?_eq_none_iff.1 hki
        have d8 : decide ((i : Int) < (keep.length : Int)) = false := decide_eq_false (by omega)
        have d9 : decide (i < keep.length) = false := decide_eq_false (by omega)
        have HN2 : Aside0 (repS s keep (i + 1) = repS s keep i) := ⟨by rw [HN.out, hki]⟩
        clear hki hkl k0 k1 k2 k3 k4 k5
        go_wp2_with fail
        go_roundg (gk - 1)
        case measure => have := HI.out; omega
        case rel =>
          refine ⟨i + 1, next_i6 (by have := HFI.out.2.2.1; have := HT.out; omega), ⟨by have := HI.out; omega⟩, ⟨?_⟩, ⟨?_⟩, HF2⟩
          · rw [HN2.out]
            have h1 := HFD.out
            rw [drop_next HP.out.1] at h1
            exact ⟨h1.nm, h1.fs, h1.okn, h1.okf, h1.lf, h1.now, by have := h1.old; omega⟩
          · rw [HN2.out]; exact H1.out
      | some kk =>
        have hkl : i < keep.length := (List.getElem?_eq_some_iff.1 hki).1
        have d8 : decide ((i : Int) < (keep.length : Int)) = true := decide_eq_true (by omega)
        have d9 : decide (i < keep.length) = true := decide_eq_true hkl
        have j2 : (i : Int) < (keep.length : Int) := by omega
        obtain ⟨ak, hK, ck⟩ := at_I (HC.out w2 HF2.out) i hkl hki
        subst hK
        have hkk : kk ≤ 9223372036854775807 := HK.out kk (List.mem_of_getElem? hki)
        have HKK := Aside0.mk hkk
        by_cases hpos : 0 < kk
        · have d10 : decide (0 < kk) = true := decide_eq_true hpos
          have HN2 : Aside0 (repS s keep (i + 1) = (repS s keep i).work p kk.toNat) := ⟨by rw [HN.out, hki]; exact if_pos hpos⟩
          have hkn : ((kk.toNat : Nat) : Int) = kk := by omega
          have HKN := Aside0.mk hkn
          clear hki hkl hkk hkn hpos
          go_upto_region 4 with fail
          refine start_ (n := 7) (S := fun w' => w'.cell? ⟨gx, 0, none⟩ = some (.int .i64 p.kind) ∧ w'.cell? ⟨gx, 1, none⟩ = some (.string p.nm) ∧ w'.cell? ⟨gx, 2, none⟩ = some (.string p.tgt) ∧ w'.cell? ⟨gx, 3, none⟩ = some (.int .i64 p.len) ∧ w'.cell? ⟨gx, 4, none⟩ = some (ptrV q) ∧ w'.cell? ⟨gx, 5, none⟩ = some (.slice B p.b.length cb) ∧ w'.cell? (ak.add i) = some (.int .i64 kk)) (ds := [6]) #[false, false, false, false, false, false, false] (by kernel_rfl) rfl rfl ⟨k0, k1, k2, k3, k4, k5, ck⟩ (fun hHeld => ?_)
          refine with_tabW F22Rtab4 F22Rbits4 (fun HT_ HW_ => ?_)
          refine pure_ (i := 0) (N := some 29) (v := ?_) (a' := ?_) #[true, false, false, false, false, false, false] rfl rfl (any_of HT_.out (by kernel_rfl)) (fun _ _ _ h => h) (Or.inl ⟨by rfl, ?_⟩) ?_ ?_
          rotate_left
          · intro w'
            go_simp
            with_reducible rfl
          rotate_left
          · simp only [Act.put, List.setIfInBounds_toArray, List.set_cons_zero, List.set_cons_succ, i64_w, i32_w]
            rfl
          refine pure_ (i := 2) (N := some 31) (v := ?_) (a' := ?_) #[true, false, true, false, false, false, false] rfl rfl (any_of HT_.out (by kernel_rfl)) (fun _ _ _ h => h) (Or.inl ⟨by rfl, ?_⟩) ?_ ?_
          rotate_left
          · intro w'
            go_simp
            with_reducible rfl
          rotate_left
          · simp only [Act.put, List.setIfInBounds_toArray, List.set_cons_zero, List.set_cons_succ, i64_w, i32_w]
            rfl
          refine pure_ (i := 3) (N := some 32) (v := ?_) (a' := ?_) #[true, false, true, true, false, false, false] rfl rfl (any_of HT_.out (by kernel_rfl)) (fun _ _ _ h => h) (Or.inl ⟨by rfl, ?_⟩) ?_ ?_
          rotate_left
          · intro w'
            go_simp
            with_reducible rfl
          rotate_left
          · simp only [Act.put, List.setIfInBounds_toArray, List.set_cons_zero, List.set_cons_succ, i64_w, i32_w]
            rfl
          refine pure_ (i := 4) (N := some 33) (v := ?_) (a' := ?_) #[true, false, true, true, true, false, false] rfl rfl (any_of HT_.out (by kernel_rfl)) (fun _ _ _ h => h) (Or.inl ⟨by rfl, ?_⟩) ?_ ?_
          rotate_left
          · intro w'
            go_simp
            with_reducible rfl
          rotate_left
          · simp only [Act.put, List.setIfInBounds_toArray, List.set_cons_zero, List.set_cons_succ, i64_w, i32_w]
            rfl
          refine take_ (i := 1) (N := some 30) (v := ?_) (a' := ?_) #[true, true, true, true, true, false, false] rfl rfl (take_ofW HT_.out HW_.out (by kernel_rfl)) (fun _ _ _ h => h) (Or.inl ⟨by rfl, ?_⟩) hHeld ?_ ?_
          rotate_left
          · rintro w' ⟨s0, s1, s2, s3, s4, s5, s6⟩
            go_simp
            with_reducible rfl
          rotate_left
          · simp only [Act.put, List.setIfInBounds_toArray, List.set_cons_zero, List.set_cons_succ, i64_w, i32_w]
            rfl
          refine take_ (i := 5) (N := some 34) (v := ?_) (a' := ?_) #[true, true, true, true, true, true, false] rfl rfl (take_ofW HT_.out HW_.out (by kernel_rfl)) (fun _ _ _ h => h) (Or.inl ⟨by rfl, ?_⟩) hHeld ?_ ?_
          rotate_left
          · rintro w' ⟨s0, s1, s2, s3, s4, s5, s6⟩
            go_simp
            with_reducible rfl
          rotate_left
          · simp only [Act.put, List.setIfInBounds_toArray, List.set_cons_zero, List.set_cons_succ, i64_w, i32_w]
            rfl
          refine last_ (i := 6) (N := some 35) #[true, true, true, true, true, true, true] rfl rfl (one_of HT_.out (by kernel_rfl)) (by decide) (fun K hK => ?_)
          refine goes_ Try.func52 (by kernel_rfl) rfl #[ptrV g, .agg (cW (⟨p.kind, p.nm, p.tgt, p.len, q, p.b⟩ : MW) (.slice B p.b.length cb)), .int .i64 kk] (by rfl) rfl rfl (by simp only [List.map_toArray, List.map_cons, List.map_nil]; rfl) ?_
          rw [← HKN.out]
          have hfr2 : ∀ k, w2.drew.heap.size ≤ k → ok k := fun k hk => HF.out k (Nat.le_trans HF2.out.size hk)
          with_reducible refine (make_calls (e := wkN (s.works.drop (i + 1))) p kk.toNat B cb q (H1.out.below (below_drew (Below.refl _ _))) (by rw [← drop_next HP.out.1]; exact HFD.out) HT.out hfr2 HP.out.2.2 (by rw [HLN.out]; exact HFI.out.2.1 p HP.out.2.1) (Kd.R_reads' HBR2.out).2.1 (Kd.C_drew (Kd.R_reads' HBR2.out).2.2) (by have := HKN.out; have := HKK.out; omega)).mono ?_
          rintro e w3 ⟨rfl, hd3, hf3, hs3⟩
          refine ⟨_, rfl, ?_⟩
          have H3 := Aside0.mk hd3
          have HF3 := Aside0.mk (show Fr ok w w3 from (HF2.out.trans (Fr.ofBelow (S := ok) (show Below w2.heap.size w2 w2.drew from below_drew (Below.refl _ _))) (fun _ h _ => h)).trans hf3 (fun _ h _ => h))
          clear hd3 hf3 hs3
          refine hK.out _ _ ?_
          clear hK K
          refine norm_ (a' := ?_) ?_ ?_
          rotate_left
          · show Act.put _ (some 35) _ = _
            simp only [Act.put, List.setIfInBounds_toArray, List.set_cons_zero, List.set_cons_succ, i64_w, i32_w]
            rfl
          refine done_ (done_of HT_.out (by kernel_rfl)) ?_
          clear k0 k1 k2 k3 k4 k5 hgx ck hHeld
          go_wp2_with fail
          go_roundg (gk - 1)
          case measure => have := HI.out; omega
          case rel =>
            refine ⟨i + 1, next_i6 (by have := HFI.out.2.2.1; have := HT.out; omega), ⟨by have := HI.out; omega⟩, ⟨?_⟩, ⟨?_⟩, HF3⟩
            · rw [HN2.out]
              exact FI.work (by rw [← drop_next HP.out.1]; exact HFD.out) (by rw [HLN.out]; exact HFI.out.2.1 p HP.out.2.1) _
            · rw [HN2.out]; exact H3.out
        · have d10 : decide (0 < kk) = false := decide_eq_false hpos
          have HN2 : Aside0 (repS s keep (i + 1) = repS s keep i) := ⟨by rw [HN.out, hki]; exact if_neg hpos⟩
          clear hki hkl hkk k0 k1 k2 k3 k4 k5 hpos
          go_wp2_with fail
          go_roundg (gk - 1)
          case measure => have := HI.out; omega
          case rel =>
            refine ⟨i + 1, next_i6 (by have := HFI.out.2.2.1; have := HT.out; omega), ⟨by have := HI.out; omega⟩, ⟨?_⟩, ⟨?_⟩, HF2⟩
            · rw [HN2.out]
              have h1 := HFD.out
              rw [drop_next HP.out.1] at h1
              exact ⟨h1.nm, h1.fs, h1.okn, h1.okf, h1.lf, h1.now, by have := h1.old; omega⟩
            · rw [HN2.out]; exact H1.out
    · have d6 : decide ((i : Int) < (s.works.length : Int)) = false := decide_eq_false (by omega)
      have d7 : decide (i < s.works.length) = false := decide_eq_false hlt
      obtain rfl : i = s.works.length := by have := HI.out; omega
      rw [rep_all] at HFD HDK
      have HLW := Aside0.mk (show (s.replay keep).works = s.works from (rep_fold _ s).1)
      have hgs := blk_lt HDK.out.blk
      have f2 := blk_frozen HDK.out.blk 2
      have y2 : wr.cell? ⟨g, 2, none⟩ = some (.map (some nb)) := (blk_cell HDK.out.blk 2).trans rfl
      clear hlt hrep
      have hmm := @run_makeMap Try.prog
      go_upto_region 7 with fail
      clear hmm
      have hbs : base ≤ wr.heap.size := Nat.le_trans HDK.out.okg.2 (Nat.le_of_lt hgs)
      have H6 := Aside0.mk ((HDK.out.below (w' := wr.alloc (.map #[] 0)) (below_alloc (Below.refl _ _) _)).unnamed (map_made wr) ⟨HF.out _ HFr.out.size, hbs⟩ (fun e => by have := HDK.out.fst.lt; omega) (fun e => by omega))
      have HF6 := Aside0.mk (Fr.setCell (S := ok) (p := ⟨g, 2, none⟩) (HFr.out.alloc (.map #[] 0)) (fun _ => H.out.okg.1) (.map (some wr.heap.size)))
      have HFS := Aside0.mk HFD.out.fs
      have HAD := Aside0.mk (HDK.out)
      have e6 : (wr.alloc (.map #[] 0)).setCell ⟨g, 2, none⟩ (.map (some wr.heap.size)) = (wr.setCell ⟨g, 2, none⟩ (.map (some wr.heap.size))).alloc (.map #[] 0) := World.setCell_alloc_past (w := wr) (.map #[] 0) g 2 (.map (some wr.heap.size)) hgs
      rw [e6] at H6 HF6
      clear e6
      generalize (wr.setCell ⟨g, 2, none⟩ (.map (some wr.heap.size))).alloc (.map #[] 0) = w6 at *
      obtain ⟨nb', hnb⟩ : ∃ nb', nb' = wr.heap.size := ⟨_, rfl⟩
      rw [← hnb] at H6 ⊢
      have HOL : Aside0 (oldN (s.replay keep) ≤ 1073741824 ∧ (s.replay keep).files.length ≤ 1073741824) := ⟨by have h1 := HFD.out.old; have h2 := HFD.out.lf; have h3 := HT.out; omega⟩
      generalize hsR : s.replay keep = sR at *
      have HSR := Aside0.mk hsR
      clear hnb hgs f2 y2 hbs HDK HFr HFD HLW hsR
      obtain ⟨D, hown, hD⟩ := H6.out.fst.open
      have HO := Aside0.mk hown
      have HD := Aside0.mk hD
      have y3 : w6.cell? ⟨g, 3, none⟩ = some (.map (some fb)) := (blk_cell H6.out.blk 3).trans rfl
      have hgs := blk_lt H6.out.blk
      clear hown hD
      go_wp2_with (first | (at_range; refine wpList_range_own _ rfl _ 65 rfl 9 71 keyLaw Try.underlying65 filE fb _ D rfl HO.out ?_; intro w7 hrg7 hg7 hs7) | fail)
      have HR7 := Aside0.mk hrg7
      have H7 : Aside0 (DiskAt w7 g (midS sR (fun n => Maps.has D (key n))) base (fun k => ok k ∧ k ≠ w6.heap.size) nb' fb (.slice A s.works.length c) ad) := ⟨by
        have h1 := (H6.out.bound.below (grown_none hg7)).mono (ok' := fun k => ok k ∧ k ≠ w6.heap.size) (fun k hk => ⟨hk.1, Nat.ne_of_lt hk.2.2⟩)
        rw [mid_congr (s := sR) (lf := fun n => Maps.has D (key n)) (lf' := fun _ => true)]
        · exact h1
        · intro f hf hne
          obtain ⟨i, hi⟩ := List.mem_iff_getElem?.1 hf
          have hfs : (midS sR (fun _ => true)).fsL[i]? = some f.fast := by rw [mid_fs]; unfold DS.fsL; rw [List.getElem?_map, hi]; rfl
          obtain ⟨q, hq⟩ : ∃ q, ad[i]? = some q := ⟨_, List.getElem?_eq_getElem (by rw [HAD.out.len]; exact (List.getElem?_eq_some_iff.1 hi).1)⟩
          have h2 := fast_is H6.out (by rw [mid_fs]; exact HFS.out) hq hfs hne
          show Maps.has D (key f.fast) = true
          rw [(HD.out.2 f.fast).2, h2]
          rfl⟩
      have HF7 : Aside0 (Fr ok w w7) := ⟨HF6.out.trans (Fr.ofBelow (S := ok) (grown_none hg7)) (fun _ h _ => h)⟩
      have HLE : Aside0 (w.heap.size ≤ w6.heap.size) := ⟨HF6.out.size⟩
      have HS7 : Aside0 (w6.heap.size < w7.heap.size) := ⟨by omega⟩
      have HLD : Aside0 (∀ n, (midS sR (fun _ => true)).fastOf ad n = sR.fastOf ad n) := ⟨fun n => by rw [DS.fastOf_L, DS.fastOf_L, mid_fs]⟩
      clear hrg7 hg7 hs7 y3 hgs
      go_frame
      go_loopg [] (Maps.size D) (fun kq w' => ∃ (left : Lit → Bool), Aside0 (w'.ranges Try.prog 9 filE fb w6.heap.size (Maps.size D) D left kq) ∧ Aside0 (DiskAt w' g (midS sR (fun n => left (key n))) base (fun k => ok k ∧ k ≠ w6.heap.size) nb' fb (.slice A s.works.length c) ad) ∧ Aside0 (Fr ok w w' ∧ w6.heap.size < w'.heap.size))
      case atStart => exact ⟨_, HR7, H7, ⟨HF7.out, HS7.out⟩⟩
      case round =>
        clear HR7 H7 HF7 HS7
        obtain ⟨left, HR, HM, HFr⟩ := hrel
        go_wp2_with (first | (at_next; refine wpList_next_ranges _ rfl _ rfl 9 keyLaw filE encStr filV key_shape filE_shape fb w6.heap.size _ D left _ rfl HR.out ?_ ?_) | fail)
        case refine_1 =>
          intro hc0 hl0
          have hM : DiskAt wr g (midS sR (fun _ => false)) base ok nb' fb (.slice A s.works.length c) ad := by
            rw [mid_congr (s := sR) (lf := fun _ => false) (lf' := fun n => left (key n)) (fun f _ _ => (hl0 _).symm)]
            exact HM.out.mono (fun k hk => hk.1)
          have HM1 := Aside0.mk hM
          have y4 : wr.cell? ⟨g, 4, none⟩ = some (.slice A s.works.length c) := (blk_cell hM.blk 4).trans rfl
          have y5 : wr.cell? ⟨g, 5, none⟩ = some (.bool (midS sR (fun _ => false)).off) := (blk_cell hM.blk 5).trans rfl
          have y6 : wr.cell? ⟨g, 6, none⟩ = some (.int .i64 (midS sR (fun _ => false)).left) := (blk_cell hM.blk 6).trans rfl
          have f4 := blk_frozen hM.blk 4
          have f5 := blk_frozen hM.blk 5
          have f6 := blk_frozen hM.blk 6
          have hgs := blk_lt hM.blk
          clear hc0 hl0 hM
          go_wp2_with fail
          go_end0
          obtain ⟨ad', h2⟩ := (HM1.out.newRow (ws := []) (v1 := .slice none 0 0) (Kd.R_nil _ _ _ _ _)).prune rfl (fun f hf h0 => by
            obtain ⟨f', hf', rfl⟩ := List.mem_map.1 hf
            rw [mid_fast] at h0
            unfold midF
            rw [if_neg (fun h => h.1 h0)])
          have hc : s.crash keep = { midS sR (fun _ => false) with files := (midS sR (fun _ => false)).files.filter (fun f => f.fast ≠ nameless), works := [], off := false, left := -1 } := by
            rw [crash_eq, HSR.out]
          refine ⟨rfl, ⟨nb', _, ad', h2.head (s' := s.crash keep) (fun k hk _ => (Below.heap_setCell _ _ _ k hk).trans (Below.heap_setCell _ _ _ k hk)) (by rw [hc]; exact blk_put (blk_put h2.blk 5 _ rfl) 6 _ rfl) (by rw [hc]) (by rw [hc])⟩, Fr.setCell (S := ok) (p := ⟨g, 6, none⟩) (Fr.setCell (S := ok) (p := ⟨g, 5, none⟩) (Fr.setCell (S := ok) (p := ⟨g, 4, none⟩) HFr.out.1 (fun _ => H.out.okg.1) _) (fun _ => H.out.okg.1) _) (fun _ => H.out.okg.1) _⟩
        case refine_2 =>
          intro x c0 kl a b w8 cnt8 hk hl hy hat hrg8 hlt hg8 hs8 hen
          obtain ⟨l, hxl, rfl, _⟩ := Maps.keyOf_str Try.underlying9 hk
          rw [hxl] at hk hen ⊢
          clear hxl
          obtain ⟨m, hm⟩ : ∃ m : ByteArray, Lit.string l = key m := ⟨⟨l.toArray⟩, rfl⟩
          rw [hm] at hl hat hrg8 hk
          have hsm := (HD.out.2 m).2
          rw [Maps.has_true_of_atKey hat] at hsm
          obtain ⟨q, hq0⟩ := Option.isSome_iff_exists.1 hsm.symm
          have ha := (HD.out.2 m).1
          rw [hq0, hat] at ha
          obtain rfl : c0 = some q := by
            cases c0 with
            | none => simp [filV, filE, ha, atD, ptrD] at hy
            | some c0 => simp [filV, filE, ha, atD, ptrD] at hy; have := hy.1; congr 1; omega
          have ef : filV (some q) = ptrV q := rfl
          rw [ef] at hen ⊢
          clear ef
          rw [HLD.out] at hq0
          obtain ⟨i, f, hfi, hfn, hne, hqi⟩ := fast_spot hq0
          have HQ := Aside0.mk (And.intro hfi (And.intro hfn (And.intro hne hqi)))
          have HLF := Aside0.mk hl
          have HM8 := Aside0.mk (HM.out.stepR hg8)
          have HRG := Aside0.mk hrg8
          have HLT := Aside0.mk hlt
          have HKM := Aside0.mk hk
          have HF8 : Aside0 (Fr ok w w8 ∧ w6.heap.size < w8.heap.size) := ⟨HFr.out.1.grown hg8 (fun k e hkk => by injection e with e; have := HLE.out; omega), by rw [hs8]; exact HFr.out.2⟩
          have hmid := mid_at (lf := fun n => left (key n)) hfi
          obtain ⟨q', eq', hFq⟩ := HM8.out.fls i _ hmid
          obtain rfl : q = q' := by rw [hqi] at eq'; injection eq'
          obtain ⟨hokq, _, vn, vo, hbq, _, hRo⟩ := hFq
          rw [mid_old] at hRo
          obtain ⟨Ao, co, rfl, hco, hCo⟩ := Kd.R_reads hRo
          have HBQ := Aside0.mk (And.intro hbq hokq)
          have q1 : w8.cell? ⟨q, 1, none⟩ = some (.slice Ao f.old.length co) := (blk_cell hbq 1).trans rfl
          have lq := blk_lt hbq
          have hol : f.old.length ≤ 1099511627776 := by
            have h1 : f.old.length ≤ oldN sR := sum_ge (List.mem_map_of_mem (f := fun f : PF => f.old.length) (List.mem_of_getElem? hfi))
            have := HOL.out.1
            omega
          have HCL := Aside0.mk (clone_calls Ao co f.old w8 hCo hol)
          clear hsm ha hat hy hrg8 hlt hg8 hs8 hk hl hq0 hfi hfn hne hqi hmid eq' hbq hRo hco hCo hol hokq
          go_wp2_with fail
          refine HCL.out.mono ?_
          rintro e w9 ⟨u, rfl, hR9, hB9⟩
          have HR9 := Aside0.mk hR9
          have HB9 := Aside0.mk hB9
          obtain ⟨A9, c9, hu9⟩ := Kd.R_slice hR9
          generalize f.old.length = l9 at hu9
          subst hu9
          have hQ9 := blk_below HBQ.out.1 hB9
          have q0 : w9.cell? ⟨q, 0, none⟩ = some vn := (blk_cell hQ9 0).trans rfl
          have f0 := blk_frozen hQ9 0
          have lq9 := blk_lt hQ9
          have HQ9 := Aside0.mk hQ9
          clear hR9 hB9 hQ9 q1 lq
          go_upto_region 11 with fail
          have hbs : base ≤ w8.heap.size := Nat.le_trans HM8.out.okg.2 (Nat.le_of_lt (blk_lt HM8.out.blk))
          have hmid := mid_at (lf := fun n => left (key n)) HQ.out.1
          have H10 := Aside0.mk ((HM8.out.below HB9.out).setNow hmid HQ.out.2.2.2 (R_fresh (ok := fun k => ok k ∧ k ≠ w6.heap.size) HR9.out hbs (fun k hk => ⟨HF.out k (Nat.le_trans HF8.out.1.size hk), by have := HF8.out.2; omega⟩)))
          have HG10 : Aside0 (w8.grownBy (w9.setCell ⟨q, 0, none⟩ (.slice A9 l9 c9)) (some q)) := ⟨HB9.out.os, HB9.out.tape, HB9.out.output, (by have := HB9.out.size; simpa [World.setCell] using this), fun k hk hne => (Below.heap_setCell _ _ _ k (fun e => hne (by rw [e]))).trans (HB9.out.block k hk)⟩
          have HRG10 := Aside0.mk (HRG.out.kept HG10.out (fun e => by injection e with e; exact HM8.out.fst.noCells (e ▸ HBQ.out.1)) (fun e => by injection e with e; exact HBQ.out.2.2 e.symm))
          have HF10 : Aside0 (Fr ok w (w9.setCell ⟨q, 0, none⟩ (.slice A9 l9 c9)) ∧ w6.heap.size < (w9.setCell ⟨q, 0, none⟩ (.slice A9 l9 c9)).heap.size) := ⟨Fr.setCell (S := ok) (p := ⟨q, 0, none⟩) ((HF8.out.1.trans (Fr.ofBelow (S := ok) HB9.out) (fun _ h _ => h))) (fun _ => HBQ.out.2.1) _, by have h1 := HB9.out.size; have h2 := HF8.out.2; simp [World.setCell]; omega⟩
          generalize w9.setCell ⟨q, 0, none⟩ (.slice A9 l9 c9) = w10 at *
          clear q0 f0 lq9 HQ9 HR9 HB9 HG10 hbs hmid HCL HM8 HRG
          obtain ⟨D2, ho2, hD2⟩ := H10.out.nms.open
          have hM2 : Maps.size D2 < maxLen := by
            have h1 : Maps.size D2 = _ := hD2.1
            have h2 := count_le ((midS sR (fun n => left (key n))).setNow i f.old)
            have h3 : ((midS sR (fun n => left (key n))).setNow i f.old).files.length = sR.files.length := (List.length_modify _ _ _).trans (List.length_map _)
            have h4 := HOL.out.2
            simp only [maxLen]
            omega
          have HO2 := Aside0.mk (And.intro ho2 (And.intro hD2 hM2))
          have y2 : w10.cell? ⟨g, 2, none⟩ = some (.map (some nb')) := (blk_cell H10.out.blk 2).trans rfl
          have hgs := blk_lt H10.out.blk
          clear ho2 hD2 hM2
          go_wp2_with (first | (at_mapUpdate; refine wpList_mapUpdate_in _ rfl _ _ _ 65 rfl 9 71 keyLaw Try.underlying65 filE nb' _ D2 rfl HO2.out.1 HO2.out.2.2 _ _ _ rfl rfl HKM.out _ _ (filE_ptr _) ?_; intro w11 hown11 hturn11; have HOW := Aside0.mk (And.intro hown11 hturn11); clear hown11 hturn11 y2 hgs) | fail)
          have hU : UL ((midS sR (fun n => left (key n))).setNow i f.old).nmL := by rw [setNow_nm]; exact mid_UL HFS.out _
          have hLi : ((midS sR (fun n => left (key n))).setNow i f.old).nmL[i]? = some nameless := by
            rw [setNow_nm]
            unfold DS.nmL
            rw [List.getElem?_map, mid_at HQ.out.1]
            unfold midF
            rw [if_neg (fun h => by have h2 : left (key f.fast) = false := h.2; rw [HQ.out.2.1, HLF.out] at h2; cases h2)]
            rfl
          have h11 := H10.out.give hU HQ.out.2.2.1 hLi HQ.out.2.2.2 (HO2.out.1.tidy keyLaw) HO2.out.2.1 HOW.out.1 HOW.out.2
          have hfd : ((midS sR (fun n => left (key n))).setNow i f.old).find m = none := by
            rw [DS.find_L, setNow_nm, ← DS.find_L]
            exact mid_find (lf := fun n => left (key n)) HQ.out.2.2.1 HLF.out
          have e11 : ((midS sR (fun n => left (key n))).setNow i f.old).give i m = midS sR (fun n => left (key n) && !(key n).sameKey (key m)) := by
            unfold DS.give
            rw [hfd]
            have h1 := mid_step (lf := fun n => left (key n)) HFS.out HQ.out.1 (by rw [HQ.out.2.1]; exact HQ.out.2.2.1) (by rw [HQ.out.2.1]; exact HLF.out)
            rw [HQ.out.2.1] at h1
            show DS.setName ((midS sR (fun n => left (key n))).setNow i f.old) i m = _
            rw [← h1]
            congr 1
            funext n
            rw [key_same]
          rw [e11] at h11
          have HM11 := Aside0.mk h11
          have HRG11 := Aside0.mk (HRG10.out.kept HOW.out.2.grown (fun e => by injection e with e; exact H10.out.ne e.symm) (fun e => by injection e with e; exact H10.out.okn.1.2 e.symm))
          have HF11 : Aside0 (Fr ok w w11 ∧ w6.heap.size < w11.heap.size) := ⟨HF10.out.1.grown HOW.out.2.grown (fun k e _ => by injection e with e; subst e; exact H10.out.okn.1.1), Nat.lt_of_lt_of_le HF10.out.2 HOW.out.2.grown.size⟩
          clear hU hLi h11 hfd e11
          go_roundg cnt8
          case measure => exact HLT.out
          case rel => exact ⟨_, HRG11, HM11, HF11⟩
end
end Go.Proofs.Ytnegcjgolaakcaa

/- bytes.Clone; (*disk.Disk).Read, Pending. -/
namespace Go.Proofs.Ytnegcjgolaakcaa
open Go.RowKit Go.Maps
open Go.Proofs.YtnegcjgolaakcaaW.PrintWords Go.Proofs.YtnegcjgolaakcaaW.PrintLast Go.Proofs.YtnegcjgolaakcaaW.PrintMore
set_option linter.unusedVariables false
set_option linter.unusedSimpArgs false
set_option maxHeartbeats 4000000 in
set_option maxRecDepth 100000 in
theorem bclone_calls (A : Option Addr) (c : Nat) (l : List Int) (w : World) (hC : bK.C w A l.length l) (hl : l.length ≤ 1099511627776) :
    Calls Try.prog 44 #[.slice A l.length c] w fun e w' => ∃ v, e = .returned v ∧ bK.R 5 w' w.heap.size (fun _ => True) v l ∧ Below w.heap.size w w' := by
  have HC := Aside0.mk hC
  have HL := Aside0.mk hl
  have hN : A = none → l = [] := by
    rintro rfl
    rcases l with _ | ⟨x, l⟩
    · rfl
    · obtain ⟨_, h, _⟩ := hC.2.2 (by simp)
      cases h
  clear hC hl
  cases A with
  | none =>
    obtain rfl := hN rfl
    clear hN
    go_enter Try.func44, Try.ntmps44
    have hq := fun (W : World) => Go.Lib.run_eql_slice_nil (P := Try.prog) W 30 5 none 0 c 0 0 Try.underlying30
    go_wp2_with fail
    go_ret
    exact ⟨_, rfl, Kd.R_nil _ _ _ _ _, Below.refl _ _⟩
  | some ad =>
    clear hN
    obtain ⟨n, hn⟩ : ∃ n, n = l.length := ⟨_, rfl⟩
    rw [← hn] at HC HL ⊢
    have HN := Aside0.mk hn
    clear hn
    go_enter Try.func44, Try.ntmps44
    have hq := fun (W : World) => Go.Lib.run_eql_slice_nil (P := Try.prog) W 30 5 (some ad) n c 0 0 Try.underlying30
    have hr : bK.R 5 (w.alloc (.cells #[] 5)) w.heap.size (fun _ => True) (.slice (some ⟨w.heap.size, 0, none⟩) 0 0) [] := R_empty w _ (Nat.le_refl _)
    have HR := Aside0.mk hr
    clear hr
    go_wp2_with ((with_reducible refine gate_builtin (b := .append) (xs := #[.tmp 5, .tmp 6]) rfl ?_); at_builtin; refine Kd.R_append_rows bK (w0 := w) w.heap.size rfl (.tmp 5) (.tmp 6) 30 5 (.int .u8 0) 1 rfl Try.underlying30 info5 rfl (by decide) (by decide) (.slice (some ⟨w.heap.size, 0, none⟩) 0 0) [] l (some ad) n c (fun _ => True) (fun _ => False) rfl rfl HR.out (Kd.C_below HC.out (below_alloc (Below.refl _ _) _)) (fun _ _ h => h) (fun _ h => h.elim) (fun _ _ => trivial) (below_alloc (Below.refl _ _) _) (by simp) (by have := HL.out; simp; omega) ?_; intro v1 w1 hR1 hb1 hg1 _)
    go_ret
    exact ⟨_, rfl, hR1, hb1⟩

section
variable {w w' : World} {g : Nat} {s s' : DS} {base : Nat} {ok : Nat → Prop} {nb fb : Nat} {v v1 : Value} {ad ad' : List Nat} {T : Nat}
/-- what Read answers -/
def ReadPost (w : World) (r : List Int × Int) (e : Ending) (w' : World) : Prop := ∃ vb, e = .returned (.tuple #[vb, .int .i64 r.2]) ∧ bK.R 5 w' w.heap.size (fun _ => True) vb r.1 ∧ Below w.heap.size w w'
set_option maxHeartbeats 4000000 in
set_option maxRecDepth 100000 in
theorem read_calls (n : ByteArray) (h : DiskAt w g s base ok nb fb v ad) (hI : s.Inv T) (hT : T ≤ 1073741824) (hs : n.size ≤ maxLen) :
    Calls Try.prog 16 #[ptrV g, .string n] w (ReadPost w (s.read n)) := by
  obtain ⟨D, hown, hD⟩ := h.nms.open
  have y2 : w.cell? ⟨g, 2, none⟩ = some (.map (some nb)) := (blk_cell h.blk 2).trans rfl
  have hgs := blk_lt h.blk
  have HO := Aside0.mk hown
  have HD := Aside0.mk hD
  have HS := Aside0.mk hs
  have HK := Aside0.mk (key_of hs)
  have H := Aside0.mk h
  have HI := Aside0.mk hI
  have HT := Aside0.mk hT
  have HH : Aside0 (Maps.has D (key n) = (s.nameAt ad n).isSome) := ⟨(hD.2 n).2⟩
  generalize hr : s.read n = r
  have HR := Aside0.mk hr
  clear h hI hT hs hown hD hr
  have HNV : Aside0 (s.off = true → r = ([], if namedV n then 63 else 61)) := ⟨fun ho => by rw [← HR.out]; unfold DS.read; cases namedV n <;> simp [ho]⟩
  go_enter Try.func16, Try.ntmps16
  cases hna : s.nameAt ad n with
  | none =>
    have HNA := Aside0.mk hna
    rw [hna] at HH
    clear hna
    go_wp2_with (first | (at_lookup; refine wpList_lookup_own_ok _ rfl _ _ 65 rfl 9 71 keyLaw Try.underlying65 filE (zeroF _) .nil [] filE_nil nb _ D rfl HO.out _ _ rfl HK.out ?_; intro vl ps hv; have hvl := look_none HD.out HNA.out hv; clear hv; subst hvl; rw [HH.out]; clear hgs y2) | fail)
    refine (named_calls n _ HS.out).mono ?_
    rintro e w1 ⟨rfl, hb1⟩
    have HB1 := Aside0.mk hb1
    have H1 := Aside0.mk (H.out.below hb1)
    have y5 : w1.cell? ⟨g, 5, none⟩ = some (.bool s.off) := (blk_cell H1.out.blk 5).trans rfl
    have hgs1 := blk_lt H1.out.blk
    clear hb1
    cases hnm : namedV n with
    | false =>
      have HR2 : Aside0 (r = ([], 61)) := ⟨by rw [← HR.out]; unfold DS.read; rw [hnm]; rfl⟩
      clear hnm
      go_wp2_with fail
      go_ret2
      rw [HR2.out]
      exact ⟨_, rfl, Kd.R_nil _ _ _ _ _, HB1.out⟩
    | true =>
      cases ho : s.off with
      | true =>
        have HR2 : Aside0 (r = ([], 63)) := ⟨by rw [← HR.out]; unfold DS.read; rw [hnm, ho]; rfl⟩
        rw [ho] at y5
        clear hnm ho
        go_wp2_with fail
        go_ret2
        rw [HR2.out]
        exact ⟨_, rfl, Kd.R_nil _ _ _ _ _, HB1.out⟩
      | false =>
        have HR2 : Aside0 (r = ([], 60)) := ⟨by rw [← HR.out]; unfold DS.read; rw [hnm, ho, find_none H.out (not_nameless hnm) HNA.out]; rfl⟩
        rw [ho] at y5
        clear hnm ho
        go_wp2_with fail
        go_ret2
        rw [HR2.out]
        exact ⟨_, rfl, Kd.R_nil _ _ _ _ _, HB1.out⟩
  | some q =>
    have HNA := Aside0.mk hna
    rw [hna] at HH
    obtain ⟨i, f, hfi, hff, hfn, hne, hq, hL⟩ := spot_ad H.out hna
    have HFI := Aside0.mk (And.intro hfi (And.intro hff hq))
    have HLN := Aside0.mk (now_le HI.out hff)
    clear hna hfi hff hfn hne hq hL
    go_wp2_with (first | (at_lookup; refine wpList_lookup_own_ok _ rfl _ _ 65 rfl 9 71 keyLaw Try.underlying65 filE (zeroF _) .nil [] filE_nil nb _ D rfl HO.out _ _ rfl HK.out ?_; intro vl ps hv; have hvl := look_some HD.out HNA.out hv; clear hv; subst hvl; rw [HH.out]; clear hgs y2) | fail)
    refine (named_calls n _ HS.out).mono ?_
    rintro e w1 ⟨rfl, hb1⟩
    have HB1 := Aside0.mk hb1
    have H1 := Aside0.mk (H.out.below hb1)
    have y5 : w1.cell? ⟨g, 5, none⟩ = some (.bool s.off) := (blk_cell H1.out.blk 5).trans rfl
    have hgs1 := blk_lt H1.out.blk
    clear hb1
    cases hnm : namedV n with
    | false =>
      have HR2 : Aside0 (r = ([], 61)) := ⟨by rw [← HR.out]; unfold DS.read; rw [hnm]; rfl⟩
      clear hnm
      go_wp2_with fail
      go_ret2
      rw [HR2.out]
      exact ⟨_, rfl, Kd.R_nil _ _ _ _ _, HB1.out⟩
    | true =>
      cases ho : s.off with
      | true =>
        have HR2 : Aside0 (r = ([], 63)) := ⟨by rw [← HR.out]; unfold DS.read; rw [hnm, ho]; rfl⟩
        rw [ho] at y5
        clear hnm ho
        go_wp2_with fail
        go_ret2
        rw [HR2.out]
        exact ⟨_, rfl, Kd.R_nil _ _ _ _ _, HB1.out⟩
      | false =>
        have HR2 : Aside0 (r = (f.now, 0)) := ⟨by rw [← HR.out]; unfold DS.read DS.nowAt; rw [hnm, ho, HFI.out.1]; simp [HFI.out.2.1]⟩
        rw [ho] at y5
        clear hnm ho
        obtain ⟨q', eq', hFq⟩ := H1.out.fls _ _ HFI.out.2.1
        obtain rfl : q = q' := by rw [HFI.out.2.2] at eq'; injection eq'
        obtain ⟨_, _, vn, vo, hbq, hRn, _⟩ := hFq
        obtain ⟨An, cn, rfl, hcn, hCn⟩ := Kd.R_reads hRn
        have q0 : w1.cell? ⟨q, 0, none⟩ = some (.slice An f.now.length cn) := (blk_cell hbq 0).trans rfl
        have lq := blk_lt hbq
        have HCL := Aside0.mk (bclone_calls An cn f.now w1 hCn (by have := HLN.out; have := HT.out; omega))
        clear eq' hbq hRn hcn hCn
        go_wp2_with fail
        refine HCL.out.mono ?_
        rintro e w2 ⟨vb, rfl, hR, hB⟩
        have HR3 := Aside0.mk hR
        have HB3 := Aside0.mk hB
        clear hR hB q0 lq
        go_wp2_with fail
        go_ret2
        rw [HR2.out]
        exact ⟨_, rfl, Kd.R_lower HR3.out HB1.out.size, HB1.out.trans (HB3.out.mono HB1.out.size)⟩
end
end Go.Proofs.Ytnegcjgolaakcaa

/- (*disk.Disk).Pending. -/
namespace Go.Proofs.Ytnegcjgolaakcaa
open Go.RowKit Go.Maps
open Go.Proofs.YtnegcjgolaakcaaW.PrintWords Go.Proofs.YtnegcjgolaakcaaW.PrintLast Go.Proofs.YtnegcjgolaakcaaW.PrintMore
set_option linter.unusedVariables false
set_option linter.unusedSimpArgs false
/-- a work, as it is told -/
def pendK : Kd (Int × ByteArray × ByteArray × Int) := Kd.pair (Kd.int .i64) (Kd.pair Kd.string (Kd.pair Kd.string (Kd.int .i64)))
def pendOf (p : PW) : Int × ByteArray × ByteArray × Int := (p.kind, p.nm, p.tgt, p.len)
theorem pendK_mkM (w : World) (base : Nat) (ok : Nat → Prop) (x : Int × ByteArray × ByteArray × Int) : pendK.M w base ok x [.int .i64 x.1, .string x.2.1, .string x.2.2.1, .int .i64 x.2.2.2] :=
  ⟨[.int .i64 x.1], [.string x.2.1, .string x.2.2.1, .int .i64 x.2.2.2], rfl, rfl, ⟨[.string x.2.1], [.string x.2.2.1, .int .i64 x.2.2.2], rfl, rfl, ⟨[.string x.2.2.1], [.int .i64 x.2.2.2], rfl, rfl, rfl⟩⟩⟩
theorem info74 : (Try.prog.info? 74).map (fun i => (i.zero, i.size, i.bytes)) = some (some (.agg #[.int .i64 0, .string ⟨#[]⟩, .string ⟨#[]⟩, .int .i64 0]), 4, 48) := by kernel_rfl
theorem pend_next {ws : List PW} {i : Nat} {p : PW} (h : ws[i]? = some p) : (ws.take (i + 1)).map pendOf = (ws.take i).map pendOf ++ [pendOf p] := by
  obtain ⟨hl, rfl⟩ := List.getElem?_eq_some_iff.1 h
  rw [List.take_succ_eq_append_getElem hl, List.map_append]
  rfl
section
variable {w w' : World} {g : Nat} {s s' : DS} {base : Nat} {ok : Nat → Prop} {nb fb : Nat} {v v1 : Value} {ad ad' : List Nat} {T : Nat}
set_option maxHeartbeats 4000000 in
set_option maxRecDepth 100000 in
theorem pend_calls (h : DiskAt w g s base ok nb fb v ad) (hI : s.Inv T) (hT : T ≤ 1073741824) :
    Calls Try.prog 31 #[ptrV g] w fun e w' => ∃ A c, e = .returned (.slice A s.works.length c) ∧ pendK.R 74 w' w.heap.size (fun _ => True) (.slice A s.works.length c) (s.works.map pendOf) ∧ Below w.heap.size w w' := by
  have hFI := (Inv_FI.1 hI)
  obtain ⟨A, c, rfl⟩ : ∃ A c, v = .slice A s.works.length c := by
    obtain ⟨A, c, e⟩ := Kd.R_slice h.wks
    rw [List.length_map] at e
    exact ⟨A, c, e⟩
  have y4 : w.cell? ⟨g, 4, none⟩ = some (.slice A s.works.length c) := (blk_cell h.blk 4).trans rfl
  have hgs := blk_lt h.blk
  have H := Aside0.mk h
  have HT := Aside0.mk hT
  have HFI := Aside0.mk hFI
  clear h hI hT hFI
  go_enter Try.func31, Try.ntmps31
  go_wp2_with fail
  go_loopg [3, 11] s.works.length (fun kq v3 v11 w' => ∃ (i : Nat), v11 = .int .i64 i ∧ Aside0 (i + kq = s.works.length) ∧ Aside0 (pendK.R 74 w' w.heap.size (fun _ => True) v3 ((s.works.take i).map pendOf)) ∧ Aside0 (Below w.heap.size w w'))
  case atStart => exact ⟨0, rfl, ⟨by omega⟩, ⟨Kd.R_nil _ _ _ _ _⟩, ⟨Below.refl _ _⟩⟩
  case round =>
    clear y4 hgs
    obtain ⟨i, rfl, HI, HR, HB⟩ := hrel
    by_cases hlt : i < s.works.length
    · have d6 : decide ((i : Int) < (s.works.length : Int)) = true := decide_eq_true (by omega)
      have d7 : decide (i < s.works.length) = true := decide_eq_true hlt
      have j0 : (0 : Int) ≤ (i : Int) := by omega
      have j1 : (i : Int) < (s.works.length : Int) := by omega
      have hRr := (H.out.below HB.out).wks
      obtain ⟨gw, cw, ev, hgw1, hgw2, hgw3⟩ := Kd.R_form hRr (by rw [List.length_map]; omega)
      injection ev with e1 e2 e3
      subst e1
      obtain ⟨p, hp⟩ : ∃ p, p = s.works[i] := ⟨_, rfl⟩
      have hpi : s.works[i]? = some p := by rw [hp, List.getElem?_eq_getElem hlt]
      have hpm : p ∈ s.works := List.mem_of_getElem? hpi
      obtain ⟨q, hq⟩ : ∃ q, ad[p.file]? = some q := ⟨_, List.getElem?_eq_getElem (by rw [H.out.len]; exact (HFI.out.2.1 p hpm).1)⟩
      have em : mwOf ad p = (⟨p.kind, p.nm, p.tgt, p.len, q, p.b⟩ : MW) := mw_at hq _ _ _ _ _
      obtain ⟨B, cb, m0, m1, m2, m3, m4, m5, hBR⟩ := at_WR hRr i hlt (by rw [List.getElem?_map, hpi, Option.map_some, em])
      have HN := Aside0.mk (pend_next hpi)
      clear hRr hgw1 hgw3 hp hpi hpm hq em hBR e2 e3
      go_upto_region 5 with fail
      have HB1 := Aside0.mk (show Below wr.heap.size wr (wr.alloc (.cells #[.int .i64 p.kind, .string p.nm, .string p.tgt, .int .i64 p.len, ptrV q, .slice B p.b.length cb] 76)) from below_alloc (Below.refl _ _) _)
      have HW1 := Aside0.mk (blk_new wr (.cells #[.int .i64 p.kind, .string p.nm, .string p.tgt, .int .i64 p.len, ptrV q, .slice B p.b.length cb] 76))
      generalize wr.alloc (.cells #[.int .i64 p.kind, .string p.nm, .string p.tgt, .int .i64 p.len, ptrV q, .slice B p.b.length cb] 76) = w2 at *
      have HR2 := Aside0.mk (Kd.R_below HR.out HB1.out)
      have HB2 := Aside0.mk (HB.out.trans (HB1.out.mono HB.out.size))
      clear m0 m1 m2 m3 m4 m5 HR HB HB1
      generalize wr.heap.size = gx at *
      have k0 : w2.cell? ⟨gx, 0, none⟩ = some (.int .i64 p.kind) := (blk_cell HW1.out 0).trans rfl
      have k1 : w2.cell? ⟨gx, 1, none⟩ = some (.string p.nm) := (blk_cell HW1.out 1).trans rfl
      have k2 : w2.cell? ⟨gx, 2, none⟩ = some (.string p.tgt) := (blk_cell HW1.out 2).trans rfl
      have k3 : w2.cell? ⟨gx, 3, none⟩ = some (.int .i64 p.len) := (blk_cell HW1.out 3).trans rfl
      have hgx := blk_lt HW1.out
      obtain ⟨A4, c4, hu4⟩ := Kd.R_slice HR2.out
      generalize hln : ((s.works.take i).map pendOf).length = ln at hu4
      have HLN : Aside0 (ln ≤ 1073741824) := ⟨by rw [← hln, List.length_map, List.length_take]; have := HFI.out.2.2.1; have := HT.out; omega⟩
      have HLE := Aside0.mk hln
      subst hu4
      clear hln
      go_wp2_with (first | ((with_reducible refine gate_builtin (b := .append) (xs := #[.tmp 15, .tmp 18]) rfl ?_); at_builtin; refine Kd.R_append pendK (w0 := w) w.heap.size rfl (.tmp 15) (.tmp 18) 43 74 (.agg #[.int .i64 0, .string ⟨#[]⟩, .string ⟨#[]⟩, .int .i64 0]) 48 rfl Try.underlying43 info74 rfl (by decide) (by decide) (.slice A4 ln c4) ((s.works.take i).map pendOf) (pendOf p) [.int .i64 p.kind, .string p.nm, .string p.tgt, .int .i64 p.len] (fun _ => True) (fun _ => False) rfl rfl ?aP (fun _ hk => hk.elim) (fun _ _ => trivial) ?aO ?aB ?aS ?aL ?_; (case aP => exact pendK_mkM _ _ _ (pendOf p)); (case aO => exact HR2.out); (case aB => exact HB2.out); (case aS => exact HB2.out.size); (case aL => rw [HLE.out]; have := HLN.out; omega); intro v3 w3 ho hb hg hat; have HO3 := Aside0.mk ho; have HB3 := Aside0.mk hb; obtain ⟨A5, c5, hv5⟩ := Kd.R_slice HO3.out; generalize ((s.works.take i).map pendOf ++ [pendOf p]).length = l5 at hv5; clear ho hb hg hat k0 k1 k2 k3 hgx; subst hv5) | fail)
      go_roundg (gk - 1)
      case measure => have := HI.out; omega
      case rel => exact ⟨i + 1, next_i6 (by have := HFI.out.2.2.1; have := HT.out; omega), ⟨by have := HI.out; omega⟩, ⟨by rw [HN.out]; exact HO3.out⟩, HB3⟩
    · have d6 : decide ((i : Int) < (s.works.length : Int)) = false := decide_eq_false (by omega)
      have d7 : decide (i < s.works.length) = false := decide_eq_false hlt
      obtain rfl : i = s.works.length := by have := HI.out; omega
      rw [List.take_length] at HR
      obtain ⟨A4, c4, hu4⟩ := Kd.R_slice HR.out
      rw [List.length_map] at hu4
      subst hu4
      clear hlt
      go_wp2_with fail
      go_ret
      exact ⟨A4, c4, rfl, HR.out, HB.out⟩
end
end Go.Proofs.Ytnegcjgolaakcaa

/- Plain: what each call keeps. -/
namespace Go.Proofs.Ytnegcjgolaakcaa
set_option linter.unusedVariables false
set_option linter.unusedSimpArgs false
section
variable {s s' : DS} {T T' e : Nat}
theorem FI.mono (h : FI T s e) (ht : T ≤ T') : FI T' s e := ⟨h.nm, h.fs, h.okn, h.okf, Nat.le_trans h.lf ht, Nat.le_trans h.now ht, Nat.le_trans h.old ht⟩
theorem FI.less {e' : Nat} (h : FI T s e) (he : e' ≤ e) : FI T s e' := ⟨h.nm, h.fs, h.okn, h.okf, h.lf, h.now, by have := h.old; omega⟩
theorem FI.files (h : FI T s e) (hf : s'.files = s.files) : FI T s' e := by
  have e1 : s'.nmL = s.nmL := by unfold DS.nmL; rw [hf]
  have e2 : s'.fsL = s.fsL := by unfold DS.fsL; rw [hf]
  exact ⟨e1 ▸ h.nm, e2 ▸ h.fs, e1 ▸ h.okn, e2 ▸ h.okf, hf ▸ h.lf, by unfold nowN; rw [hf]; exact h.now, by unfold oldN; rw [hf]; exact h.old⟩
theorem Inv.mono (h : s.Inv T) (ht : T ≤ T') : s.Inv T' := by
  obtain ⟨h1, h2, h3, h4, h5, h6⟩ := Inv_FI.1 h
  exact Inv_FI.2 ⟨h1.mono ht, h2, Nat.le_trans h3 ht, h4, h5, h6⟩
/-- the head's numbers alone have turned -/
theorem Inv.head (h : s.Inv T) (hf : s'.files = s.files) (hw : s'.works = s.works) (hn : s'.names = s.names) (hr : s'.room = s.room) (hl : -1 ≤ s'.left ∧ s'.left ≤ 9223372036854775807) : s'.Inv T := by
  obtain ⟨h1, h2, h3, h4, h5, h6⟩ := Inv_FI.1 h
  exact Inv_FI.2 ⟨by rw [hw]; exact h1.files hf, by rw [hw, hf]; exact h2, by rw [hw]; exact h3, hl, by rw [hn]; exact h5, by rw [hr]; exact h6⟩
theorem Inv.tick (h : s.Inv T) : s.tick.Inv T := by
  unfold DS.tick
  split
  · exact Inv.head h rfl rfl rfl rfl (by have := h.left; show -1 ≤ s.left - 1 ∧ s.left - 1 ≤ _; omega)
  · exact h
theorem Inv.step (h : s.Inv T) (ht : T ≤ T') (ns : List ByteArray) (act : DS → Int × DS) (ha : ns.all namedV = true → (act s).2.Inv T') : (s.step ns act).2.Inv T' := by
  unfold DS.step
  split
  · rename_i hn
    split
    · exact Inv.mono h ht
    · split
      · exact Inv.tick (ha hn)
      · exact ha hn
  · exact Inv.mono h ht
theorem Inv.fuse (h : s.Inv T) (n : Int) (hn : n ≤ 9223372036854775807) : (s.fuse n).2.Inv T := by
  unfold DS.fuse
  split
  · exact h
  · split
    · exact h
    · exact Inv.head h rfl rfl rfl rfl (by show -1 ≤ n ∧ n ≤ _; omega)
theorem FI.setName (h : FI T s e) (i : Nat) {n : ByteArray} (hn : n = nameless ∨ (namedV n = true ∧ ∀ j : Nat, j ≠ i → s.nmL[j]? ≠ some n)) : FI T (s.setName i n) e := by
  refine ⟨?_, ?_, ?_, ?_, ?_, ?_, ?_⟩
  · rw [DS.setName_nm]; exact UL_set h.nm i n (hn.imp id (·.2))
  · rw [DS.setName_fs]; exact h.fs
  · rw [DS.setName_nm]
    intro x hx
    rcases mem_set hx with rfl | hx
    · exact hn.imp id (·.1)
    · exact h.okn x hx
  · rw [DS.setName_fs]; exact h.okf
  · rw [show (s.setName i n).files.length = s.files.length from List.length_modify _ _ _]; exact h.lf
  · have e1 : nowN (s.setName i n) = nowN s := by unfold nowN; rw [show (s.setName i n).files.map (fun f => f.now.length) = s.files.map (fun f => f.now.length) from map_modify_same s.files i (fun f => { f with name := n }) _ (fun _ => rfl)]
    rw [e1]; exact h.now
  · have e1 : oldN (s.setName i n) = oldN s := by unfold oldN; rw [show (s.setName i n).files.map (fun f => f.old.length) = s.files.map (fun f => f.old.length) from map_modify_same s.files i (fun f => { f with name := n }) _ (fun _ => rfl)]
    rw [e1]; exact h.old
theorem FI.give (h : FI T s e) (i : Nat) {n : ByteArray} (hn : namedV n = true) : FI T (s.give i n) e := by
  unfold DS.give
  have hF := freed h.nm (not_nameless hn)
  cases hf : s.find n with
  | none =>
    rw [DS.find_L] at hf
    exact h.setName i (.inr ⟨hn, fun j _ hj => idxL_none.1 hf (List.mem_of_getElem? hj)⟩)
  | some k =>
    have h1 := h.setName k (.inl (rfl : nameless = nameless))
    refine FI.setName h1 i (.inr ⟨hn, fun j _ hj => ?_⟩)
    rw [DS.find_L] at hf
    rw [hf] at hF
    rw [DS.setName_nm] at hj
    exact hF.2 j hj
theorem sum_push (l : List Nat) (x : Nat) : (l ++ [x]).sum = l.sum + x := by simp
theorem FI.born (h : FI T s e) {n : ByteArray} (hn : namedV n = true) (hf : s.find n = none) : FI (T + 1) { s with files := s.files ++ [⟨n, nameless, [], []⟩] } e := by
  have e1 : ({ s with files := s.files ++ [⟨n, nameless, [], []⟩] } : DS).nmL = s.nmL ++ [n] := by simp [DS.nmL]
  have e2 : ({ s with files := s.files ++ [⟨n, nameless, [], []⟩] } : DS).fsL = s.fsL ++ [nameless] := by simp [DS.fsL]
  have e3 : nowN ({ s with files := s.files ++ [⟨n, nameless, [], []⟩] } : DS) = nowN s := by simp [nowN]
  have e4 : oldN ({ s with files := s.files ++ [⟨n, nameless, [], []⟩] } : DS) = oldN s := by simp [oldN]
  rw [DS.find_L, idxL_none] at hf
  refine ⟨?_, ?_, ?_, ?_, ?_, ?_, ?_⟩
  · rw [e1]; exact UL_push h.nm n (.inr hf)
  · rw [e2]; exact UL_push h.fs nameless (.inl rfl)
  · rw [e1]
    intro x hx
    rcases List.mem_append.1 hx with hx | hx
    · exact h.okn x hx
    · rw [List.mem_singleton.1 hx]; exact .inr hn
  · rw [e2]
    intro x hx
    rcases List.mem_append.1 hx with hx | hx
    · exact h.okf x hx
    · exact .inl (List.mem_singleton.1 hx)
  · have := h.lf
    show (s.files ++ [_]).length ≤ T + 1
    simp
    omega
  · rw [e3]; have := h.now; omega
  · rw [e4]; have := h.old; omega
theorem FI.setNow (h : FI T s e) {i : Nat} {f : PF} (hi : s.files[i]? = some f) (b : List Int) {m : Nat} (hb : b.length ≤ f.now.length + m) : FI (T + m) (s.setNow i b) e := by
  have e1 : (s.setNow i b).nmL = s.nmL := map_modify_same s.files i (fun f => { f with now := b }) _ (fun _ => rfl)
  have e2 : (s.setNow i b).fsL = s.fsL := map_modify_same s.files i (fun f => { f with now := b }) _ (fun _ => rfl)
  have e3 : nowN (s.setNow i b) + f.now.length = nowN s + b.length := by
    unfold nowN
    rw [show (s.setNow i b).files.map (fun f => f.now.length) = (s.files.map (fun f => f.now.length)).set i b.length from map_modify_set s.files i (fun f => { f with now := b }) _ _ (fun _ => rfl)]
    exact sum_set (by rw [List.getElem?_map, hi]; rfl)
  have e4 : oldN (s.setNow i b) = oldN s := by unfold oldN; rw [show (s.setNow i b).files.map (fun f => f.old.length) = s.files.map (fun f => f.old.length) from map_modify_same s.files i (fun f => { f with now := b }) _ (fun _ => rfl)]
  refine ⟨by rw [e1]; exact h.nm, by rw [e2]; exact h.fs, by rw [e1]; exact h.okn, by rw [e2]; exact h.okf, ?_, ?_, ?_⟩
  · rw [show (s.setNow i b).files.length = s.files.length from List.length_modify _ _ _]
    have := h.lf
    omega
  · have := h.now; omega
  · rw [e4]; have := h.old; omega
/-- a work is added -/
theorem Inv.add {p : PW} (h1 : FI T s (wkN s.works + p.b.length)) (h2 : ∀ w ∈ s.works, WOk s.files.length w) (h3 : s.works.length + 1 ≤ T) (h4 : -1 ≤ s.left ∧ s.left ≤ 9223372036854775807) (h5 : 1 ≤ s.names ∧ s.names ≤ 64) (h6 : 0 ≤ s.room ∧ s.room ≤ 4194304) (hp : WOk s.files.length p) : (s.add p).Inv T := by
  refine Inv_FI.2 ⟨?_, ?_, ?_, h4, h5, h6⟩
  · have e1 : wkN (s.add p).works = wkN s.works + p.b.length := by show wkN (s.works ++ [p]) = _; rw [wkN_append]; simp [wkN]
    rw [e1]
    exact h1.files rfl
  · intro w hw
    rcases List.mem_append.1 (show w ∈ s.works ++ [p] from hw) with hw | hw
    · exact h2 w hw
    · rw [List.mem_singleton.1 hw]; exact hp
  · show (s.works ++ [p]).length ≤ T
    simpa using h3
theorem spot_find {n : ByteArray} {i : Nat} (hf : s.find n = some i) : ∃ f, s.files[i]? = some f ∧ f.name = n ∧ i < s.files.length := by
  have hi := hf
  rw [DS.find_L] at hi
  have h1 := idxL_some hi
  unfold DS.nmL at h1
  rw [List.getElem?_map] at h1
  obtain ⟨f, hfi, hn⟩ := Option.map_eq_some_iff.1 h1
  exact ⟨f, hfi, hn, (List.getElem?_eq_some_iff.1 hfi).1⟩
theorem WOk.mono {n m : Nat} {p : PW} (h : WOk n p) (hm : n ≤ m) : WOk m p := ⟨Nat.lt_of_lt_of_le h.1 hm, h.2⟩
theorem Inv.put (h : s.Inv T) (kind : Int) {n : ByteArray} (b : List Int) (hn : namedV n = true) (hk : kind = 1 ∨ kind = 2) : (s.put kind n b).2.Inv (T + 2 + b.length) := by
  obtain ⟨h1, h2, h3, h4, h5, h6⟩ := Inv_FI.1 h
  unfold DS.put
  split
  · exact Inv.mono h (by omega)
  cases hf : s.find n with
  | none =>
    have e1 : s.fresh n = { s with files := s.files ++ [⟨n, nameless, [], []⟩], works := s.works ++ [⟨3, nameless, n, 0, s.files.length, []⟩] } := by unfold DS.fresh; rw [hf]
    have e2 : s.spot n = s.files.length := by unfold DS.spot; rw [hf]; rfl
    have e3 : (s.fresh n).nowAt s.files.length = [] := by rw [e1]; unfold DS.nowAt; simp
    rw [e2, e3, e1]
    have hx : (if kind = 1 then ([] : List Int) else []) ++ b = b := by split <;> rfl
    rw [hx]
    have hb := h1.born hn hf
    have hb2 : FI (T + 1) ({ s with files := s.files ++ [⟨n, nameless, [], []⟩], works := s.works ++ [⟨3, nameless, n, 0, s.files.length, []⟩] } : DS) (wkN s.works) := hb.files rfl
    have hb3 := hb2.setNow (i := s.files.length) (f := ⟨n, nameless, [], []⟩) (by simp) b (m := b.length) (by simp)
    have hw : wkN (s.works ++ [(⟨3, nameless, n, 0, s.files.length, []⟩ : PW)]) = wkN s.works := by rw [wkN_append]; simp [wkN]
    have hlen : (DS.setNow ({ s with files := s.files ++ [⟨n, nameless, [], []⟩], works := s.works ++ [⟨3, nameless, n, 0, s.files.length, []⟩] } : DS) s.files.length b).files.length = s.files.length + 1 := by
      refine (List.length_modify _ _ _).trans ?_
      simp
    refine Inv.add ?_ ?_ ?_ h4 h5 h6 ?_
    · refine ⟨hb3.nm, hb3.fs, hb3.okn, hb3.okf, ?_, ?_, ?_⟩
      · have := hb3.lf; omega
      · have := hb3.now; omega
      · have h9 := hb3.old
        show _ + (wkN (s.works ++ [(⟨3, nameless, n, 0, s.files.length, []⟩ : PW)]) + b.length) ≤ _
        rw [hw]
        have h10 := h1.old
        have h11 : oldN (DS.setNow ({ s with files := s.files ++ [⟨n, nameless, [], []⟩], works := s.works ++ [⟨3, nameless, n, 0, s.files.length, []⟩] } : DS) s.files.length b) = oldN s := by
          unfold oldN
          rw [show (DS.setNow ({ s with files := s.files ++ [⟨n, nameless, [], []⟩], works := s.works ++ [⟨3, nameless, n, 0, s.files.length, []⟩] } : DS) s.files.length b).files.map (fun f => f.old.length) = (s.files ++ [(⟨n, nameless, [], []⟩ : PF)]).map (fun f => f.old.length) from map_modify_same (s.files ++ [(⟨n, nameless, [], []⟩ : PF)]) s.files.length (fun f => { f with now := b }) _ (fun _ => rfl)]
          simp
        rw [h11]
        omega
    · rw [hlen]
      intro w hw
      rcases List.mem_append.1 (show w ∈ s.works ++ [_] from hw) with hw | hw
      · exact (h2 w hw).mono (by omega)
      · rw [List.mem_singleton.1 hw]; exact ⟨Nat.lt_succ_self _, .inr (.inr (.inl ⟨rfl, hn⟩))⟩
    · show (s.works ++ [_]).length + 1 ≤ _
      simp
      omega
    · rw [hlen]
      exact ⟨Nat.lt_succ_self _, hk.elim .inl (fun h => .inr (.inl h))⟩
  | some i =>
    obtain ⟨f, hfi, _, hil⟩ := spot_find hf
    have e1 : s.fresh n = s := by unfold DS.fresh; rw [hf]
    have e2 : s.spot n = i := by unfold DS.spot; rw [hf]; rfl
    have e3 : s.nowAt i = f.now := by unfold DS.nowAt; rw [hfi]; rfl
    rw [e2, e1, e3]
    have hb3 := h1.setNow hfi ((if kind = 1 then [] else f.now) ++ b) (m := b.length) (by rw [List.length_append]; split <;> simp)
    have hlen : (s.setNow i ((if kind = 1 then [] else f.now) ++ b)).files.length = s.files.length := List.length_modify _ _ _
    have h11 : oldN (s.setNow i ((if kind = 1 then [] else f.now) ++ b)) = oldN s := by
      unfold oldN
      rw [show (s.setNow i ((if kind = 1 then [] else f.now) ++ b)).files.map (fun f => f.old.length) = s.files.map (fun f => f.old.length) from map_modify_same s.files i (fun g => { g with now := (if kind = 1 then [] else f.now) ++ b }) _ (fun _ => rfl)]
    refine Inv.add ?_ ?_ ?_ h4 h5 h6 ?_
    · refine ⟨hb3.nm, hb3.fs, hb3.okn, hb3.okf, ?_, ?_, ?_⟩
      · have := hb3.lf; omega
      · have := hb3.now; omega
      · rw [h11]
        have := h1.old
        show _ + (wkN s.works + b.length) ≤ _
        omega
    · rw [hlen]; exact h2
    · show s.works.length + 1 ≤ _
      omega
    · rw [hlen]; exact ⟨hil, hk.elim .inl (fun h => .inr (.inl h))⟩
theorem Inv.rename (h : s.Inv T) {a b : ByteArray} (ha : namedV a = true) (hb : namedV b = true) : (s.rename a b).2.Inv (T + 1) := by
  obtain ⟨h1, h2, h3, h4, h5, h6⟩ := Inv_FI.1 h
  unfold DS.rename
  cases hf : s.find a with
  | none => exact Inv.mono h (by omega)
  | some i =>
    obtain ⟨f, hfi, _, hil⟩ := spot_find hf
    dsimp only
    split
    · exact Inv.mono h (by omega)
    have hh := DS.give_head s i b
    have hlen : (s.give i b).files.length = s.files.length := by
      have := congrArg List.length (DS.give_rest s i b)
      simpa using this
    have hg := (h1.give i hb).mono (show T ≤ T + 1 by omega)
    have hw : (s.give i b).works = s.works := by rw [hh]
    show DS.Inv (T + 1) ((s.give i b).add ⟨3, a, b, 0, i, []⟩)
    refine Inv.add ?_ ?_ ?_ ?_ ?_ ?_ ?_
    · rw [hw]; exact hg
    · rw [hw, hlen]; exact h2
    · rw [hw]; omega
    · rw [hh]; exact h4
    · rw [hh]; exact h5
    · rw [hh]; exact h6
    · rw [hlen]; exact ⟨hil, .inr (.inr (.inl ⟨rfl, hb⟩))⟩
theorem Inv.remove (h : s.Inv T) {a : ByteArray} (ha : namedV a = true) : (s.remove a).2.Inv (T + 1) := by
  obtain ⟨h1, h2, h3, h4, h5, h6⟩ := Inv_FI.1 h
  unfold DS.remove
  cases hf : s.find a with
  | none => exact Inv.mono h (by omega)
  | some i =>
    obtain ⟨f, hfi, _, hil⟩ := spot_find hf
    have hlen : (s.setName i nameless).files.length = s.files.length := List.length_modify _ _ _
    have hg := (h1.setName i (.inl rfl : nameless = nameless ∨ _)).mono (show T ≤ T + 1 by omega)
    refine Inv.add hg ?_ ?_ h4 h5 h6 ?_
    · rw [hlen]; exact h2
    · show s.works.length + 1 ≤ _; omega
    · rw [hlen]; exact ⟨hil, .inr (.inr (.inr ⟨rfl, ha⟩))⟩
theorem FI.fold {n : Nat} : ∀ (ws : List PW) {s : DS} {e : Nat}, FI T s (wkN ws + e) → s.files.length = n → (∀ w ∈ ws, WOk n w) → FI T (ws.foldl (fun s w => s.work w w.b.length) s) e
  | [], s, e, h, _, _ => by simpa [wkN] using h
  | p :: ws, s, e, h, hn, hw => by
    have h1 : FI T s (p.b.length + (wkN ws + e)) := by rw [wkN_cons] at h; rwa [Nat.add_assoc] at h
    exact FI.fold ws (h1.work (by rw [hn]; exact hw p List.mem_cons_self) p.b.length) ((work_len p _).trans hn) (fun w hm => hw w (List.mem_cons_of_mem _ hm))
theorem wk_split (is : PW → Bool) (ws : List PW) : wkN (ws.filter is) + wkN (ws.filter (fun w => !is w)) = wkN ws := by
  induction ws with
  | nil => rfl
  | cons p ws ih =>
    rw [List.filter_cons, List.filter_cons, wkN_cons]
    cases is p <;> simp [wkN_cons] <;> omega
theorem Inv.settle (h : s.Inv T) (is : PW → Bool) : (s.settle is).Inv T := by
  obtain ⟨h1, h2, h3, h4, h5, h6⟩ := Inv_FI.1 h
  have hh := fold_head (s.works.filter is) s
  have hl := (fold_works (s.works.filter is) s).2
  refine Inv_FI.2 ⟨?_, ?_, ?_, ?_, ?_, ?_⟩
  · have hx : FI T s (wkN (s.works.filter is) + wkN (s.works.filter (fun w => !is w))) := by rw [wk_split]; exact h1
    exact (FI.fold (s.works.filter is) hx rfl (fun w hw => h2 w (List.mem_filter.1 hw).1)).files rfl
  · intro w hw
    show WOk (List.foldl _ s (s.works.filter is)).files.length w
    rw [hl]
    exact h2 w (List.mem_filter.1 (show w ∈ s.works.filter (fun w => !is w) from hw)).1
  · exact Nat.le_trans (List.length_filter_le _ _) h3
  · rw [settle_left]; exact h4
  · rw [show (s.settle is).names = s.names from hh.2.2.1]; exact h5
  · rw [show (s.settle is).room = s.room from hh.2.2.2]; exact h6
theorem Inv.flush (h : s.Inv T) (n : ByteArray) : (s.flush n).2.Inv T := by
  unfold DS.flush
  split
  · exact Inv.settle h _
  · exact h
theorem FI.rep {n : Nat} : ∀ (l : List (PW × Int)) {s : DS} {e : Nat}, FI T s ((l.map (fun p => p.1.b.length)).sum + e) → s.files.length = n → (∀ p ∈ l, WOk n p.1) → FI T (l.foldl repF s) e
  | [], s, e, h, _, _ => by simpa using h
  | p :: l, s, e, h, hn, hw => by
    have h1 : FI T s (p.1.b.length + ((l.map (fun p => p.1.b.length)).sum + e)) := by rw [List.map_cons, List.sum_cons] at h; rwa [Nat.add_assoc] at h
    have h2 : FI T (repF s p) ((l.map (fun p => p.1.b.length)).sum + e) := by
      unfold repF
      split
      · exact h1.work (by rw [hn]; exact hw p List.mem_cons_self) _
      · exact h1.less (by omega)
    have h3 : (repF s p).files.length = s.files.length := by
      unfold repF
      split
      · exact work_len _ _
      · rfl
    exact FI.rep l h2 (h3.trans hn) (fun w hm => hw w (List.mem_cons_of_mem _ hm))
theorem zip_sum (ws : List PW) : ∀ (k : List Int), ((ws.zip k).map (fun p => p.1.b.length)).sum ≤ wkN ws := by
  induction ws with
  | nil => intro k; simp [wkN]
  | cons p ws ih =>
    intro k
    cases k with
    | nil => simp
    | cons x k =>
      have := ih k
      rw [List.zip_cons_cons, List.map_cons, List.sum_cons, wkN_cons]
      dsimp only
      omega
theorem sum_filter (p : PF → Bool) (g : PF → Nat) (l : List PF) : ((l.filter p).map g).sum ≤ (l.map g).sum := by
  induction l with
  | nil => simp
  | cons f l ih =>
    rw [List.filter_cons]
    split
    · simp only [List.map_cons, List.sum_cons]; omega
    · simp only [List.map_cons, List.sum_cons]; omega
theorem Inv.crash (h : s.Inv T) (keep : List Int) : (s.crash keep).Inv T := by
  obtain ⟨h1, h2, h3, h4, h5, h6⟩ := Inv_FI.1 h
  have hr : FI T (s.replay keep) 0 := FI.rep (s.works.zip keep) (h1.less (zip_sum _ _)) rfl (fun p hp => h2 p.1 (List.of_mem_zip (show (p.1, p.2) ∈ _ from hp)).1)
  refine Inv_FI.2 ⟨⟨?_, ?_, ?_, ?_, ?_, ?_, ?_⟩, (fun w hw => by cases hw), Nat.zero_le _, ⟨Int.le_refl _, by show (-1 : Int) ≤ _; decide⟩, h5, h6⟩
  · have e : (s.crash keep).nmL = ((s.replay keep).files.filter (fun f => f.fast ≠ nameless)).map PF.fast := by unfold DS.nmL DS.crash; rw [List.map_map]; rfl
    rw [e]
    have := hr.fs
    unfold UL DS.fsL at this
    unfold UL
    rw [List.pairwise_map] at this ⊢
    exact this.filter _
  · have e : (s.crash keep).fsL = ((s.replay keep).files.filter (fun f => f.fast ≠ nameless)).map PF.fast := by unfold DS.fsL DS.crash; rw [List.map_map]; rfl
    rw [e]
    have := hr.fs
    unfold UL DS.fsL at this
    unfold UL
    rw [List.pairwise_map] at this ⊢
    exact this.filter _
  · intro x hx
    obtain ⟨f, hf, rfl⟩ := List.mem_map.1 hx
    obtain ⟨f', hf', rfl⟩ := List.mem_map.1 (show f ∈ ((s.replay keep).files.filter (fun f => f.fast ≠ nameless)).map (fun f => { f with name := f.fast, now := f.old }) from hf)
    exact hr.okf f'.fast (List.mem_map_of_mem (f := PF.fast) (List.mem_filter.1 hf').1)
  · intro x hx
    obtain ⟨f, hf, rfl⟩ := List.mem_map.1 hx
    obtain ⟨f', hf', rfl⟩ := List.mem_map.1 (show f ∈ ((s.replay keep).files.filter (fun f => f.fast ≠ nameless)).map (fun f => { f with name := f.fast, now := f.old }) from hf)
    exact hr.okf f'.fast (List.mem_map_of_mem (f := PF.fast) (List.mem_filter.1 hf').1)
  · show (((s.replay keep).files.filter (fun f => f.fast ≠ nameless)).map (fun f => ({ f with name := f.fast, now := f.old } : PF))).length ≤ T
    rw [List.length_map]
    exact Nat.le_trans (List.length_filter_le _ _) hr.lf
  · have e : nowN (s.crash keep) = (((s.replay keep).files.filter (fun f => f.fast ≠ nameless)).map (fun f => f.old.length)).sum := by unfold nowN DS.crash; rw [List.map_map]; rfl
    rw [e]
    have h7 := sum_filter (fun f => f.fast ≠ nameless) (fun f => f.old.length) (s.replay keep).files
    have h8 := hr.old
    unfold oldN at h8
    omega
  · have e : oldN (s.crash keep) = (((s.replay keep).files.filter (fun f => f.fast ≠ nameless)).map (fun f => f.old.length)).sum := by unfold oldN DS.crash; rw [List.map_map]; rfl
    rw [e]
    have h7 := sum_filter (fun f => f.fast ≠ nameless) (fun f => f.old.length) (s.replay keep).files
    have h8 := hr.old
    unfold oldN at h8
    show _ + wkN [] ≤ T
    simp only [wkN, List.map_nil, List.sum_nil]
    omega
theorem Inv.new {files bytes : Int} (hg : goodNew files bytes = true) : (DS.new files bytes).Inv 0 := by
  simp only [goodNew, Bool.and_eq_true, decide_eq_true_eq] at hg
  refine ⟨List.Pairwise.nil, List.Pairwise.nil, (fun w hw => by cases hw), (fun w hw => by cases hw), (fun f hf => by cases hf), (fun f hf => by cases hf), Nat.le_refl _, Nat.le_refl _, Nat.le_refl _, Nat.le_refl _, ⟨(by show (-1 : Int) ≤ -1; decide), by show (-1 : Int) ≤ _; decide⟩, ?_, ?_⟩
  · show 1 ≤ files ∧ files ≤ 64; omega
  · show 0 ≤ bytes ∧ bytes ≤ 4194304; omega
theorem Inv.Write (h : s.Inv T) (n : ByteArray) (b : List Int) : (s.Write n b).2.Inv (T + 2 + b.length) := Inv.step h (by omega) _ _ (fun ha => Inv.put h 1 b (by simpa using ha) (.inl rfl))
theorem Inv.Append (h : s.Inv T) (n : ByteArray) (b : List Int) : (s.Append n b).2.Inv (T + 2 + b.length) := Inv.step h (by omega) _ _ (fun ha => Inv.put h 2 b (by simpa using ha) (.inr rfl))
theorem Inv.Flush (h : s.Inv T) (n : ByteArray) : (s.Flush n).2.Inv T := Inv.step h (Nat.le_refl _) _ _ (fun _ => Inv.flush h n)
theorem Inv.Rename (h : s.Inv T) (a b : ByteArray) : (s.Rename a b).2.Inv (T + 1) := Inv.step h (by omega) _ _ (fun ha => by
  have hx : namedV a = true ∧ namedV b = true := by simpa using ha
  exact Inv.rename h hx.1 hx.2)
theorem Inv.Remove (h : s.Inv T) (n : ByteArray) : (s.Remove n).2.Inv (T + 1) := Inv.step h (by omega) _ _ (fun ha => Inv.remove h (by simpa using ha))
theorem Inv.Sync (h : s.Inv T) : s.Sync.2.Inv T := Inv.step h (Nat.le_refl _) _ _ (fun _ => Inv.settle h _)
end
end Go.Proofs.Ytnegcjgolaakcaa

/- What a law needs: its own blocks, bytes that it wrote itself, a file's bytes as a string; pupillaw24.alive, plainly. -/
namespace Go.Proofs.Ytnegcjgolaakcaa
open Go.RowKit Go.Maps
open Go.Proofs.YtnegcjgolaakcaaW.PrintWords Go.Proofs.YtnegcjgolaakcaaW.PrintLast Go.Proofs.YtnegcjgolaakcaaW.PrintMore
set_option linter.unusedVariables false
set_option linter.unusedSimpArgs false
section
variable {w w' : World} {g : Nat} {s s' : DS} {base : Nat} {ok : Nat → Prop} {nb fb : Nat} {v v1 : Value} {ad ad' : List Nat} {T : Nat}
/-- the blocks that have come since are the law's own -/
def Mine (B lo hi : Nat) (k : Nat) : Prop := B ≤ k ∧ (k < lo ∨ hi ≤ k)
theorem DiskAt.mine (h : DiskAt w g s base ok nb fb v ad) (hb : Below w.heap.size w w') (B : Nat) (hB : B ≤ base) : DiskAt w' g s base (Mine B w.heap.size w'.heap.size) nb fb v ad :=
  (h.bound.below hb).mono (fun k hk => ⟨Nat.le_trans hB hk.2.1, .inl hk.2.2⟩)
theorem mine_fresh {B lo hi : Nat} (h : B ≤ hi) (k : Nat) (hk : hi ≤ k) : Mine B lo hi k := ⟨Nat.le_trans h hk, .inr hk⟩
theorem cell_blk {w w' : World} {a : Addr} (h : w'.heap[a.block]? = w.heap[a.block]?) : w'.cell? a = w.cell? a := by
  unfold World.cell?
  rw [h]
theorem add_block (a : Addr) (k : Nat) : (a.add k).block = a.block := by unfold Addr.add; split <;> rfl
/-- integers in the law's own block -/
theorem C_fr {k : IntKind} {A : Option Addr} {n : Nat} {xs : List Int} (h : (Kd.int k).C w A n xs) (hA : ∀ a, A = some a → ¬ ok a.block) (hf : Fr ok w w') : (Kd.int k).C w' A n xs := by
  obtain ⟨h1, h2, h3⟩ := h
  refine ⟨h1, h2, fun hp => ?_⟩
  obtain ⟨a, e, h4⟩ := h3 hp
  refine ⟨a, e, fun j p hj => ?_⟩
  obtain ⟨cs, hl, hK, hc⟩ := h4 j p hj
  refine ⟨cs, hl, hK, fun i u hu => ?_⟩
  have hq := hc i u hu
  have hlt := World.block_lt_of_cell? w _ hq
  rw [add_block] at hlt
  rw [cell_blk (w := w)]
  · exact hq
  · rw [add_block]
    exact hf.block _ hlt (hA a e)
/-- integers in a block -/
theorem ints_C {k : IntKind} {b : Nat} {l : List Int} {t : Nat} {fr : Nat × Nat} (h : w.heap[b]? = some (.cells (l.map (Value.int k)).toArray t fr)) (hl : l.length ≤ 1000000) : (Kd.int k).C w (some ⟨b, 0, none⟩) l.length l := by
  refine ⟨rfl, by omega, fun _ => ⟨_, rfl, fun j p hj => ?_⟩⟩
  refine ⟨[.int k p], rfl, rfl, fun i u hu => ?_⟩
  have hi : i = 0 ∧ u = .int k p := by
    cases i with
    | zero => exact ⟨rfl, by simpa using hu.symm⟩
    | succ i => simp at hu
  obtain ⟨rfl, rfl⟩ := hi
  show w.cell? ((⟨b, 0, none⟩ : Addr).add (j * 1 + 0)) = _
  rw [Nat.mul_one, Nat.add_zero, add0]
  rw [cell_of_row w b j _ t fr h]
  simp [hj]
/-- bytes as a string -/
theorem bytes_str {A : Option Addr} {n c : Nat} {l : List Int} (h : bK.R 5 w base ok (.slice A n c) l) : (convert 30 9 (.slice A n c)).run Try.prog w = .ok (.string (strOfNums l)) w := by
  obtain ⟨hn, _, hC⟩ := Kd.R_reads' h
  cases A with
  | none =>
    have hl : l = [] := by
      rcases l with _ | ⟨x, l⟩
      · rfl
      · obtain ⟨_, h, _⟩ := hC.2.2 (by simp)
        cases h
    subst hl
    have := run_convert_bytes_nil (P := Try.prog) w 30 5 Try.underlying30 Try.underlying5 n c 9 Try.underlying9
    rw [this]
    rfl
  | some a =>
    have hcell : (loadCells a n).run Try.prog w = .ok (l.map (Value.int .u8)).toArray w := by
      have := run_loadCells_list (P := Try.prog) w a (l.map (Value.int .u8)) (fun j v hj => by
        rw [List.getElem?_map] at hj
        obtain ⟨x, hx, rfl⟩ := Option.map_eq_some_iff.1 hj
        obtain ⟨a', cs, e, _, hK, hc0⟩ := Kd.C_get hC x (j : Int) (by omega) (by have := (List.getElem?_eq_some_iff.1 hx).1; omega)
        cases e
        have hc : ∀ i u, cs[i]? = some u → w.cell? (a.add (j * 1 + i)) = some u := hc0
        have hK' : cs = [.int .u8 (l.getD j x)] := hK
        subst hK'
        have hq := hc 0 _ rfl
        rw [Nat.mul_one, Nat.add_zero] at hq
        rw [hq, List.getD_eq_getElem?_getD, hx]
        rfl)
      rw [List.length_map, ← hn] at this
      exact this
    rw [run_convert_bytes_string w 30 9 5 _ n c Try.underlying30 Try.underlying5 Try.underlying9, run_bytesToString w _ n c l hcell, foldl_push_bytes]
    simp [strOfNums, ByteArray.empty, ByteArray.emptyWithCapacity]
    rfl
end
abbrev nA : ByteArray := ⟨#[97]⟩
def S1 : DS := { files := [⟨nA, nameless, [120, 121, 122], []⟩], works := [⟨3, nameless, nA, 0, 0, []⟩, ⟨1, nA, nameless, 3, 0, [120, 121, 122]⟩], names := 2, room := 10, off := false, left := -1 }
theorem S1_eq : (DS.new 2 10).Write nA [120, 121, 122] = (0, S1) := by rfl
def S2 : DS := { files := [⟨nA, nameless, [120, 121, 122], [120, 121, 122]⟩], works := [⟨3, nameless, nA, 0, 0, []⟩], names := 2, room := 10, off := false, left := -1 }
theorem S2_eq : S1.Flush nA = (0, S2) := by rfl
def S3 : DS := { files := [⟨nA, nA, [120, 121, 122], [120, 121, 122]⟩], works := [], names := 2, room := 10, off := false, left := -1 }
theorem S3_eq : S2.Sync = (0, S3) := by rfl
theorem S4_eq : S3.crash [] = S3 := by rfl
theorem S5_eq : S3.read nA = ([120, 121, 122], 0) := by rfl
end Go.Proofs.Ytnegcjgolaakcaa

/- The disk's calls, as a law without memory of its own uses them. -/
namespace Go.Proofs.Ytnegcjgolaakcaa
open Go.RowKit Go.Maps
open Go.Proofs.YtnegcjgolaakcaaW.PrintWords Go.Proofs.YtnegcjgolaakcaaW.PrintLast Go.Proofs.YtnegcjgolaakcaaW.PrintMore
set_option linter.unusedVariables false
set_option linter.unusedSimpArgs false
/-- a disk, all of whose blocks have come since B -/
def Lw (B T : Nat) (w : World) (g : Nat) (s : DS) : Prop := (∃ base ok nb fb v ad, B ≤ base ∧ DiskAt w g s base ok nb fb v ad) ∧ s.Inv T ∧ T ≤ 1073741824
section
variable {w w1 w' : World} {g B T T' : Nat} {s s' : DS}
theorem Lw.below (h : Lw B T w g s) (hb : Below w.heap.size w w') : Lw B T w' g s := by
  obtain ⟨⟨base, ok, nb, fb, v, ad, h1, h2⟩, h3⟩ := h
  exact ⟨⟨base, ok, nb, fb, v, ad, h1, h2.below hb⟩, h3⟩
theorem Lw.size (h : Lw B T w g s) : B ≤ w.heap.size := by
  obtain ⟨⟨base, ok, nb, fb, v, ad, h1, h2⟩, h3⟩ := h
  have := h2.okg.2
  have := blk_lt h2.blk
  omega
theorem Lw.more (h : Lw B T w g s) (ht : T ≤ T') (h2 : T' ≤ 1073741824) : Lw B T' w g s := ⟨h.1, Inv.mono h.2.1 ht, h2⟩
/-- what a call leaves -/
def LwPost (B T lo : Nat) (w1 : World) (g : Nat) (r : Int × DS) (e : Ending) (w2 : World) : Prop := e = .returned (.int .i64 r.1) ∧ Lw B T w2 g r.2 ∧ Fr (Mine B lo w1.heap.size) w1 w2
theorem lw_new (files bytes : Int) (w : World) (hg : goodNew files bytes = true) :
    Calls Try.prog 11 #[.int .i64 files, .int .i64 bytes] w fun e w' => ∃ g, e = .returned (.tuple #[ptrV g, .int .i64 0]) ∧ Lw w.heap.size 0 w' g (DS.new files bytes) ∧ Below w.heap.size w w' := by
  refine (new_calls files bytes w hg).mono ?_
  rintro e w1 ⟨g, nb, fb, rfl, hd, hb⟩
  exact ⟨g, rfl, ⟨⟨_, _, _, _, _, _, Nat.le_refl _, hd⟩, Inv.new hg, by decide⟩, hb⟩
theorem lw_put {f : FuncId} {act : Int × DS} (k : Nat) (args : Array Value) (h : Lw B T w g s) (hb : Below w.heap.size w w1) (hT : T' ≤ 1073741824) (hi : act.2.Inv T')
    (hc : ∀ base nb fb v ad, DiskAt w1 g s base (Mine B w.heap.size w1.heap.size) nb fb v ad → (∀ k, w1.heap.size ≤ k → Mine B w.heap.size w1.heap.size k) → Calls Try.prog f args w1 (DiskPost w1 g base (Mine B w.heap.size w1.heap.size) nb fb act)) :
    Calls Try.prog f args w1 (LwPost B T' w.heap.size w1 g act) := by
  have hs := h.size
  obtain ⟨⟨base, ok, nb, fb, v, ad, h1, h2⟩, h3⟩ := h
  refine (hc base nb fb v ad (h2.mine hb B h1) (mine_fresh (Nat.le_trans hs hb.size))).mono ?_
  rintro e w2 ⟨rfl, ⟨v', ad', hd⟩, hf⟩
  exact ⟨rfl, ⟨⟨base, _, nb, fb, v', ad', h1, hd⟩, hi, hT⟩, hf⟩
theorem lw_write (n : ByteArray) (b : List Int) (A : Option Addr) (c : Nat) (h : Lw B T w g s) (hb : Below w.heap.size w w1) (hT : T + 2 + b.length ≤ 1073741824) (hs : n.size ≤ maxLen) (hc : b.length ≤ c) (hC : bK.C w1 A b.length b) (hA : ∀ a, A = some a → ¬ Mine B w.heap.size w1.heap.size a.block) :
    Calls Try.prog 12 #[ptrV g, .string n, .slice A b.length c] w1 (LwPost B (T + 2 + b.length) w.heap.size w1 g (s.Write n b)) :=
  lw_put 0 _ h hb hT (Inv.Write h.2.1 n b) (fun base nb fb v ad hd hfr => write_calls n b A c hd h.2.1 h.2.2 hfr hs (by omega) hc (fun W' hW => C_fr hC hA hW))
theorem lw_append (n : ByteArray) (b : List Int) (A : Option Addr) (c : Nat) (h : Lw B T w g s) (hb : Below w.heap.size w w1) (hT : T + 2 + b.length ≤ 1073741824) (hs : n.size ≤ maxLen) (hc : b.length ≤ c) (hC : bK.C w1 A b.length b) (hA : ∀ a, A = some a → ¬ Mine B w.heap.size w1.heap.size a.block) :
    Calls Try.prog 17 #[ptrV g, .string n, .slice A b.length c] w1 (LwPost B (T + 2 + b.length) w.heap.size w1 g (s.Append n b)) :=
  lw_put 0 _ h hb hT (Inv.Append h.2.1 n b) (fun base nb fb v ad hd hfr => append_calls n b A c hd h.2.1 h.2.2 hfr hs (by omega) hc (fun W' hW => C_fr hC hA hW))
theorem lw_flush (n : ByteArray) (h : Lw B T w g s) (hs : n.size ≤ maxLen) : Calls Try.prog 18 #[ptrV g, .string n] w (LwPost B T w.heap.size w g (s.Flush n)) :=
  lw_put 0 _ h (Below.refl _ _) h.2.2 (Inv.Flush h.2.1 n) (fun base nb fb v ad hd hfr => flush_calls n hd h.2.1 h.2.2 hfr hs)
theorem lw_rename (a b : ByteArray) (h : Lw B T w g s) (hT : T + 1 ≤ 1073741824) (ha : a.size ≤ maxLen) (hb : b.size ≤ maxLen) : Calls Try.prog 13 #[ptrV g, .string a, .string b] w (LwPost B (T + 1) w.heap.size w g (s.Rename a b)) :=
  lw_put 0 _ h (Below.refl _ _) hT (Inv.Rename h.2.1 a b) (fun base nb fb v ad hd hfr => rename_calls a b hd h.2.1 h.2.2 hfr ha hb)
theorem lw_remove (n : ByteArray) (h : Lw B T w g s) (hT : T + 1 ≤ 1073741824) (hs : n.size ≤ maxLen) : Calls Try.prog 14 #[ptrV g, .string n] w (LwPost B (T + 1) w.heap.size w g (s.Remove n)) :=
  lw_put 0 _ h (Below.refl _ _) hT (Inv.Remove h.2.1 n) (fun base nb fb v ad hd hfr => remove_calls n hd h.2.1 h.2.2 hfr hs)
theorem lw_sync (h : Lw B T w g s) : Calls Try.prog 20 #[ptrV g] w (LwPost B T w.heap.size w g s.Sync) :=
  lw_put 0 _ h (Below.refl _ _) h.2.2 (Inv.Sync h.2.1) (fun base nb fb v ad hd hfr => sync_calls hd h.2.1 h.2.2 hfr)
theorem lw_fuse (n : Int) (h : Lw B T w g s) (hn : n ≤ 9223372036854775807) : Calls Try.prog 19 #[ptrV g, .int .i64 n] w (LwPost B T w.heap.size w g (s.fuse n)) := by
  have hs := h.size
  obtain ⟨⟨base, ok, nb, fb, v, ad, h1, h2⟩, h3, h4⟩ := h
  have hd := h2.mine (Below.refl w.heap.size w) B h1
  refine (fuse_calls hd n).mono ?_
  rintro e w2 ⟨rfl, hd2, hf⟩
  exact ⟨rfl, ⟨⟨base, _, nb, fb, v, ad, h1, hd2⟩, Inv.fuse h3 n hn, h4⟩, hf.mono (fun k hk => by subst hk; exact hd.okg.1)⟩
theorem lw_on (h : Lw B T w g s) : Calls Try.prog 21 #[ptrV g] w fun e w' => e = .returned (.bool (!s.off)) ∧ w' = w := by
  obtain ⟨⟨base, ok, nb, fb, v, ad, h1, h2⟩, h3, h4⟩ := h
  exact on_calls' h2
theorem lw_crash (keep : List Int) (K : Option Addr) (kc : Nat) (h : Lw B T w g s) (hb : Below w.heap.size w w1) (hk : ∀ x ∈ keep, x ≤ 9223372036854775807) (hC : (Kd.int .i64).C w1 K keep.length keep) (hA : ∀ a, K = some a → ¬ Mine B w.heap.size w1.heap.size a.block) :
    Calls Try.prog 22 #[ptrV g, .slice K keep.length kc] w1 fun e w2 => e = .returned (.tuple #[]) ∧ Lw B T w2 g (s.crash keep) ∧ Fr (Mine B w.heap.size w1.heap.size) w1 w2 := by
  have hs := h.size
  obtain ⟨⟨base, ok, nb, fb, v, ad, h1, h2⟩, h3, h4⟩ := h
  refine (crash_calls keep K kc (h2.mine hb B h1) h3 h4 (mine_fresh (Nat.le_trans hs hb.size)) hk (fun W' hW => C_fr hC hA hW)).mono ?_
  rintro e w2 ⟨rfl, ⟨nb', v', ad', hd⟩, hf⟩
  exact ⟨rfl, ⟨⟨base, _, nb', fb, v', ad', h1, hd⟩, Inv.crash h3 keep, h4⟩, hf⟩
theorem lw_read (n : ByteArray) (h : Lw B T w g s) (hs : n.size ≤ maxLen) : Calls Try.prog 16 #[ptrV g, .string n] w (ReadPost w (s.read n)) := by
  obtain ⟨⟨base, ok, nb, fb, v, ad, h1, h2⟩, h3, h4⟩ := h
  exact read_calls n h2 h3 h4 hs
theorem lw_pend (h : Lw B T w g s) : Calls Try.prog 31 #[ptrV g] w fun e w' => ∃ A c, e = .returned (.slice A s.works.length c) ∧ pendK.R 74 w' w.heap.size (fun _ => True) (.slice A s.works.length c) (s.works.map pendOf) ∧ Below w.heap.size w w' := by
  obtain ⟨⟨base, ok, nb, fb, v, ad, h1, h2⟩, h3, h4⟩ := h
  exact pend_calls h2 h3 h4
/-- of what was there ahead of B nothing turns -/
theorem lw_below {w0 : World} {lo : Nat} (h : Below B w0 w) (hB : B ≤ w.heap.size) (hf : Fr (Mine B lo w.heap.size) w w') : Below B w0 w' := h.trans (hf.below hB (fun k hk => hk.1))
end
end Go.Proofs.Ytnegcjgolaakcaa
