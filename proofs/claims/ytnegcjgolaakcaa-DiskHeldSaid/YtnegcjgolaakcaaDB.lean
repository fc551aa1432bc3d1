/- Write and Append. -/
import Derived.Test.YtnegcjgolaakcaaDA
import Derived.LaidEqlPtr
namespace Go.Proofs.Ytnegcjgolaakcaa
open Go.RowKit Go.Maps
open Go.Proofs.YtnegcjgolaakcaaW.PrintWords Go.Proofs.YtnegcjgolaakcaaW.PrintLast Go.Proofs.YtnegcjgolaakcaaW.PrintMore
set_option linter.unusedVariables false
set_option linter.unusedSimpArgs false
section
variable {w w' : World} {g : Nat} {s s' : DS} {base : Nat} {ok : Nat → Prop} {nb fb : Nat} {v v1 : Value} {ad ad' : List Nat} {T : Nat}
theorem put_calls (kind : Int) (n : ByteArray) (b : List Int) (A : Option Addr) (c : Nat) (h : DiskAt w g s base ok nb fb v ad) (hI : s.Inv T) (hT : T ≤ 1073741824) (hfresh : ∀ k, w.heap.size ≤ k → ok k)
    (hn : namedV n = true) (hs : n.size ≤ maxLen) (hb : b.length ≤ 1073741824) (hc : b.length ≤ c) (hC : ∀ W', Fr ok w W' → bK.C W' A b.length b) (hk : kind = 1 ∨ kind = 2) :
    Calls Try.prog 40 #[ptrV g, .int .i64 kind, .string n, .slice A b.length c] w (DiskPost w g base ok nb fb (s.put kind n b)) := by
  cases hf : s.find n with
  | none => exact put_none kind n b A c h hI hT hfresh hn hs hb hc hC hk hf
  | some i =>
    rcases hk with hk | hk
    · exact put_some1 kind n b A c h hI hT hfresh hn hs hb hc hC hk hf
    · exact put_some2 kind n b A c h hI hT hfresh hn hs hb hc hC hk hf
theorem fresh_left (s : DS) (n : ByteArray) : (s.fresh n).left = s.left := by
  unfold DS.fresh
  split <;> rfl
theorem put_left (s : DS) (kind : Int) (n : ByteArray) (b : List Int) : (s.put kind n b).2.left = s.left := by
  unfold DS.put
  split
  · rfl
  · exact fresh_left s n
theorem cells_S {w : World} {g t : Nat} {ns : List ByteArray} {cs : Array Value} (h : IsB w g cs t) (hc : cs.toList = ns.map Value.string) (hn : ns.length ≤ 1000) : Kd.string.C w (some ⟨g, 0, none⟩) ns.length ns := by
  have hsz : cs.size = ns.length := by rw [← Array.length_toList, hc, List.length_map]
  refine ⟨rfl, by omega, fun _ => ⟨_, rfl, fun j p hj => ?_⟩⟩
  refine ⟨[.string p], rfl, rfl, fun i u hu => ?_⟩
  have hi : i = 0 ∧ u = .string p := by
    cases i with
    | zero => exact ⟨rfl, by simpa using hu.symm⟩
    | succ i => simp at hu
  obtain ⟨rfl, rfl⟩ := hi
  have e1 : (⟨g, 0, none⟩ : Addr).add (j * 1 + 0) = ⟨g, j, none⟩ := by
    rw [Nat.mul_one, Nat.add_zero]
    unfold Addr.add
    split
    · rename_i h0
      subst h0
      rfl
    · simp
  show w.cell? ((⟨g, 0, none⟩ : Addr).add (j * 1 + 0)) = _
  rw [e1, blk_cell h j, ← Array.getElem?_toList, hc, List.getElem?_map, hj]
  rfl
theorem one_S {w : World} {g t : Nat} {n : ByteArray} (h : IsB w g #[.string n] t) : Kd.string.C w (some ⟨g, 0, none⟩) [n].length [n] := cells_S (ns := [n]) h rfl (by simp)
theorem two_S {w : World} {g t : Nat} {m n : ByteArray} (h : IsB w g #[.string m, .string n] t) : Kd.string.C w (some ⟨g, 0, none⟩) [m, n].length [m, n] := cells_S (ns := [m, n]) h rfl (by simp)
set_option maxHeartbeats 4000000 in
set_option maxRecDepth 100000 in
theorem write_do {g0 g1 g2 : Nat} (n : ByteArray) (b : List Int) (A : Option Addr) (c : Nat) (h0 : IsB w g0 #[ptrV g] 22) (h1 : IsB w g1 #[.string n] 9) (h2 : IsB w g2 #[.slice A b.length c] 30) (h : DiskAt w g s base ok nb fb v ad) (hI : s.Inv T) (hT : T ≤ 1073741824) (hfresh : ∀ k, w.heap.size ≤ k → ok k)
    (hn : namedV n = true) (hs : n.size ≤ maxLen) (hb : b.length ≤ 1073741824) (hc : b.length ≤ c) (hC : ∀ W', Fr ok w W' → bK.C W' A b.length b) :
    Calls Try.prog 39 #[ptrV g0, ptrV g1, ptrV g2] w (DiskPost w g base ok nb fb (s.put 1 n b)) := by
  have c0 : w.cell? ⟨g0, 0, none⟩ = some (ptrV g) := (blk_cell h0 0).trans rfl
  have c1 : w.cell? ⟨g1, 0, none⟩ = some (.string n) := (blk_cell h1 0).trans rfl
  have c2 : w.cell? ⟨g2, 0, none⟩ = some (.slice A b.length c) := (blk_cell h2 0).trans rfl
  have HP := Aside0.mk (put_calls 1 n b A c h hI hT hfresh hn hs hb hc hC (by decide))
  generalize s.put 1 n b = r at *
  clear h0 h1 h2 h hI hT hfresh hn hs hb hc hC
  go_enter Try.func39, Try.ntmps39
  go_wp2_with fail
  refine HP.out.mono ?_
  rintro e w1 ⟨rfl, hd, hf⟩
  have HD := Aside0.mk hd
  have HF := Aside0.mk hf
  clear hd hf
  go_wp2_with fail
  go_ret
  exact ⟨rfl, HD.out, HF.out⟩
set_option maxHeartbeats 4000000 in
set_option maxRecDepth 100000 in
theorem write_calls (n : ByteArray) (b : List Int) (A : Option Addr) (c : Nat) (h : DiskAt w g s base ok nb fb v ad) (hI : s.Inv T) (hT : T ≤ 1073741824) (hfresh : ∀ k, w.heap.size ≤ k → ok k)
    (hs : n.size ≤ maxLen) (hb : b.length ≤ 1073741824) (hc : b.length ≤ c) (hC : ∀ W', Fr ok w W' → bK.C W' A b.length b) :
    Calls Try.prog 12 #[ptrV g, .string n, .slice A b.length c] w (DiskPost w g base ok nb fb (s.Write n b)) := by
  have H := Aside0.mk h
  have HI := Aside0.mk hI
  have HT := Aside0.mk hT
  have HF := Aside0.mk hfresh
  have HS := Aside0.mk hs
  have HB := Aside0.mk (And.intro hb hc)
  have HC := Aside0.mk hC
  generalize hr : s.Write n b = r
  have HR := Aside0.mk hr
  clear h hI hT hfresh hs hb hc hC hr
  go_enter Try.func12, Try.ntmps12
  go_upto_region 1 with fail
  have hb3 : Below w.heap.size w (((w.alloc (.cells #[ptrV g] 22)).alloc (.cells #[.string n] 9)).alloc (.cells #[.slice A b.length c] 30)) := below_alloc (below_alloc (below_alloc (Below.refl _ _) _) _) _
  have q0 : IsB (((w.alloc (.cells #[ptrV g] 22)).alloc (.cells #[.string n] 9)).alloc (.cells #[.slice A b.length c] 30)) w.heap.size #[ptrV g] 22 := blk_alloc (blk_alloc (blk_new _ _) _) _
  have q1 : IsB (((w.alloc (.cells #[ptrV g] 22)).alloc (.cells #[.string n] 9)).alloc (.cells #[.slice A b.length c] 30)) (w.heap.size + 1) #[.string n] 9 := blk_alloc (by have := blk_new (w.alloc (.cells #[ptrV g] 22)) (.cells #[.string n] 9); rwa [World.size_alloc] at this) _
  have q2 : IsB (((w.alloc (.cells #[ptrV g] 22)).alloc (.cells #[.string n] 9)).alloc (.cells #[.slice A b.length c] 30)) (w.heap.size + 1 + 1) #[.slice A b.length c] 30 := by have := blk_new ((w.alloc (.cells #[ptrV g] 22)).alloc (.cells #[.string n] 9)) (.cells #[.slice A b.length c] 30); rwa [World.size_alloc, World.size_alloc] at this
  generalize ((w.alloc (.cells #[ptrV g] 22)).alloc (.cells #[.string n] 9)).alloc (.cells #[.slice A b.length c] 30) = w3 at *
  generalize w.heap.size + 1 + 1 = g2 at *
  generalize w.heap.size + 1 = g1 at *
  obtain ⟨g0, hg0⟩ : ∃ g0, g0 = w.heap.size := ⟨_, rfl⟩
  rw [← hg0] at q0 ⊢
  have HB3 := Aside0.mk hb3
  have c0 : w3.cell? ⟨g0, 0, none⟩ = some (ptrV g) := (blk_cell q0 0).trans rfl
  have c1 : w3.cell? ⟨g1, 0, none⟩ = some (.string n) := (blk_cell q1 0).trans rfl
  have Q0 := Aside0.mk q0
  have Q1 := Aside0.mk q1
  have Q2 := Aside0.mk q2
  clear hb3 q0 q1 q2 hg0
  go_wp2_with fail
  have hb4 : Below w3.heap.size w3 (w3.alloc (.cells #[.string n] 9)) := (Below.refl _ _).alloc (Nat.le_refl _) _
  have HB4 := Aside0.mk hb4
  have hS := one_S (blk_new w3 (.cells #[.string n] 9))
  generalize w3.alloc (.cells #[.string n] 9) = w4 at *
  refine (step_calls 39 _ (some ⟨w3.heap.size, 0, none⟩) 1 [n] (fun s => s.put 1 n b) ((H.out.below HB3.out).below hb4) (fun k hk => HF.out k (Nat.le_trans (Nat.le_trans HB3.out.size hb4.size) hk)) hS (by simp) (fun m hm => by rw [List.mem_singleton.1 hm]; exact HS.out) (enters_ (fn := Try.f39) (by kernel_rfl) (by kernel_rfl) (by kernel_rfl)) (fun _ => by rw [put_left]; exact HI.out.left) ?_).mono ?_
  · intro hall _ W' hW
    have hn : namedV n = true := by simpa using hall
    have hb5 : Below w3.heap.size w3 W' := hb4.trans (hW.mono hb4.size)
    refine write_do n b A c (blk_below Q0.out hb5) (blk_below Q1.out hb5) (blk_below Q2.out hb5) ((H.out.below HB3.out).below hb5) HI.out HT.out (fun k hk => HF.out k (Nat.le_trans (Nat.le_trans HB3.out.size hb5.size) hk)) hn HS.out HB.out.1 HB.out.2 (fun W'' hW'' => HC.out W'' ?_)
    exact ((Fr.ofBelow HB3.out).trans (Fr.ofBelow hb5) (fun _ h _ => h)).trans hW'' (fun _ h _ => h)
  · rintro e w5 ⟨rfl, hd, hf⟩
    have HD := Aside0.mk hd
    have HF5 := Aside0.mk hf
    have hr : s.step [n] (fun s => s.put 1 n b) = r := HR.out
    rw [hr] at HD
    rw [hr]
    clear hd hf hb4 hS hr
    go_wp2_with fail
    go_ret
    exact ⟨rfl, HD.out, ((Fr.ofBelow HB3.out).trans (Fr.ofBelow HB4.out) (fun _ h _ => h)).trans HF5.out (fun _ h _ => h)⟩
set_option maxHeartbeats 4000000 in
set_option maxRecDepth 100000 in
theorem append_do {g0 g1 g2 : Nat} (n : ByteArray) (b : List Int) (A : Option Addr) (c : Nat) (h0 : IsB w g0 #[ptrV g] 22) (h1 : IsB w g1 #[.string n] 9) (h2 : IsB w g2 #[.slice A b.length c] 30) (h : DiskAt w g s base ok nb fb v ad) (hI : s.Inv T) (hT : T ≤ 1073741824) (hfresh : ∀ k, w.heap.size ≤ k → ok k)
    (hn : namedV n = true) (hs : n.size ≤ maxLen) (hb : b.length ≤ 1073741824) (hc : b.length ≤ c) (hC : ∀ W', Fr ok w W' → bK.C W' A b.length b) :
    Calls Try.prog 45 #[ptrV g0, ptrV g1, ptrV g2] w (DiskPost w g base ok nb fb (s.put 2 n b)) := by
  have c0 : w.cell? ⟨g0, 0, none⟩ = some (ptrV g) := (blk_cell h0 0).trans rfl
  have c1 : w.cell? ⟨g1, 0, none⟩ = some (.string n) := (blk_cell h1 0).trans rfl
  have c2 : w.cell? ⟨g2, 0, none⟩ = some (.slice A b.length c) := (blk_cell h2 0).trans rfl
  have HP := Aside0.mk (put_calls 2 n b A c h hI hT hfresh hn hs hb hc hC (by decide))
  generalize s.put 2 n b = r at *
  clear h0 h1 h2 h hI hT hfresh hn hs hb hc hC
  go_enter Try.func45, Try.ntmps45
  go_wp2_with fail
  refine HP.out.mono ?_
  rintro e w1 ⟨rfl, hd, hf⟩
  have HD := Aside0.mk hd
  have HF := Aside0.mk hf
  clear hd hf
  go_wp2_with fail
  go_ret
  exact ⟨rfl, HD.out, HF.out⟩
set_option maxHeartbeats 4000000 in
set_option maxRecDepth 100000 in
theorem append_calls (n : ByteArray) (b : List Int) (A : Option Addr) (c : Nat) (h : DiskAt w g s base ok nb fb v ad) (hI : s.Inv T) (hT : T ≤ 1073741824) (hfresh : ∀ k, w.heap.size ≤ k → ok k)
    (hs : n.size ≤ maxLen) (hb : b.length ≤ 1073741824) (hc : b.length ≤ c) (hC : ∀ W', Fr ok w W' → bK.C W' A b.length b) :
    Calls Try.prog 17 #[ptrV g, .string n, .slice A b.length c] w (DiskPost w g base ok nb fb (s.Append n b)) := by
  have H := Aside0.mk h
  have HI := Aside0.mk hI
  have HT := Aside0.mk hT
  have HF := Aside0.mk hfresh
  have HS := Aside0.mk hs
  have HB := Aside0.mk (And.intro hb hc)
  have HC := Aside0.mk hC
  generalize hr : s.Append n b = r
  have HR := Aside0.mk hr
  clear h hI hT hfresh hs hb hc hC hr
  go_enter Try.func17, Try.ntmps17
  go_upto_region 1 with fail
  have hb3 : Below w.heap.size w (((w.alloc (.cells #[ptrV g] 22)).alloc (.cells #[.string n] 9)).alloc (.cells #[.slice A b.length c] 30)) := below_alloc (below_alloc (below_alloc (Below.refl _ _) _) _) _
  have q0 : IsB (((w.alloc (.cells #[ptrV g] 22)).alloc (.cells #[.string n] 9)).alloc (.cells #[.slice A b.length c] 30)) w.heap.size #[ptrV g] 22 := blk_alloc (blk_alloc (blk_new _ _) _) _
  have q1 : IsB (((w.alloc (.cells #[ptrV g] 22)).alloc (.cells #[.string n] 9)).alloc (.cells #[.slice A b.length c] 30)) (w.heap.size + 1) #[.string n] 9 := blk_alloc (by have := blk_new (w.alloc (.cells #[ptrV g] 22)) (.cells #[.string n] 9); rwa [World.size_alloc] at this) _
  have q2 : IsB (((w.alloc (.cells #[ptrV g] 22)).alloc (.cells #[.string n] 9)).alloc (.cells #[.slice A b.length c] 30)) (w.heap.size + 1 + 1) #[.slice A b.length c] 30 := by have := blk_new ((w.alloc (.cells #[ptrV g] 22)).alloc (.cells #[.string n] 9)) (.cells #[.slice A b.length c] 30); rwa [World.size_alloc, World.size_alloc] at this
  generalize ((w.alloc (.cells #[ptrV g] 22)).alloc (.cells #[.string n] 9)).alloc (.cells #[.slice A b.length c] 30) = w3 at *
  generalize w.heap.size + 1 + 1 = g2 at *
  generalize w.heap.size + 1 = g1 at *
  obtain ⟨g0, hg0⟩ : ∃ g0, g0 = w.heap.size := ⟨_, rfl⟩
  rw [← hg0] at q0 ⊢
  have HB3 := Aside0.mk hb3
  have c0 : w3.cell? ⟨g0, 0, none⟩ = some (ptrV g) := (blk_cell q0 0).trans rfl
  have c1 : w3.cell? ⟨g1, 0, none⟩ = some (.string n) := (blk_cell q1 0).trans rfl
  have Q0 := Aside0.mk q0
  have Q1 := Aside0.mk q1
  have Q2 := Aside0.mk q2
  clear hb3 q0 q1 q2 hg0
  go_wp2_with fail
  have hb4 : Below w3.heap.size w3 (w3.alloc (.cells #[.string n] 9)) := (Below.refl _ _).alloc (Nat.le_refl _) _
  have HB4 := Aside0.mk hb4
  have hS := one_S (blk_new w3 (.cells #[.string n] 9))
  generalize w3.alloc (.cells #[.string n] 9) = w4 at *
  refine (step_calls 45 _ (some ⟨w3.heap.size, 0, none⟩) 1 [n] (fun s => s.put 2 n b) ((H.out.below HB3.out).below hb4) (fun k hk => HF.out k (Nat.le_trans (Nat.le_trans HB3.out.size hb4.size) hk)) hS (by simp) (fun m hm => by rw [List.mem_singleton.1 hm]; exact HS.out) (enters_ (fn := Try.f45) (by kernel_rfl) (by kernel_rfl) (by kernel_rfl)) (fun _ => by rw [put_left]; exact HI.out.left) ?_).mono ?_
  · intro hall _ W' hW
    have hn : namedV n = true := by simpa using hall
    have hb5 : Below w3.heap.size w3 W' := hb4.trans (hW.mono hb4.size)
    refine append_do n b A c (blk_below Q0.out hb5) (blk_below Q1.out hb5) (blk_below Q2.out hb5) ((H.out.below HB3.out).below hb5) HI.out HT.out (fun k hk => HF.out k (Nat.le_trans (Nat.le_trans HB3.out.size hb5.size) hk)) hn HS.out HB.out.1 HB.out.2 (fun W'' hW'' => HC.out W'' ?_)
    exact ((Fr.ofBelow HB3.out).trans (Fr.ofBelow hb5) (fun _ h _ => h)).trans hW'' (fun _ h _ => h)
  · rintro e w5 ⟨rfl, hd, hf⟩
    have HD := Aside0.mk hd
    have HF5 := Aside0.mk hf
    have hr : s.step [n] (fun s => s.put 2 n b) = r := HR.out
    rw [hr] at HD
    rw [hr]
    clear hd hf hb4 hS hr
    go_wp2_with fail
    go_ret
    exact ⟨rfl, HD.out, ((Fr.ofBelow HB3.out).trans (Fr.ofBelow HB4.out) (fun _ h _ => h)).trans HF5.out (fun _ h _ => h)⟩
end
end Go.Proofs.Ytnegcjgolaakcaa

/- Plain: a file is given a name; and a disk in memory whose names' map has turned. -/
namespace Go.Proofs.Ytnegcjgolaakcaa
open Go.RowKit Go.Maps
open Go.Proofs.YtnegcjgolaakcaaW.PrintWords Go.Proofs.YtnegcjgolaakcaaW.PrintLast Go.Proofs.YtnegcjgolaakcaaW.PrintMore
set_option linter.unusedVariables false
set_option linter.unusedSimpArgs false
/-- a name is taken from who has it, and given to i -/
def giveL (L : List ByteArray) (i : Nat) (b : ByteArray) : List ByteArray := (match idxL L b with | some j => L.set j nameless | none => L).set i b
theorem freed {L : List ByteArray} (h : UL L) {b : ByteArray} (hb : b ≠ nameless) : UL (match idxL L b with | some j => L.set j nameless | none => L) ∧ (∀ j : Nat, (match idxL L b with | some j => L.set j nameless | none => L)[j]? ≠ some b) := by
  cases hf : idxL L b with
  | none => exact ⟨h, fun j hj => (idxL_none.1 hf) (List.mem_of_getElem? hj)⟩
  | some i =>
    have hi := idxL_some hf
    have hil := (List.getElem?_eq_some_iff.1 hi).1
    refine ⟨UL_set h i nameless (.inl rfl), fun j hj => ?_⟩
    have hj' : (L.set i nameless)[j]? = some b := hj
    rw [List.getElem?_set] at hj'
    by_cases hij : i = j
    · rw [if_pos hij, if_pos hil] at hj'
      exact hb (Option.some.inj hj').symm
    · rw [if_neg hij] at hj'
      exact hij (UL_at h hi hj' hb)
theorem UL_give {L : List ByteArray} (h : UL L) (i : Nat) {b : ByteArray} (hb : b ≠ nameless) : UL (giveL L i b) :=
  UL_set (freed h hb).1 i b (.inr (fun j _ => (freed h hb).2 j))
theorem give_len (L : List ByteArray) (i : Nat) (b : ByteArray) : (giveL L i b).length = L.length := by
  unfold giveL
  rw [List.length_set]
  split
  · rw [List.length_set]
  · rfl
theorem freed_at {L : List ByteArray} {b : ByteArray} (hb : b ≠ nameless) {i : Nat} (hi : L[i]? = some nameless) : (match idxL L b with | some j => L.set j nameless | none => L)[i]? = some nameless := by
  cases hf : idxL L b with
  | none => exact hi
  | some j =>
    show (L.set j nameless)[i]? = some nameless
    rw [List.getElem?_set]
    have hjl := (List.getElem?_eq_some_iff.1 (idxL_some hf)).1
    by_cases hij : j = i
    · rw [if_pos hij, if_pos hjl]
    · rw [if_neg hij]; exact hi
theorem give_at {L : List ByteArray} (h : UL L) {ad : List Nat} (hl : ad.length = L.length) {i : Nat} (hi : L[i]? = some nameless) {b : ByteArray} (hb : b ≠ nameless) {q : Nat} (hq : ad[i]? = some q) (k : ByteArray) :
    atL (giveL L i b) ad k = if k = b then some q else atL L ad k := by
  have hF := freed h hb
  have hi2 := freed_at hb hi
  have h0 : atL L ad nameless = none := if_pos rfl
  unfold giveL
  have hl2 : ad.length = (match idxL L b with | some j => L.set j nameless | none => L).length := by
    split
    · rw [List.length_set]; exact hl
    · exact hl
  rw [atL_set hF.1 hl2 hi2 b (.inr (fun j _ => hF.2 j)) k]
  by_cases hk : k = b
  · rw [if_pos ⟨hk, hb⟩, if_pos hk, hq]
  · rw [if_neg (fun h => hk h.1), if_neg hk]
    by_cases hkn : k = nameless
    · rw [if_pos hkn, hkn, h0]
    · rw [if_neg hkn]
      cases hf : idxL L b with
      | none => rfl
      | some j =>
        show atL (L.set j nameless) ad k = _
        rw [atL_set h hl (idxL_some hf) nameless (.inl rfl) k, if_neg (fun h => h.2 rfl), if_neg hk]
theorem atL_isSome {L : List ByteArray} {ad : List Nat} (hl : ad.length = L.length) {b : ByteArray} (hb : b ≠ nameless) : (atL L ad b).isSome = (idxL L b).isSome := by
  unfold atL
  rw [if_neg hb]
  cases hf : idxL L b with
  | none => rfl
  | some j =>
    have hjl := (List.getElem?_eq_some_iff.1 (idxL_some hf)).1
    have : j < ad.length := by omega
    simp [this]
theorem give_cnt {L : List ByteArray} {ad : List Nat} (hl : ad.length = L.length) {i : Nat} (hi : L[i]? = some nameless) {b : ByteArray} (hb : b ≠ nameless) :
    cntL (giveL L i b) = if (atL L ad b).isSome then cntL L else cntL L + 1 := by
  rw [atL_isSome hl hb]
  unfold giveL
  have h1 := cntL_set (freed_at hb hi) b
  rw [if_pos rfl, if_neg hb] at h1
  rw [Nat.add_zero] at h1
  rw [h1]
  cases hf : idxL L b with
  | none => rfl
  | some j =>
    have h2 := cntL_set (idxL_some hf) nameless
    rw [if_neg hb, if_pos rfl] at h2
    show cntL (L.set j nameless) + 1 = cntL L
    omega
namespace DS
theorem setName_nm (s : DS) (i : Nat) (n : ByteArray) : (s.setName i n).nmL = s.nmL.set i n := map_modify_set _ _ _ _ _ (fun _ => rfl)
theorem setName_fs (s : DS) (i : Nat) (n : ByteArray) : (s.setName i n).fsL = s.fsL := map_modify_same _ _ _ _ (fun _ => rfl)
theorem setFast_fs (s : DS) (i : Nat) (n : ByteArray) : (s.setFast i n).fsL = s.fsL.set i n := map_modify_set _ _ _ _ _ (fun _ => rfl)
theorem setFast_nm (s : DS) (i : Nat) (n : ByteArray) : (s.setFast i n).nmL = s.nmL := map_modify_same _ _ _ _ (fun _ => rfl)
/-- a name is taken from who has it, and given to i -/
def give (s : DS) (i : Nat) (b : ByteArray) : DS := (match s.find b with | some j => s.setName j nameless | none => s).setName i b
theorem give_nm (s : DS) (i : Nat) (b : ByteArray) : (s.give i b).nmL = giveL s.nmL i b := by
  unfold give giveL
  rw [setName_nm, find_L]
  split
  · rw [setName_nm]
  · rfl
theorem setName_rest (s : DS) (i : Nat) (n : ByteArray) : (s.setName i n).files.map (fun f => (f.fast, f.now, f.old)) = s.files.map (fun f => (f.fast, f.now, f.old)) := map_modify_same _ _ _ _ (fun _ => rfl)
theorem give_rest (s : DS) (i : Nat) (b : ByteArray) : (s.give i b).files.map (fun f => (f.fast, f.now, f.old)) = s.files.map (fun f => (f.fast, f.now, f.old)) := by
  unfold give
  rw [setName_rest]
  split
  · exact setName_rest _ _ _
  · rfl
theorem give_head (s : DS) (i : Nat) (b : ByteArray) : s.give i b = { s with files := (s.give i b).files } := by
  unfold give
  split <;> rfl
end DS
section
variable {w w' : World} {g : Nat} {s s' : DS} {base : Nat} {ok : Nat → Prop} {nb fb : Nat} {v v1 : Value} {ad ad' : List Nat} {T : Nat}
theorem fst_of {l l' : List PF} (h : l'.map (fun f => (f.fast, f.now, f.old)) = l.map (fun f => (f.fast, f.now, f.old))) : l'.map PF.fast = l.map PF.fast := by
  have := congrArg (List.map Prod.fst) h
  rw [List.map_map, List.map_map] at this
  exact this
/-- the names' map has turned -/
theorem DiskAt.turnN (h : DiskAt w g s base ok nb fb v ad) {fs' : List PF} (ht : w.mapTurned w' nb) (hM : MapAt w' nb (cntL (fs'.map PF.name)) (atL (fs'.map PF.name) ad)) (hfl : fs'.map (fun f => (f.fast, f.now, f.old)) = s.files.map (fun f => (f.fast, f.now, f.old))) :
    DiskAt w' g { s with files := fs' } base ok nb fb v ad := by
  have hS : Stay (fun _ => True) w w' := Stay.of_turned ht _
  have hfs : ({ s with files := fs' } : DS).fsL = s.fsL := fst_of hfl
  refine ⟨(hS g _ 68 trivial h.blk).trans h.blk, h.okg, h.okn, h.okf, h.ne, ?_, ?_, R_objs h.wks hS (fun _ _ => trivial), ?_, ?_, h.nd⟩
  · rw [DS.count_L]
    exact hM.congr (fun k => (DS.nameAt_L { s with files := fs' } ad k).symm)
  · rw [DS.countF_L, hfs, ← DS.countF_L]
    refine (h.fst.heap (ht.grown.block fb h.fst.lt (fun e => h.ne (by injection e with e; exact e.symm)))).congr (fun k => ?_)
    rw [DS.fastOf_L, DS.fastOf_L, hfs]
  · intro i f' hi
    have hi' : fs'[i]? = some f' := hi
    have e := congrArg (fun l => l[i]?) hfl
    simp only [List.getElem?_map, hi', Option.map_some] at e
    obtain ⟨f, hf, hff⟩ := Option.map_eq_some_iff.1 e.symm
    obtain ⟨g', eg, hF⟩ := h.fls i f hf
    have e1 : f.now = f'.now := congrArg (fun x => x.2.1) hff
    have e2 : f.old = f'.old := congrArg (fun x => x.2.2) hff
    exact ⟨g', eg, (hF.stay hS trivial trivial).rest e1.symm e2.symm⟩
  · have e := congrArg List.length hfl
    rw [List.length_map, List.length_map] at e
    show ad.length = fs'.length
    rw [h.len, e]
/-- the fast map has turned -/
theorem DiskAt.turnF (h : DiskAt w g s base ok nb fb v ad) {fs' : List PF} (ht : w.mapTurned w' fb) (hM : MapAt w' fb (cntL (fs'.map PF.fast)) (atL (fs'.map PF.fast) ad)) (hfl : fs'.map (fun f => (f.name, f.now, f.old)) = s.files.map (fun f => (f.name, f.now, f.old))) :
    DiskAt w' g { s with files := fs' } base ok nb fb v ad := by
  have hS : Stay (fun _ => True) w w' := Stay.of_turned ht _
  have hnm : ({ s with files := fs' } : DS).nmL = s.nmL := by
    have := congrArg (List.map Prod.fst) hfl
    rw [List.map_map, List.map_map] at this
    exact this
  refine ⟨(hS g _ 68 trivial h.blk).trans h.blk, h.okg, h.okn, h.okf, h.ne, ?_, ?_, R_objs h.wks hS (fun _ _ => trivial), ?_, ?_, h.nd⟩
  · rw [DS.count_L, hnm, ← DS.count_L]
    refine (h.nms.heap (ht.grown.block nb h.nms.lt (fun e => h.ne (by injection e with e)))).congr (fun k => ?_)
    rw [DS.nameAt_L, DS.nameAt_L, hnm]
  · rw [DS.countF_L]
    exact hM.congr (fun k => (DS.fastOf_L { s with files := fs' } ad k).symm)
  · intro i f' hi
    have hi' : fs'[i]? = some f' := hi
    have e := congrArg (fun l => l[i]?) hfl
    simp only [List.getElem?_map, hi', Option.map_some] at e
    obtain ⟨f, hf, hff⟩ := Option.map_eq_some_iff.1 e.symm
    obtain ⟨g', eg, hF⟩ := h.fls i f hf
    have e1 : f.now = f'.now := congrArg (fun x => x.2.1) hff
    have e2 : f.old = f'.old := congrArg (fun x => x.2.2) hff
    exact ⟨g', eg, (hF.stay hS trivial trivial).rest e1.symm e2.symm⟩
  · have e := congrArg List.length hfl
    rw [List.length_map, List.length_map] at e
    show ad.length = fs'.length
    rw [h.len, e]
/-- who has a name loses it -/
theorem DiskAt.unname (h : DiskAt w g s base ok nb fb v ad) (hI : UL s.nmL) {n : ByteArray} (hn : n ≠ nameless) {i : Nat} (hi : s.nmL[i]? = some n) {D : DU} (hT : Tidy D) (hD : Tells D s.count (s.nameAt ad)) {m : Nat} (ho : w'.ownsMap Try.prog 9 filE nb m (D.del (key n))) (ht : w.mapTurned w' nb) :
    DiskAt w' g (s.setName i nameless) base ok nb fb v ad := by
  have hl : ad.length = s.nmL.length := by rw [h.len]; simp [DS.nmL]
  refine h.turnN (fs' := (s.setName i nameless).files) ht ?_ (map_modify_same _ _ _ _ (fun _ => rfl))
  show MapAt w' nb (cntL (s.setName i nameless).nmL) (atL (s.setName i nameless).nmL ad)
  rw [DS.setName_nm]
  refine MapAt.mk' ho ((hD.del hT n).congr ?_ (fun k => ?_))
  · have h1 := cntL_set hi nameless
    rw [if_neg hn, if_pos rfl] at h1
    have h2 : (s.nameAt ad n).isSome = true := by rw [DS.nameAt_L, atL_isSome hl hn, idxL_of hI hi hn]; rfl
    rw [h2, DS.count_L, if_pos rfl]
    omega
  · rw [atL_set hI hl hi nameless (.inl rfl), DS.nameAt_L]
    exact (if_neg (fun h => h.2 rfl)).symm
/-- a file without a name gets one -/
theorem DiskAt.give (h : DiskAt w g s base ok nb fb v ad) (hI : UL s.nmL) {b : ByteArray} (hb : b ≠ nameless) {i q : Nat} (hi : s.nmL[i]? = some nameless) (hq : ad[i]? = some q) {D : DU} (hT : Tidy D) (hD : Tells D s.count (s.nameAt ad)) {m : Nat} (ho : w'.ownsMap Try.prog 9 filE nb m (D.put (key b) (ptrD q))) (ht : w.mapTurned w' nb) :
    DiskAt w' g (s.give i b) base ok nb fb v ad := by
  have hl : ad.length = s.nmL.length := by rw [h.len]; simp [DS.nmL]
  rw [DS.give_head]
  refine h.turnN (fs' := (s.give i b).files) ht ?_ (DS.give_rest s i b)
  show MapAt w' nb (cntL (s.give i b).nmL) (atL (s.give i b).nmL ad)
  rw [DS.give_nm]
  refine MapAt.mk' ho ((hD.put hT hT.isMap b q).congr ?_ (fun k => ?_))
  · rw [give_cnt hl hi hb, DS.nameAt_L, DS.count_L]
  · rw [give_at hI hl hi hb hq, DS.nameAt_L]
end
end Go.Proofs.Ytnegcjgolaakcaa

/- Rename and Remove. -/
namespace Go.Proofs.Ytnegcjgolaakcaa
open Go.RowKit Go.Maps
open Go.Proofs.YtnegcjgolaakcaaW.PrintWords Go.Proofs.YtnegcjgolaakcaaW.PrintLast Go.Proofs.YtnegcjgolaakcaaW.PrintMore
set_option linter.unusedVariables false
set_option linter.unusedSimpArgs false
section
variable {w w' : World} {g : Nat} {s s' : DS} {base : Nat} {ok : Nat → Prop} {nb fb : Nat} {v v1 : Value} {ad ad' : List Nat} {T : Nat}
/-- a look-up, run -/
theorem look_run {D : DU} {m : Nat} {n : ByteArray} {get : ByteArray → Option Nat} {k : Nat} (h : w.ownsMap Try.prog 9 filE nb m D) (hD : Tells D k get) (hs : n.size ≤ maxLen) :
    (Instr.lookup 65 (.map (some nb)) (.string n) true).run Try.prog w = .ok (.tuple #[filV (get n), .bool (get n).isSome]) w := by
  obtain ⟨v, ps, hr, hv⟩ := h.look_ok keyLaw Try.underlying65 (zeroF w) filE_nil (key_of hs)
  rw [hr, (hD.2 n).2]
  cases hg : get n with
  | none => rw [look_none hD hg hv]; rfl
  | some c => rw [look_some hD hg hv]; rfl
theorem look_exec {a : Act} {oi : Oper} {t : TypeId} {m x : Operand} {b : Nat} {k V : Value} (hop : oi.op = Op.lookup t m x true) (hm : a.eval m = .map (some b)) (hx : a.eval x = k) (hrun : (Instr.lookup t (.map (some b)) k true).run Try.prog w = .ok V w) :
    (execOp a.eval oi).run Try.prog w = .ok (.value V) w := by
  simp [execOp, hop, hm, hx, hrun, Result.andThen]
theorem del_exec {a : Act} {oi : Oper} {t k : TypeId} {m x : Operand} {b : Nat} {kv : Value} (hop : oi.op = Op.call { callee := Callee.builtin Builtin.delete, args := #[m, x], argTypes := #[t, k] }) (hm : a.eval m = .map (some b)) (hx : a.eval x = kv) (hrun : (Builtin.delete_ #[t, k] oi.type #[.map (some b), kv]).run Try.prog w = .ok (.tuple #[]) w') :
    (execOp a.eval oi).run Try.prog w = .ok (.value (.tuple #[])) w' := by
  simp [execOp, hop, resolve, invoke, builtin, hm, hx, hrun, Result.andThen]
theorem upd_exec {a : Act} {oi : Oper} {t : TypeId} {m x y : Operand} {b : Nat} {kv V : Value} (hop : oi.op = Op.mapUpdate t m x y) (hm : a.eval m = .map (some b)) (hx : a.eval x = kv) (hy : a.eval y = V) (hrun : (Instr.mapUpdate t (.map (some b)) kv V).run Try.prog w = .ok () w') :
    (execOp a.eval oi).run Try.prog w = .ok .skip w' := by
  simp [execOp, hop, hm, hx, hy, hrun, Result.andThen]
theorem spot_ad (h : DiskAt w g s base ok nb fb v ad) {n : ByteArray} {q : Nat} (hna : s.nameAt ad n = some q) : ∃ i f, s.find n = some i ∧ s.files[i]? = some f ∧ f.name = n ∧ n ≠ nameless ∧ ad[i]? = some q ∧ s.nmL[i]? = some n := by
  unfold DS.nameAt at hna
  split at hna
  · cases hna
  · rename_i hn
    obtain ⟨i, hi, hq⟩ := Option.bind_eq_some_iff.1 hna
    have h2 := hi
    rw [DS.find_L] at h2
    have h1 := idxL_some h2
    have h3 := h1
    unfold DS.nmL at h1
    rw [List.getElem?_map] at h1
    obtain ⟨f, hfi, hfn⟩ := Option.map_eq_some_iff.1 h1
    exact ⟨i, f, hi, hfi, hfn, hn, hq, h3⟩
theorem find_none (h : DiskAt w g s base ok nb fb v ad) {n : ByteArray} (hn : n ≠ nameless) (hna : s.nameAt ad n = none) : s.find n = none := by
  cases hf : s.find n with
  | none => rfl
  | some i =>
    obtain ⟨f, q, _, _, h3⟩ := spot_file h hn hf
    rw [hna] at h3
    cases h3
theorem mw_at {ad : List Nat} {i q : Nat} (h : ad[i]? = some q) (k : Int) (n t : ByteArray) (l : Int) (b : List Int) : mwOf ad (⟨k, n, t, l, i, b⟩ : PW) = (⟨k, n, t, l, q, b⟩ : MW) := by
  unfold mwOf
  rw [List.getD_eq_getElem?_getD, h]
  rfl
def F42RT1 : Bool × List (List Nat × List Nat) := (true, [([], []), ([0], [0]), ([1], [1]), ([2], [2]), ([], []), ([3, 4], [3, 4]), ([5], [5]), ([6], [6]), ([6], [6]), ([7, 0, 1, 2, 3, 4, 5, 6, 7], [7]), ([8, 9, 0, 1, 2, 3, 4, 5, 6, 7, 8, 9], [8])])
def F42RB1 : List Nat := [0, 1, 3, 7, 0, 31, 63, 127, 127, 255, 1023]
theorem F42Rtab1 : rtab .any (opsOf Try.f42 1) = F42RT1 := by kernel_rfl
theorem F42Rbits1 : waitsOk F42RT1.2 F42RB1 = true := by kernel_rfl
def F42RT4 : Bool × List (List Nat × List Nat) := (true, [([], []), ([0], [0]), ([1], [1]), ([2], [2]), ([], []), ([3, 4], [3, 4])])
def F42RB4 : List Nat := [0, 1, 3, 7, 0, 31]
theorem F42Rtab4 : rtab .any (opsOf Try.f42 4) = F42RT4 := by kernel_rfl
theorem F42Rbits4 : waitsOk F42RT4.2 F42RB4 = true := by kernel_rfl
def F42RT5 : Bool × List (List Nat × List Nat) := (true, [([], []), ([], []), ([1], [1]), ([2], [2]), ([3], [3]), ([], []), ([5], [5]), ([], []), ([6, 7], [6, 7]), ([8], [8]), ([4, 9], [4, 9]), ([0, 0, 1, 2, 3, 4, 5, 6, 7, 8, 9, 10], [0]), ([11, 0, 1, 2, 3, 4, 5, 6, 7, 8, 9, 10], [11]), ([12, 10, 10, 0, 1, 2, 3, 4, 5, 6, 7, 8, 9, 10], [10, 12])])
def F42RB5 : List Nat := [0, 0, 2, 6, 14, 0, 32, 0, 224, 480, 1022, 2047, 4095, 8191]
theorem F42Rtab5 : rtab .any (opsOf Try.f42 5) = F42RT5 := by kernel_rfl
theorem F42Rbits5 : waitsOk F42RT5.2 F42RB5 = true := by kernel_rfl
set_option maxHeartbeats 4000000 in
set_option maxRecDepth 100000 in
theorem remove_do {g0 g1 : Nat} (n : ByteArray) (h0 : IsB w g0 #[ptrV g] 22) (h1 : IsB w g1 #[.string n] 9) (h : DiskAt w g s base ok nb fb v ad) (hI : s.Inv T) (hT : T ≤ 1073741824) (hfresh : ∀ k, w.heap.size ≤ k → ok k)
    (hn : namedV n = true) (hs : n.size ≤ maxLen) :
    Calls Try.prog 42 #[ptrV g0, ptrV g1] w (DiskPost w g base ok nb fb (s.remove n)) := by
  obtain ⟨D, hown, hD⟩ := h.nms.open
  have c0 : w.cell? ⟨g0, 0, none⟩ = some (ptrV g) := (blk_cell h0 0).trans rfl
  have c1 : w.cell? ⟨g1, 0, none⟩ = some (.string n) := (blk_cell h1 0).trans rfl
  have y2 : w.cell? ⟨g, 2, none⟩ = some (.map (some nb)) := (blk_cell h.blk 2).trans rfl
  have hgs := blk_lt h.blk
  have HO := Aside0.mk hown
  have HD := Aside0.mk hD
  have HS := Aside0.mk hs
  have H0 := Aside0.mk h0
  have H1 := Aside0.mk h1
  have H := Aside0.mk h
  have HI := Aside0.mk hI
  have HT := Aside0.mk hT
  have HF := Aside0.mk hfresh
  have HN := Aside0.mk hn
  generalize hr : s.remove n = r
  have HR := Aside0.mk hr
  clear h0 h1 hown hD h hI hT hfresh hn hs hr
  cases hna : s.nameAt ad n with
  | none =>
    have HNA := Aside0.mk hna
    have HR2 : Aside0 (r = (60, s)) := ⟨by rw [← HR.out]; unfold DS.remove; rw [find_none H.out (not_nameless HN.out) hna]⟩
    clear hna HR
    go_enter Try.func42, Try.ntmps42
    go_upto_region 1 with fail
    refine start_ (n := 11) (S := fun w' => w'.cell? ⟨g0, 0, none⟩ = some (ptrV g) ∧ w'.cell? ⟨g1, 0, none⟩ = some (.string n) ∧ w'.cell? ⟨g, 2, none⟩ = some (.map (some nb))) (ds := []) #[false, false, false, false, false, false, false, false, false, false, false] (by kernel_rfl) rfl rfl ⟨c0, c1, y2⟩ (fun hHeld => ?_)
    refine with_tabW F42Rtab1 F42Rbits1 (fun HT_ HW_ => ?_)
    refine take_ (i := 0) (N := some 6) (v := ?_) (a' := ?_) #[true, false, false, false, false, false, false, false, false, false, false] rfl rfl (take_ofW HT_.out HW_.out (by kernel_rfl)) (fun _ _ _ h => h) (Or.inl ⟨by rfl, ?_⟩) hHeld ?_ ?_
    rotate_left
    · rintro w' ⟨s0, s1, s2⟩
      go_simp
      with_reducible rfl
    rotate_left
    · simp only [Act.put, List.setIfInBounds_toArray, List.set_cons_zero, List.set_cons_succ, i64_w, i32_w]
      rfl
    refine pure_ (i := 1) (N := some 7) (v := ?_) (a' := ?_) #[true, true, false, false, false, false, false, false, false, false, false] rfl rfl (any_of HT_.out (by kernel_rfl)) (fun _ _ _ h => h) (Or.inl ⟨by rfl, ?_⟩) ?_ ?_
    rotate_left
    · intro w'
      go_simp
      with_reducible rfl
    rotate_left
    · simp only [Act.put, List.setIfInBounds_toArray, List.set_cons_zero, List.set_cons_succ, i64_w, i32_w]
      rfl
    refine pure_ (i := 2) (N := some 8) (v := ?_) (a' := ?_) #[true, true, true, false, false, false, false, false, false, false, false] rfl rfl (any_of HT_.out (by kernel_rfl)) (fun _ _ _ h => h) (Or.inl ⟨by rfl, ?_⟩) ?_ ?_
    rotate_left
    · intro w'
      go_simp
      with_reducible rfl
    rotate_left
    · simp only [Act.put, List.setIfInBounds_toArray, List.set_cons_zero, List.set_cons_succ, i64_w, i32_w]
      rfl
    refine take_ (i := 3) (N := some 9) (v := ?_) (a' := ?_) #[true, true, true, true, false, false, false, false, false, false, false] rfl rfl (take_ofW HT_.out HW_.out (by kernel_rfl)) (fun _ _ _ h => h) (Or.inl ⟨by rfl, ?_⟩) hHeld ?_ ?_
    rotate_left
    · rintro w' ⟨s0, s1, s2⟩
      go_simp
      with_reducible rfl
    rotate_left
    · simp only [Act.put, List.setIfInBounds_toArray, List.set_cons_zero, List.set_cons_succ, i64_w, i32_w]
      rfl
    refine take_ (i := 4) (N := some 10) (v := ?_) (a' := ?_) #[true, true, true, true, true, false, false, false, false, false, false] rfl rfl (take_ofW HT_.out HW_.out (by kernel_rfl)) (fun _ _ _ h => h) (Or.inl ⟨by rfl, ?_⟩) hHeld ?_ ?_
    rotate_left
    · rintro w' ⟨s0, s1, s2⟩
      go_simp
      with_reducible rfl
    rotate_left
    · simp only [Act.put, List.setIfInBounds_toArray, List.set_cons_zero, List.set_cons_succ, i64_w, i32_w]
      rfl
    refine one_ (i := 5) (N := some 11) #[true, true, true, true, true, true, false, false, false, false, false] rfl rfl (one_of HT_.out (by kernel_rfl)) (by decide) (fun K hK => ?_)
    refine value_ (w1 := w.drew) (v := .tuple #[.pointer none, .bool false]) (by rfl) rfl ?hr ?_
    case hr =>
      have hd := look_run HO.out.drew HD.out HS.out
      rw [HNA.out] at hd
      exact look_exec rfl rfl rfl hd
    refine hK.out _ _ ⟨c0, c1, y2⟩ (fun hHeld => ?_)
    clear hK K
    refine norm_ (a' := ?_) ?_ ?_
    rotate_left
    · show Act.put _ (some 11) _ = _
      simp only [Act.put, List.setIfInBounds_toArray, List.set_cons_zero, List.set_cons_succ, i64_w, i32_w]
      rfl
    refine pure_ (i := 6) (N := some 5) (v := ?_) (a' := ?_) #[true, true, true, true, true, true, true, false, false, false, false] rfl rfl (any_of HT_.out (by kernel_rfl)) (fun _ _ _ h => h) (Or.inl ⟨by rfl, ?_⟩) ?_ ?_
    rotate_left
    · intro w'
      go_simp
      with_reducible rfl
    rotate_left
    · simp only [Act.put, List.setIfInBounds_toArray, List.set_cons_zero, List.set_cons_succ, i64_w, i32_w]
      rfl
    refine pure_ (i := 7) (N := some 12) (v := ?_) (a' := ?_) #[true, true, true, true, true, true, true, true, false, false, false] rfl rfl (any_of HT_.out (by kernel_rfl)) (fun _ _ _ h => h) (Or.inl ⟨by rfl, ?_⟩) ?_ ?_
    rotate_left
    · intro w'
      go_simp
      with_reducible rfl
    rotate_left
    · simp only [Act.put, List.setIfInBounds_toArray, List.set_cons_zero, List.set_cons_succ, i64_w, i32_w]
      rfl
    refine pure_ (i := 8) (N := some 13) (v := ?_) (a' := ?_) #[true, true, true, true, true, true, true, true, true, false, false] rfl rfl (any_of HT_.out (by kernel_rfl)) (fun _ _ _ h => h) (Or.inl ⟨by rfl, ?_⟩) ?_ ?_
    rotate_left
    · intro w'
      go_simp
      with_reducible rfl
    rotate_left
    · simp only [Act.put, List.setIfInBounds_toArray, List.set_cons_zero, List.set_cons_succ, i64_w, i32_w]
      rfl
    refine pure_ (i := 9) (N := some 3) (v := ?_) (a' := ?_) #[true, true, true, true, true, true, true, true, true, true, false] rfl rfl (any_of HT_.out (by kernel_rfl)) (fun _ _ _ h => h) (Or.inl ⟨by rfl, ?_⟩) ?_ ?_
    rotate_left
    · intro w'
      go_simp
      with_reducible rfl
    rotate_left
    · simp only [Act.put, List.setIfInBounds_toArray, List.set_cons_zero, List.set_cons_succ, i64_w, i32_w]
      rfl
    refine pure_ (i := 10) (N := some 4) (v := ?_) (a' := ?_) #[true, true, true, true, true, true, true, true, true, true, true] rfl rfl (any_of HT_.out (by kernel_rfl)) (fun _ _ _ h => h) (Or.inl ⟨by rfl, ?_⟩) ?_ ?_
    rotate_left
    · intro w'
      go_simp
      with_reducible rfl
    rotate_left
    · simp only [Act.put, List.setIfInBounds_toArray, List.set_cons_zero, List.set_cons_succ, i64_w, i32_w]
      rfl
    refine done_ (done_of HT_.out (by kernel_rfl)) ?_
    have H9 := Aside0.mk (H.out.below (w' := w.drew) (below_drew (Below.refl _ _)))
    have HB9 := Aside0.mk (show Below w.heap.size w w.drew from below_drew (Below.refl _ _))
    generalize w.drew = w9 at *
    go_wp2_with fail
    go_ret
    rw [HR2.out]
    exact ⟨rfl, ⟨_, _, H9.out⟩, Fr.ofBelow HB9.out⟩
  | some q =>
    have HNA := Aside0.mk hna
    obtain ⟨i, f, hfi, hff, hfn, hne, hq, hL⟩ := spot_ad H.out hna
    have HFI := Aside0.mk (And.intro hff (And.intro hfn (And.intro hq hL)))
    have HR2 : Aside0 (r = (0, (s.setName i nameless).add ⟨4, n, nameless, 0, i, []⟩)) := ⟨by rw [← HR.out]; unfold DS.remove; rw [hfi]⟩
    clear hna HR hfi hff hfn hne hq hL
    go_enter Try.func42, Try.ntmps42
    go_upto_region 1 with fail
    refine start_ (n := 11) (S := fun w' => w'.cell? ⟨g0, 0, none⟩ = some (ptrV g) ∧ w'.cell? ⟨g1, 0, none⟩ = some (.string n) ∧ w'.cell? ⟨g, 2, none⟩ = some (.map (some nb))) (ds := []) #[false, false, false, false, false, false, false, false, false, false, false] (by kernel_rfl) rfl rfl ⟨c0, c1, y2⟩ (fun hHeld => ?_)
    refine with_tabW F42Rtab1 F42Rbits1 (fun HT_ HW_ => ?_)
    refine take_ (i := 0) (N := some 6) (v := ?_) (a' := ?_) #[true, false, false, false, false, false, false, false, false, false, false] rfl rfl (take_ofW HT_.out HW_.out (by kernel_rfl)) (fun _ _ _ h => h) (Or.inl ⟨by rfl, ?_⟩) hHeld ?_ ?_
    rotate_left
    · rintro w' ⟨s0, s1, s2⟩
      go_simp
      with_reducible rfl
    rotate_left
    · simp only [Act.put, List.setIfInBounds_toArray, List.set_cons_zero, List.set_cons_succ, i64_w, i32_w]
      rfl
    refine pure_ (i := 1) (N := some 7) (v := ?_) (a' := ?_) #[true, true, false, false, false, false, false, false, false, false, false] rfl rfl (any_of HT_.out (by kernel_rfl)) (fun _ _ _ h => h) (Or.inl ⟨by rfl, ?_⟩) ?_ ?_
    rotate_left
    · intro w'
      go_simp
      with_reducible rfl
    rotate_left
    · simp only [Act.put, List.setIfInBounds_toArray, List.set_cons_zero, List.set_cons_succ, i64_w, i32_w]
      rfl
    refine pure_ (i := 2) (N := some 8) (v := ?_) (a' := ?_) #[true, true, true, false, false, false, false, false, false, false, false] rfl rfl (any_of HT_.out (by kernel_rfl)) (fun _ _ _ h => h) (Or.inl ⟨by rfl, ?_⟩) ?_ ?_
    rotate_left
    · intro w'
      go_simp
      with_reducible rfl
    rotate_left
    · simp only [Act.put, List.setIfInBounds_toArray, List.set_cons_zero, List.set_cons_succ, i64_w, i32_w]
      rfl
    refine take_ (i := 3) (N := some 9) (v := ?_) (a' := ?_) #[true, true, true, true, false, false, false, false, false, false, false] rfl rfl (take_ofW HT_.out HW_.out (by kernel_rfl)) (fun _ _ _ h => h) (Or.inl ⟨by rfl, ?_⟩) hHeld ?_ ?_
    rotate_left
    · rintro w' ⟨s0, s1, s2⟩
      go_simp
      with_reducible rfl
    rotate_left
    · simp only [Act.put, List.setIfInBounds_toArray, List.set_cons_zero, List.set_cons_succ, i64_w, i32_w]
      rfl
    refine take_ (i := 4) (N := some 10) (v := ?_) (a' := ?_) #[true, true, true, true, true, false, false, false, false, false, false] rfl rfl (take_ofW HT_.out HW_.out (by kernel_rfl)) (fun _ _ _ h => h) (Or.inl ⟨by rfl, ?_⟩) hHeld ?_ ?_
    rotate_left
    · rintro w' ⟨s0, s1, s2⟩
      go_simp
      with_reducible rfl
    rotate_left
    · simp only [Act.put, List.setIfInBounds_toArray, List.set_cons_zero, List.set_cons_succ, i64_w, i32_w]
      rfl
    refine one_ (i := 5) (N := some 11) #[true, true, true, true, true, true, false, false, false, false, false] rfl rfl (one_of HT_.out (by kernel_rfl)) (by decide) (fun K hK => ?_)
    refine value_ (w1 := w.drew) (v := .tuple #[ptrV q, .bool true]) (by rfl) rfl ?hr ?_
    case hr =>
      have hd := look_run HO.out.drew HD.out HS.out
      rw [HNA.out] at hd
      exact look_exec rfl rfl rfl hd
    refine hK.out _ _ ⟨c0, c1, y2⟩ (fun hHeld => ?_)
    clear hK K
    refine norm_ (a' := ?_) ?_ ?_
    rotate_left
    · show Act.put _ (some 11) _ = _
      simp only [Act.put, List.setIfInBounds_toArray, List.set_cons_zero, List.set_cons_succ, i64_w, i32_w]
      rfl
    refine pure_ (i := 6) (N := some 5) (v := ?_) (a' := ?_) #[true, true, true, true, true, true, true, false, false, false, false] rfl rfl (any_of HT_.out (by kernel_rfl)) (fun _ _ _ h => h) (Or.inl ⟨by rfl, ?_⟩) ?_ ?_
    rotate_left
    · intro w'
      go_simp
      with_reducible rfl
    rotate_left
    · simp only [Act.put, List.setIfInBounds_toArray, List.set_cons_zero, List.set_cons_succ, i64_w, i32_w]
      rfl
    refine pure_ (i := 7) (N := some 12) (v := ?_) (a' := ?_) #[true, true, true, true, true, true, true, true, false, false, false] rfl rfl (any_of HT_.out (by kernel_rfl)) (fun _ _ _ h => h) (Or.inl ⟨by rfl, ?_⟩) ?_ ?_
    rotate_left
    · intro w'
      go_simp
      with_reducible rfl
    rotate_left
    · simp only [Act.put, List.setIfInBounds_toArray, List.set_cons_zero, List.set_cons_succ, i64_w, i32_w]
      rfl
    refine pure_ (i := 8) (N := some 13) (v := ?_) (a' := ?_) #[true, true, true, true, true, true, true, true, true, false, false] rfl rfl (any_of HT_.out (by kernel_rfl)) (fun _ _ _ h => h) (Or.inl ⟨by rfl, ?_⟩) ?_ ?_
    rotate_left
    · intro w'
      go_simp
      with_reducible rfl
    rotate_left
    · simp only [Act.put, List.setIfInBounds_toArray, List.set_cons_zero, List.set_cons_succ, i64_w, i32_w]
      rfl
    refine pure_ (i := 9) (N := some 3) (v := ?_) (a' := ?_) #[true, true, true, true, true, true, true, true, true, true, false] rfl rfl (any_of HT_.out (by kernel_rfl)) (fun _ _ _ h => h) (Or.inl ⟨by rfl, ?_⟩) ?_ ?_
    rotate_left
    · intro w'
      go_simp
      with_reducible rfl
    rotate_left
    · simp only [Act.put, List.setIfInBounds_toArray, List.set_cons_zero, List.set_cons_succ, i64_w, i32_w]
      rfl
    refine pure_ (i := 10) (N := some 4) (v := ?_) (a' := ?_) #[true, true, true, true, true, true, true, true, true, true, true] rfl rfl (any_of HT_.out (by kernel_rfl)) (fun _ _ _ h => h) (Or.inl ⟨by rfl, ?_⟩) ?_ ?_
    rotate_left
    · intro w'
      go_simp
      with_reducible rfl
    rotate_left
    · simp only [Act.put, List.setIfInBounds_toArray, List.set_cons_zero, List.set_cons_succ, i64_w, i32_w]
      rfl
    refine done_ (done_of HT_.out (by kernel_rfl)) ?_
    have H2 := Aside0.mk (H.out.below (w' := w.drew) (below_drew (Below.refl _ _)))
    have HB2 := Aside0.mk (show Below w.heap.size w w.drew from below_drew (Below.refl _ _))
    have HO2 := Aside0.mk HO.out.drew
    have H02 := Aside0.mk (blk_drew H0.out)
    have H12 := Aside0.mk (blk_drew H1.out)
    generalize w.drew = w2 at *
    clear c0 c1 y2 H0 H1 H HO
    have c0 : w2.cell? ⟨g0, 0, none⟩ = some (ptrV g) := (blk_cell H02.out 0).trans rfl
    have c1 : w2.cell? ⟨g1, 0, none⟩ = some (.string n) := (blk_cell H12.out 0).trans rfl
    have y2 : w2.cell? ⟨g, 2, none⟩ = some (.map (some nb)) := (blk_cell H2.out.blk 2).trans rfl
    have hgs2 := blk_lt H2.out.blk
    go_upto_region 4 with fail
    obtain ⟨w4, hrun4, hown4, hturn4⟩ := HO2.out.drew.drop keyLaw Try.underlying65 (key_of HS.out) 0
    have HRUN := Aside0.mk hrun4
    have HOW := Aside0.mk (And.intro hown4 hturn4)
    have hS4 : Stay (fun _ => True) w2.drew w4 := Stay.of_turned hturn4 _
    have H04 := Aside0.mk ((hS4 g0 _ 22 trivial (blk_drew H02.out)).trans (blk_drew H02.out))
    have H14 := Aside0.mk ((hS4 g1 _ 9 trivial (blk_drew H12.out)).trans (blk_drew H12.out))
    have H4 := Aside0.mk ((H2.out.below (w' := w2.drew) (below_drew (Below.refl _ _))).unname HI.out.nmU (not_nameless HN.out) HFI.out.2.2.2 (HO2.out.tidy keyLaw) HD.out hown4 hturn4)
    have HFr9 := Aside0.mk (((Fr.ofBelow (HB2.out.drew) : Fr ok w w2.drew).grown hturn4.grown (fun k e _ => by injection e with e; subst e; exact H2.out.okn.1)) : Fr ok w w4)
    clear hrun4 hown4 hturn4 hS4
    refine start_ (n := 6) (S := fun w' => w'.cell? ⟨g0, 0, none⟩ = some (ptrV g) ∧ w'.cell? ⟨g1, 0, none⟩ = some (.string n) ∧ w'.cell? ⟨g, 2, none⟩ = some (.map (some nb))) (ds := []) #[false, false, false, false, false, false] (by kernel_rfl) rfl rfl ⟨c0, c1, y2⟩ (fun hHeld => ?_)
    refine with_tabW F42Rtab4 F42Rbits4 (fun HT_ HW_ => ?_)
    refine take_ (i := 0) (N := some 16) (v := ?_) (a' := ?_) #[true, false, false, false, false, false] rfl rfl (take_ofW HT_.out HW_.out (by kernel_rfl)) (fun _ _ _ h => h) (Or.inl ⟨by rfl, ?_⟩) hHeld ?_ ?_
    rotate_left
    · rintro w' ⟨s0, s1, s2⟩
      go_simp
      with_reducible rfl
    rotate_left
    · simp only [Act.put, List.setIfInBounds_toArray, List.set_cons_zero, List.set_cons_succ, i64_w, i32_w]
      rfl
    refine pure_ (i := 1) (N := some 17) (v := ?_) (a' := ?_) #[true, true, false, false, false, false] rfl rfl (any_of HT_.out (by kernel_rfl)) (fun _ _ _ h => h) (Or.inl ⟨by rfl, ?_⟩) ?_ ?_
    rotate_left
    · intro w'
      go_simp
      with_reducible rfl
    rotate_left
    · simp only [Act.put, List.setIfInBounds_toArray, List.set_cons_zero, List.set_cons_succ, i64_w, i32_w]
      rfl
    refine pure_ (i := 2) (N := some 18) (v := ?_) (a' := ?_) #[true, true, true, false, false, false] rfl rfl (any_of HT_.out (by kernel_rfl)) (fun _ _ _ h => h) (Or.inl ⟨by rfl, ?_⟩) ?_ ?_
    rotate_left
    · intro w'
      go_simp
      with_reducible rfl
    rotate_left
    · simp only [Act.put, List.setIfInBounds_toArray, List.set_cons_zero, List.set_cons_succ, i64_w, i32_w]
      rfl
    refine take_ (i := 3) (N := some 19) (v := ?_) (a' := ?_) #[true, true, true, true, false, false] rfl rfl (take_ofW HT_.out HW_.out (by kernel_rfl)) (fun _ _ _ h => h) (Or.inl ⟨by rfl, ?_⟩) hHeld ?_ ?_
    rotate_left
    · rintro w' ⟨s0, s1, s2⟩
      go_simp
      with_reducible rfl
    rotate_left
    · simp only [Act.put, List.setIfInBounds_toArray, List.set_cons_zero, List.set_cons_succ, i64_w, i32_w]
      rfl
    refine take_ (i := 4) (N := some 20) (v := ?_) (a' := ?_) #[true, true, true, true, true, false] rfl rfl (take_ofW HT_.out HW_.out (by kernel_rfl)) (fun _ _ _ h => h) (Or.inl ⟨by rfl, ?_⟩) hHeld ?_ ?_
    rotate_left
    · rintro w' ⟨s0, s1, s2⟩
      go_simp
      with_reducible rfl
    rotate_left
    · simp only [Act.put, List.setIfInBounds_toArray, List.set_cons_zero, List.set_cons_succ, i64_w, i32_w]
      rfl
    refine one_ (i := 5) (N := none) #[true, true, true, true, true, true] rfl rfl (one_of HT_.out (by kernel_rfl)) (by decide) (fun K hK => ?_)
    refine value_ (w1 := w4) (v := .tuple #[]) (by rfl) rfl ?hr ?_
    case hr => exact del_exec rfl rfl rfl HRUN.out
    refine hK.out _ _ ⟨(blk_cell H04.out 0).trans rfl, (blk_cell H14.out 0).trans rfl, (blk_cell H4.out.blk 2).trans rfl⟩ (fun hHeld => ?_)
    clear hK K
    refine done_ (done_of HT_.out (by kernel_rfl)) ?_
    clear c0 c1 y2 hgs2 H2 HB2 HO2 H02 H12 HRUN HOW
    have H9 := H4
    have c0 : w4.cell? ⟨g0, 0, none⟩ = some (ptrV g) := (blk_cell H04.out 0).trans rfl
    have c1 : w4.cell? ⟨g1, 0, none⟩ = some (.string n) := (blk_cell H14.out 0).trans rfl
    have g4 : w4.cell? ⟨g, 4, none⟩ = some v := (blk_cell H9.out.blk 4).trans rfl
    have lg9 := blk_lt H9.out.blk
    go_upto_region 5 with fail
    refine start_ (n := 14) (S := fun w' => w'.cell? ⟨g0, 0, none⟩ = some (ptrV g) ∧ w'.cell? ⟨g1, 0, none⟩ = some (.string n) ∧ w'.cell? ⟨g, 4, none⟩ = some v) (ds := [13]) #[false, false, false, false, false, false, false, false, false, false, false, false, false, false] (by kernel_rfl) rfl rfl ⟨c0, c1, g4⟩ (fun hHeld => ?_)
    refine with_tabW F42Rtab5 F42Rbits5 (fun HT_ HW_ => ?_)
    refine pure_ (i := 7) (N := some 28) (v := ?_) (a' := ?_) #[false, false, false, false, false, false, false, true, false, false, false, false, false, false] rfl rfl (any_of HT_.out (by kernel_rfl)) (fun _ _ _ h => h) (Or.inl ⟨by rfl, ?_⟩) ?_ ?_
    rotate_left
    · intro w'
      go_simp
      with_reducible rfl
    rotate_left
    · simp only [Act.put, List.setIfInBounds_toArray, List.set_cons_zero, List.set_cons_succ, i64_w, i32_w]
      rfl
    refine take_ (i := 0) (N := some 21) (v := ?_) (a' := ?_) #[true, false, false, false, false, false, false, true, false, false, false, false, false, false] rfl rfl (take_ofW HT_.out HW_.out (by kernel_rfl)) (fun _ _ _ h => h) (Or.inl ⟨by rfl, ?_⟩) hHeld ?_ ?_
    rotate_left
    · rintro w' ⟨s0, s1, s2⟩
      go_simp
      with_reducible rfl
    rotate_left
    · simp only [Act.put, List.setIfInBounds_toArray, List.set_cons_zero, List.set_cons_succ, i64_w, i32_w]
      rfl
    refine take_ (i := 1) (N := some 22) (v := ?_) (a' := ?_) #[true, true, false, false, false, false, false, true, false, false, false, false, false, false] rfl rfl (take_ofW HT_.out HW_.out (by kernel_rfl)) (fun _ _ _ h => h) (Or.inl ⟨by rfl, ?_⟩) hHeld ?_ ?_
    rotate_left
    · rintro w' ⟨s0, s1, s2⟩
      go_simp
      with_reducible rfl
    rotate_left
    · simp only [Act.put, List.setIfInBounds_toArray, List.set_cons_zero, List.set_cons_succ, i64_w, i32_w]
      rfl
    refine pure_ (i := 2) (N := some 23) (v := ?_) (a' := ?_) #[true, true, true, false, false, false, false, true, false, false, false, false, false, false] rfl rfl (any_of HT_.out (by kernel_rfl)) (fun _ _ _ h => h) (Or.inl ⟨by rfl, ?_⟩) ?_ ?_
    rotate_left
    · intro w'
      go_simp
      with_reducible rfl
    rotate_left
    · simp only [Act.put, List.setIfInBounds_toArray, List.set_cons_zero, List.set_cons_succ, i64_w, i32_w]
      rfl
    refine pure_ (i := 3) (N := some 24) (v := ?_) (a' := ?_) #[true, true, true, true, false, false, false, true, false, false, false, false, false, false] rfl rfl (any_of HT_.out (by kernel_rfl)) (fun _ _ _ h => h) (Or.inl ⟨by rfl, ?_⟩) ?_ ?_
    rotate_left
    · intro w'
      go_simp
      with_reducible rfl
    rotate_left
    · simp only [Act.put, List.setIfInBounds_toArray, List.set_cons_zero, List.set_cons_succ, i64_w, i32_w]
      rfl
    refine take_ (i := 4) (N := some 25) (v := ?_) (a' := ?_) #[true, true, true, true, true, false, false, true, false, false, false, false, false, false] rfl rfl (take_ofW HT_.out HW_.out (by kernel_rfl)) (fun _ _ _ h => h) (Or.inl ⟨by rfl, ?_⟩) hHeld ?_ ?_
    rotate_left
    · rintro w' ⟨s0, s1, s2⟩
      go_simp
      with_reducible rfl
    rotate_left
    · simp only [Act.put, List.setIfInBounds_toArray, List.set_cons_zero, List.set_cons_succ, i64_w, i32_w]
      rfl
    refine take_ (i := 5) (N := some 26) (v := ?_) (a' := ?_) #[true, true, true, true, true, true, false, true, false, false, false, false, false, false] rfl rfl (take_ofW HT_.out HW_.out (by kernel_rfl)) (fun _ _ _ h => h) (Or.inl ⟨by rfl, ?_⟩) hHeld ?_ ?_
    rotate_left
    · rintro w' ⟨s0, s1, s2⟩
      go_simp
      with_reducible rfl
    rotate_left
    · simp only [Act.put, List.setIfInBounds_toArray, List.set_cons_zero, List.set_cons_succ, i64_w, i32_w]
      rfl
    refine pure_ (i := 6) (N := some 27) (v := ?_) (a' := ?_) #[true, true, true, true, true, true, true, true, false, false, false, false, false, false] rfl rfl (any_of HT_.out (by kernel_rfl)) (fun _ _ _ h => h) (Or.inl ⟨by rfl, ?_⟩) ?_ ?_
    rotate_left
    · intro w'
      go_simp
      with_reducible rfl
    rotate_left
    · simp only [Act.put, List.setIfInBounds_toArray, List.set_cons_zero, List.set_cons_succ, i64_w, i32_w]
      rfl
    refine pure_ (i := 8) (N := some 29) (v := ?_) (a' := ?_) #[true, true, true, true, true, true, true, true, true, false, false, false, false, false] rfl rfl (any_of HT_.out (by kernel_rfl)) (fun _ _ _ h => h) (Or.inl ⟨by rfl, ?_⟩) ?_ ?_
    rotate_left
    · intro w'
      go_simp
      with_reducible rfl
    rotate_left
    · simp only [Act.put, List.setIfInBounds_toArray, List.set_cons_zero, List.set_cons_succ, i64_w, i32_w]
      rfl
    refine one_ (i := 9) (N := some 30) #[true, true, true, true, true, true, true, true, true, true, false, false, false, false] rfl rfl (one_of HT_.out (by kernel_rfl)) (by decide) (fun K hK => ?_)
    refine value_ (w1 := ?_) (v := ?_) (by rfl) rfl ?_ ?_
    rotate_left 2
    · go_simp
      constructor
      · rfl
      · rfl
    refine hK.out _ _ ⟨(blk_cell (blk_alloc H04.out _) 0).trans rfl, (blk_cell (blk_alloc H14.out _) 0).trans rfl, (blk_cell (blk_alloc H9.out.blk _) 4).trans rfl⟩ (fun hHeld => ?_)
    clear hK K
    refine norm_ (a' := ?_) ?_ ?_
    rotate_left
    · show Act.put _ (some 30) _ = _
      simp only [Act.put, List.setIfInBounds_toArray, List.set_cons_zero, List.set_cons_succ, i64_w, i32_w]
      rfl
    refine one_ (i := 10) (N := some 31) #[true, true, true, true, true, true, true, true, true, true, true, false, false, false] rfl rfl (one_of HT_.out (by kernel_rfl)) (by decide) (fun K hK => ?_)
    refine Kd.R_append_step workK (W := w4.drew) (w0 := w4.drew) base (by rfl) (.tmp 25) (.tmp 30) 66 76 (.agg #[.int .i64 0, .string ⟨#[]⟩, .string ⟨#[]⟩, .int .i64 0, .pointer none, .slice none 0 0]) 80 rfl Try.underlying66 info76 rfl (by decide) (by decide) v ((s.setName i nameless).works.map (mwOf ad)) (⟨4, n, ⟨#[]⟩, 0, q, []⟩ : MW) [.int .i64 4, .string n, .string ⟨#[]⟩, .int .i64 0, ptrV q, .slice none 0 0] ok (fun _ => False) rfl rfl ?aP (fun _ hk => hk.elim) ?aF ?aO ?aB ?aS ?aL ?_
    (case aP => exact workK_mkM _ _ _ _ (Kd.R_nil _ _ _ _ _))
    (case aF => exact fun k hk => HF.out k (Nat.le_trans HFr9.out.size hk))
    (case aO => exact Kd.R_drew H9.out.wks)
    (case aB => exact (Below.refl _ _).mono (Nat.le_trans H9.out.okg.2 (Nat.le_of_lt lg9)))
    (case aS => exact Nat.le_trans H9.out.okg.2 (Nat.le_of_lt lg9))
    (case aL => rw [List.length_map]; have h1 := HI.out.lw; have h2 := HT.out; show (s.works.length + 1) * 80 ≤ 140737488355328; omega)
    intro v10 w10 ho hb hg hat
    have hg' : w4.grownBy w10 v.ownBlock := ⟨hg.os, hg.tape, hg.output, hg.size, hg.block⟩
    have hB10 := H9.out.rowB hg'
    have h0w := blk_grown H04.out hg' (Kd.R_ne H9.out.wks H04.out (by decide))
    have h1w := blk_grown H14.out hg' (Kd.R_ne H9.out.wks H14.out (by decide))
    have fg10 := blk_frozen hB10 4
    have lg10 := blk_lt hB10
    have HO10 := Aside0.mk ho
    have HG10 := Aside0.mk hg'
    obtain ⟨A10, c10, hv10⟩ := Kd.R_slice HO10.out
    generalize hl10 : ((s.setName i nameless).works.map (mwOf ad) ++ [(⟨4, n, ⟨#[]⟩, 0, q, []⟩ : MW)]).length = l10 at hv10
    clear ho hb hg hat hl10 hg'
    subst hv10
    refine hK.out _ _ ⟨(blk_cell h0w 0).trans rfl, (blk_cell h1w 0).trans rfl, (blk_cell hB10 4).trans rfl⟩ (fun hHeld => ?_)
    clear hK K
    refine norm_ (a' := ?_) ?_ ?_
    rotate_left
    · show Act.put _ (some 31) _ = _
      simp only [Act.put, List.setIfInBounds_toArray, List.set_cons_zero, List.set_cons_succ, i64_w, i32_w]
      rfl
    refine pure_ (i := 11) (N := some 32) (v := ?_) (a' := ?_) #[true, true, true, true, true, true, true, true, true, true, true, true, false, false] rfl rfl (any_of HT_.out (by kernel_rfl)) (fun _ _ _ h => h) (Or.inl ⟨by rfl, ?_⟩) ?_ ?_
    rotate_left
    · intro w'
      go_simp
      with_reducible rfl
    rotate_left
    · simp only [Act.put, List.setIfInBounds_toArray, List.set_cons_zero, List.set_cons_succ, i64_w, i32_w]
      rfl
    refine pure_ (i := 12) (N := some 33) (v := ?_) (a' := ?_) #[true, true, true, true, true, true, true, true, true, true, true, true, true, false] rfl rfl (any_of HT_.out (by kernel_rfl)) (fun _ _ _ h => h) (Or.inl ⟨by rfl, ?_⟩) ?_ ?_
    rotate_left
    · intro w'
      go_simp
      with_reducible rfl
    rotate_left
    · simp only [Act.put, List.setIfInBounds_toArray, List.set_cons_zero, List.set_cons_succ, i64_w, i32_w]
      rfl
    refine last_ (i := 13) (N := none) #[true, true, true, true, true, true, true, true, true, true, true, true, true, true] rfl rfl (one_of HT_.out (by kernel_rfl)) (by decide) (fun K hK => ?_)
    refine skip_ (w1 := ?_) (by rfl) rfl ?_ ?_
    rotate_left
    · go_simp
      rfl
    refine hK.out _ _ ?_
    clear hK K
    refine done_ (done_of HT_.out (by kernel_rfl)) ?_
    go_wp2_with fail
    go_ret
    have e10 : mwOf ad (⟨4, n, nameless, 0, i, []⟩ : PW) = (⟨4, n, ⟨#[]⟩, 0, q, []⟩ : MW) := mw_at HFI.out.2.2.1 _ _ _ _ _
    rw [HR2.out]
    refine ⟨rfl, ⟨_, _, H9.out.row (ws := (s.setName i nameless).works ++ [⟨4, n, nameless, 0, i, []⟩]) (by rw [List.map_append, List.map_cons, List.map_nil, e10]; exact HO10.out) HG10.out rfl⟩, ?_⟩
    exact Fr.setCell (p := ⟨g, 4, none⟩) (HFr9.out.grown HG10.out (fun k e _ => H9.out.wks.1 k e)) (fun _ => H9.out.okg.1) _
end
end Go.Proofs.Ytnegcjgolaakcaa

/- Rename. -/
namespace Go.Proofs.Ytnegcjgolaakcaa
open Go.RowKit Go.Maps
open Go.Proofs.YtnegcjgolaakcaaW.PrintWords Go.Proofs.YtnegcjgolaakcaaW.PrintLast Go.Proofs.YtnegcjgolaakcaaW.PrintMore
set_option linter.unusedVariables false
set_option linter.unusedSimpArgs false
section
variable {w w' : World} {g : Nat} {s s' : DS} {base : Nat} {ok : Nat → Prop} {nb fb : Nat} {v v1 : Value} {ad ad' : List Nat} {T : Nat}
theorem idx_cleared {L : List ByteArray} (h : UL L) {i : Nat} {a b : ByteArray} (hi : L[i]? = some a) (hab : ¬ a = b) (hb : b ≠ nameless) : idxL (L.set i nameless) b = idxL L b := by
  have hil := (List.getElem?_eq_some_iff.1 hi).1
  cases hf : idxL L b with
  | none =>
    rw [idxL_none] at hf ⊢
    intro hm
    obtain ⟨j, hj⟩ := List.mem_iff_getElem?.1 hm
    rw [List.getElem?_set] at hj
    by_cases hij : i = j
    · rw [if_pos hij, if_pos hil] at hj
      exact hb (Option.some.inj hj).symm
    · rw [if_neg hij] at hj
      exact hf (List.mem_of_getElem? hj)
  | some j =>
    have hj := idxL_some hf
    refine idxL_of (UL_set h i nameless (.inl rfl)) ?_ hb
    rw [List.getElem?_set, if_neg]
    · exact hj
    · rintro rfl
      rw [hi] at hj
      exact hab (Option.some.inj hj)
theorem give_cleared {s : DS} (h : UL s.nmL) {i : Nat} {a b : ByteArray} (hi : s.nmL[i]? = some a) (hab : ¬ a = b) (hb : b ≠ nameless) : (s.setName i nameless).give i b = s.give i b := by
  unfold DS.give
  have e : (s.setName i nameless).find b = s.find b := by rw [DS.find_L, DS.find_L, DS.setName_nm, idx_cleared h hi hab hb]
  rw [e]
  have hx : ∀ (fs : List PF) (i : Nat) (x y : ByteArray), (fs.modify i (fun f => { f with name := x })).modify i (fun f => { f with name := y }) = fs.modify i (fun f => { f with name := y }) := fun fs i x y => by
    apply List.ext_getElem?
    intro k
    rw [List.getElem?_modify, List.getElem?_modify, List.getElem?_modify]
    by_cases hk : i = k
    · cases fs[k]? <;> simp [hk]
    · simp [hk]
  have hc : ∀ (fs : List PF) (i j : Nat) (x : ByteArray), (fs.modify i (fun f => { f with name := x })).modify j (fun f => { f with name := x }) = (fs.modify j (fun f => { f with name := x })).modify i (fun f => { f with name := x }) := fun fs i j x => by
    apply List.ext_getElem?
    intro k
    rw [List.getElem?_modify, List.getElem?_modify, List.getElem?_modify, List.getElem?_modify]
    by_cases hk : i = k <;> by_cases hk2 : j = k <;> cases fs[k]? <;> simp [hk, hk2]
  cases s.find b with
  | none =>
    show DS.setName (DS.setName s i nameless) i b = DS.setName s i b
    unfold DS.setName
    simp only [hx]
  | some j =>
    show DS.setName (DS.setName (DS.setName s i nameless) j nameless) i b = DS.setName (DS.setName s j nameless) i b
    unfold DS.setName
    simp only [hc, hx]
    rw [hc, hx]
def F41RT1 : Bool × List (List Nat × List Nat) := (true, [([], []), ([0], [0]), ([1], [1]), ([2], [2]), ([], []), ([3, 4], [3, 4]), ([5], [5]), ([6], [6]), ([6], [6]), ([7, 0, 1, 2, 3, 4, 5, 6, 7], [7]), ([8, 9, 0, 1, 2, 3, 4, 5, 6, 7, 8, 9], [8])])
def F41RB1 : List Nat := [0, 1, 3, 7, 0, 31, 63, 127, 127, 255, 1023]
theorem F41Rtab1 : rtab .any (opsOf Try.f41 1) = F41RT1 := by kernel_rfl
theorem F41Rbits1 : waitsOk F41RT1.2 F41RB1 = true := by kernel_rfl
def F41RT6 : Bool × List (List Nat × List Nat) := (true, [([], []), ([0], [0]), ([1], [1]), ([2], [2]), ([], []), ([3, 4], [3, 4])])
def F41RB6 : List Nat := [0, 1, 3, 7, 0, 31]
theorem F41Rtab6 : rtab .any (opsOf Try.f41 6) = F41RT6 := by kernel_rfl
theorem F41Rbits6 : waitsOk F41RT6.2 F41RB6 = true := by kernel_rfl
def F41RT7 : Bool × List (List Nat × List Nat) := (true, [([], []), ([0], [0]), ([1], [1]), ([2], [2]), ([], []), ([], []), ([3, 4, 5, 0, 1, 2, 3, 4, 5], [3, 4, 5])])
def F41RB7 : List Nat := [0, 1, 3, 7, 0, 0, 63]
theorem F41Rtab7 : rtab .any (opsOf Try.f41 7) = F41RT7 := by kernel_rfl
theorem F41Rbits7 : waitsOk F41RT7.2 F41RB7 = true := by kernel_rfl
def F41RT8 : Bool × List (List Nat × List Nat) := (true, [([], []), ([], []), ([1], [1]), ([2], [2]), ([3], [3]), ([], []), ([], []), ([5, 6], [5, 6]), ([], []), ([7, 8], [7, 8]), ([9], [9]), ([4, 10], [4, 10]), ([0, 0, 1, 2, 3, 4, 5, 6, 7, 8, 9, 10, 11], [0]), ([12, 0, 1, 2, 3, 4, 5, 6, 7, 8, 9, 10, 11], [12]), ([13, 11, 11, 0, 1, 2, 3, 4, 5, 6, 7, 8, 9, 10, 11], [11, 13])])
def F41RB8 : List Nat := [0, 0, 2, 6, 14, 0, 0, 96, 0, 480, 992, 2046, 4095, 8191, 16383]
theorem F41Rtab8 : rtab .any (opsOf Try.f41 8) = F41RT8 := by kernel_rfl
theorem F41Rbits8 : waitsOk F41RT8.2 F41RB8 = true := by kernel_rfl
set_option maxHeartbeats 4000000 in
set_option maxRecDepth 100000 in
theorem rename_do {g0 g1 g2 : Nat} (n m : ByteArray) (h0 : IsB w g0 #[ptrV g] 22) (h1 : IsB w g1 #[.string n] 9) (h2 : IsB w g2 #[.string m] 9) (h : DiskAt w g s base ok nb fb v ad) (hI : s.Inv T) (hT : T ≤ 1073741824) (hfresh : ∀ k, w.heap.size ≤ k → ok k)
    (hn : namedV n = true) (hs : n.size ≤ maxLen) (hm : namedV m = true) (hms : m.size ≤ maxLen) :
    Calls Try.prog 41 #[ptrV g0, ptrV g1, ptrV g2] w (DiskPost w g base ok nb fb (s.rename n m)) := by
  obtain ⟨D, hown, hD⟩ := h.nms.open
  have c0 : w.cell? ⟨g0, 0, none⟩ = some (ptrV g) := (blk_cell h0 0).trans rfl
  have c1 : w.cell? ⟨g1, 0, none⟩ = some (.string n) := (blk_cell h1 0).trans rfl
  have c2 : w.cell? ⟨g2, 0, none⟩ = some (.string m) := (blk_cell h2 0).trans rfl
  have y2 : w.cell? ⟨g, 2, none⟩ = some (.map (some nb)) := (blk_cell h.blk 2).trans rfl
  have hgs := blk_lt h.blk
  have HO := Aside0.mk hown
  have HD := Aside0.mk hD
  have HS := Aside0.mk hs
  have HMS := Aside0.mk hms
  have H0 := Aside0.mk h0
  have H1 := Aside0.mk h1
  have H2' := Aside0.mk h2
  have H := Aside0.mk h
  have HI := Aside0.mk hI
  have HT := Aside0.mk hT
  have HF := Aside0.mk hfresh
  have HN := Aside0.mk hn
  have HM := Aside0.mk hm
  generalize hr : s.rename n m = r
  have HR := Aside0.mk hr
  clear h0 h1 h2 hown hD h hI hT hfresh hn hs hm hms hr
  cases hna : s.nameAt ad n with
  | none =>
    have HNA := Aside0.mk hna
    have HR2 : Aside0 (r = (60, s)) := ⟨by rw [← HR.out]; unfold DS.rename; rw [find_none H.out (not_nameless HN.out) hna]⟩
    clear hna HR
    go_enter Try.func41, Try.ntmps41
    go_upto_region 1 with fail
    refine start_ (n := 11) (S := fun w' => w'.cell? ⟨g0, 0, none⟩ = some (ptrV g) ∧ w'.cell? ⟨g1, 0, none⟩ = some (.string n) ∧ w'.cell? ⟨g, 2, none⟩ = some (.map (some nb))) (ds := []) #[false, false, false, false, false, false, false, false, false, false, false] (by kernel_rfl) rfl rfl ⟨c0, c1, y2⟩ (fun hHeld => ?_)
    refine with_tabW F41Rtab1 F41Rbits1 (fun HT_ HW_ => ?_)
    refine take_ (i := 0) (N := some 7) (v := ?_) (a' := ?_) #[true, false, false, false, false, false, false, false, false, false, false] rfl rfl (take_ofW HT_.out HW_.out (by kernel_rfl)) (fun _ _ _ h => h) (Or.inl ⟨by rfl, ?_⟩) hHeld ?_ ?_
    rotate_left
    · rintro w' ⟨s0, s1, s2⟩
      go_simp
      with_reducible rfl
    rotate_left
    · simp only [Act.put, List.setIfInBounds_toArray, List.set_cons_zero, List.set_cons_succ, i64_w, i32_w]
      rfl
    refine pure_ (i := 1) (N := some 8) (v := ?_) (a' := ?_) #[true, true, false, false, false, false, false, false, false, false, false] rfl rfl (any_of HT_.out (by kernel_rfl)) (fun _ _ _ h => h) (Or.inl ⟨by rfl, ?_⟩) ?_ ?_
    rotate_left
    · intro w'
      go_simp
      with_reducible rfl
    rotate_left
    · simp only [Act.put, List.setIfInBounds_toArray, List.set_cons_zero, List.set_cons_succ, i64_w, i32_w]
      rfl
    refine pure_ (i := 2) (N := some 9) (v := ?_) (a' := ?_) #[true, true, true, false, false, false, false, false, false, false, false] rfl rfl (any_of HT_.out (by kernel_rfl)) (fun _ _ _ h => h) (Or.inl ⟨by rfl, ?_⟩) ?_ ?_
    rotate_left
    · intro w'
      go_simp
      with_reducible rfl
    rotate_left
    · simp only [Act.put, List.setIfInBounds_toArray, List.set_cons_zero, List.set_cons_succ, i64_w, i32_w]
      rfl
    refine take_ (i := 3) (N := some 10) (v := ?_) (a' := ?_) #[true, true, true, true, false, false, false, false, false, false, false] rfl rfl (take_ofW HT_.out HW_.out (by kernel_rfl)) (fun _ _ _ h => h) (Or.inl ⟨by rfl, ?_⟩) hHeld ?_ ?_
    rotate_left
    · rintro w' ⟨s0, s1, s2⟩
      go_simp
      with_reducible rfl
    rotate_left
    · simp only [Act.put, List.setIfInBounds_toArray, List.set_cons_zero, List.set_cons_succ, i64_w, i32_w]
      rfl
    refine take_ (i := 4) (N := some 11) (v := ?_) (a' := ?_) #[true, true, true, true, true, false, false, false, false, false, false] rfl rfl (take_ofW HT_.out HW_.out (by kernel_rfl)) (fun _ _ _ h => h) (Or.inl ⟨by rfl, ?_⟩) hHeld ?_ ?_
    rotate_left
    · rintro w' ⟨s0, s1, s2⟩
      go_simp
      with_reducible rfl
    rotate_left
    · simp only [Act.put, List.setIfInBounds_toArray, List.set_cons_zero, List.set_cons_succ, i64_w, i32_w]
      rfl
    refine one_ (i := 5) (N := some 12) #[true, true, true, true, true, true, false, false, false, false, false] rfl rfl (one_of HT_.out (by kernel_rfl)) (by decide) (fun K hK => ?_)
    refine value_ (w1 := w.drew) (v := .tuple #[.pointer none, .bool false]) (by rfl) rfl ?hr ?_
    case hr =>
      have hd := look_run HO.out.drew HD.out HS.out
      rw [HNA.out] at hd
      exact look_exec rfl rfl rfl hd
    refine hK.out _ _ ⟨c0, c1, y2⟩ (fun hHeld => ?_)
    clear hK K
    refine norm_ (a' := ?_) ?_ ?_
    rotate_left
    · show Act.put _ (some 12) _ = _
      simp only [Act.put, List.setIfInBounds_toArray, List.set_cons_zero, List.set_cons_succ, i64_w, i32_w]
      rfl
    refine pure_ (i := 6) (N := some 6) (v := ?_) (a' := ?_) #[true, true, true, true, true, true, true, false, false, false, false] rfl rfl (any_of HT_.out (by kernel_rfl)) (fun _ _ _ h => h) (Or.inl ⟨by rfl, ?_⟩) ?_ ?_
    rotate_left
    · intro w'
      go_simp
      with_reducible rfl
    rotate_left
    · simp only [Act.put, List.setIfInBounds_toArray, List.set_cons_zero, List.set_cons_succ, i64_w, i32_w]
      rfl
    refine pure_ (i := 7) (N := some 13) (v := ?_) (a' := ?_) #[true, true, true, true, true, true, true, true, false, false, false] rfl rfl (any_of HT_.out (by kernel_rfl)) (fun _ _ _ h => h) (Or.inl ⟨by rfl, ?_⟩) ?_ ?_
    rotate_left
    · intro w'
      go_simp
      with_reducible rfl
    rotate_left
    · simp only [Act.put, List.setIfInBounds_toArray, List.set_cons_zero, List.set_cons_succ, i64_w, i32_w]
      rfl
    refine pure_ (i := 8) (N := some 14) (v := ?_) (a' := ?_) #[true, true, true, true, true, true, true, true, true, false, false] rfl rfl (any_of HT_.out (by kernel_rfl)) (fun _ _ _ h => h) (Or.inl ⟨by rfl, ?_⟩) ?_ ?_
    rotate_left
    · intro w'
      go_simp
      with_reducible rfl
    rotate_left
    · simp only [Act.put, List.setIfInBounds_toArray, List.set_cons_zero, List.set_cons_succ, i64_w, i32_w]
      rfl
    refine pure_ (i := 9) (N := some 4) (v := ?_) (a' := ?_) #[true, true, true, true, true, true, true, true, true, true, false] rfl rfl (any_of HT_.out (by kernel_rfl)) (fun _ _ _ h => h) (Or.inl ⟨by rfl, ?_⟩) ?_ ?_
    rotate_left
    · intro w'
      go_simp
      with_reducible rfl
    rotate_left
    · simp only [Act.put, List.setIfInBounds_toArray, List.set_cons_zero, List.set_cons_succ, i64_w, i32_w]
      rfl
    refine pure_ (i := 10) (N := some 5) (v := ?_) (a' := ?_) #[true, true, true, true, true, true, true, true, true, true, true] rfl rfl (any_of HT_.out (by kernel_rfl)) (fun _ _ _ h => h) (Or.inl ⟨by rfl, ?_⟩) ?_ ?_
    rotate_left
    · intro w'
      go_simp
      with_reducible rfl
    rotate_left
    · simp only [Act.put, List.setIfInBounds_toArray, List.set_cons_zero, List.set_cons_succ, i64_w, i32_w]
      rfl
    refine done_ (done_of HT_.out (by kernel_rfl)) ?_
    have H9 := Aside0.mk (H.out.below (w' := w.drew) (below_drew (Below.refl _ _)))
    have HB9 := Aside0.mk (show Below w.heap.size w w.drew from below_drew (Below.refl _ _))
    generalize w.drew = w9 at *
    go_wp2_with fail
    go_ret
    rw [HR2.out]
    exact ⟨rfl, ⟨_, _, H9.out⟩, Fr.ofBelow HB9.out⟩
  | some q =>
    have HNA := Aside0.mk hna
    obtain ⟨i, f, hfi, hff, hfn, hne, hq, hL⟩ := spot_ad H.out hna
    have HFI := Aside0.mk (And.intro hff (And.intro hfn (And.intro hq hL)))
    have HR1 : Aside0 (r = if n = m then (0, s) else (0, (s.give i m).add ⟨3, n, m, 0, i, []⟩)) := ⟨by rw [← HR.out]; unfold DS.rename; rw [hfi]; rfl⟩
    clear hna HR hfi hff hfn hne hq hL
    go_enter Try.func41, Try.ntmps41
    go_upto_region 1 with fail
    refine start_ (n := 11) (S := fun w' => w'.cell? ⟨g0, 0, none⟩ = some (ptrV g) ∧ w'.cell? ⟨g1, 0, none⟩ = some (.string n) ∧ w'.cell? ⟨g, 2, none⟩ = some (.map (some nb))) (ds := []) #[false, false, false, false, false, false, false, false, false, false, false] (by kernel_rfl) rfl rfl ⟨c0, c1, y2⟩ (fun hHeld => ?_)
    refine with_tabW F41Rtab1 F41Rbits1 (fun HT_ HW_ => ?_)
    refine take_ (i := 0) (N := some 7) (v := ?_) (a' := ?_) #[true, false, false, false, false, false, false, false, false, false, false] rfl rfl (take_ofW HT_.out HW_.out (by kernel_rfl)) (fun _ _ _ h => h) (Or.inl ⟨by rfl, ?_⟩) hHeld ?_ ?_
    rotate_left
    · rintro w' ⟨s0, s1, s2⟩
      go_simp
      with_reducible rfl
    rotate_left
    · simp only [Act.put, List.setIfInBounds_toArray, List.set_cons_zero, List.set_cons_succ, i64_w, i32_w]
      rfl
    refine pure_ (i := 1) (N := some 8) (v := ?_) (a' := ?_) #[true, true, false, false, false, false, false, false, false, false, false] rfl rfl (any_of HT_.out (by kernel_rfl)) (fun _ _ _ h => h) (Or.inl ⟨by rfl, ?_⟩) ?_ ?_
    rotate_left
    · intro w'
      go_simp
      with_reducible rfl
    rotate_left
    · simp only [Act.put, List.setIfInBounds_toArray, List.set_cons_zero, List.set_cons_succ, i64_w, i32_w]
      rfl
    refine pure_ (i := 2) (N := some 9) (v := ?_) (a' := ?_) #[true, true, true, false, false, false, false, false, false, false, false] rfl rfl (any_of HT_.out (by kernel_rfl)) (fun _ _ _ h => h) (Or.inl ⟨by rfl, ?_⟩) ?_ ?_
    rotate_left
    · intro w'
      go_simp
      with_reducible rfl
    rotate_left
    · simp only [Act.put, List.setIfInBounds_toArray, List.set_cons_zero, List.set_cons_succ, i64_w, i32_w]
      rfl
    refine take_ (i := 3) (N := some 10) (v := ?_) (a' := ?_) #[true, true, true, true, false, false, false, false, false, false, false] rfl rfl (take_ofW HT_.out HW_.out (by kernel_rfl)) (fun _ _ _ h => h) (Or.inl ⟨by rfl, ?_⟩) hHeld ?_ ?_
    rotate_left
    · rintro w' ⟨s0, s1, s2⟩
      go_simp
      with_reducible rfl
    rotate_left
    · simp only [Act.put, List.setIfInBounds_toArray, List.set_cons_zero, List.set_cons_succ, i64_w, i32_w]
      rfl
    refine take_ (i := 4) (N := some 11) (v := ?_) (a' := ?_) #[true, true, true, true, true, false, false, false, false, false, false] rfl rfl (take_ofW HT_.out HW_.out (by kernel_rfl)) (fun _ _ _ h => h) (Or.inl ⟨by rfl, ?_⟩) hHeld ?_ ?_
    rotate_left
    · rintro w' ⟨s0, s1, s2⟩
      go_simp
      with_reducible rfl
    rotate_left
    · simp only [Act.put, List.setIfInBounds_toArray, List.set_cons_zero, List.set_cons_succ, i64_w, i32_w]
      rfl
    refine one_ (i := 5) (N := some 12) #[true, true, true, true, true, true, false, false, false, false, false] rfl rfl (one_of HT_.out (by kernel_rfl)) (by decide) (fun K hK => ?_)
    refine value_ (w1 := w.drew) (v := .tuple #[ptrV q, .bool true]) (by rfl) rfl ?hr ?_
    case hr =>
      have hd := look_run HO.out.drew HD.out HS.out
      rw [HNA.out] at hd
      exact look_exec rfl rfl rfl hd
    refine hK.out _ _ ⟨c0, c1, y2⟩ (fun hHeld => ?_)
    clear hK K
    refine norm_ (a' := ?_) ?_ ?_
    rotate_left
    · show Act.put _ (some 12) _ = _
      simp only [Act.put, List.setIfInBounds_toArray, List.set_cons_zero, List.set_cons_succ, i64_w, i32_w]
      rfl
    refine pure_ (i := 6) (N := some 6) (v := ?_) (a' := ?_) #[true, true, true, true, true, true, true, false, false, false, false] rfl rfl (any_of HT_.out (by kernel_rfl)) (fun _ _ _ h => h) (Or.inl ⟨by rfl, ?_⟩) ?_ ?_
    rotate_left
    · intro w'
      go_simp
      with_reducible rfl
    rotate_left
    · simp only [Act.put, List.setIfInBounds_toArray, List.set_cons_zero, List.set_cons_succ, i64_w, i32_w]
      rfl
    refine pure_ (i := 7) (N := some 13) (v := ?_) (a' := ?_) #[true, true, true, true, true, true, true, true, false, false, false] rfl rfl (any_of HT_.out (by kernel_rfl)) (fun _ _ _ h => h) (Or.inl ⟨by rfl, ?_⟩) ?_ ?_
    rotate_left
    · intro w'
      go_simp
      with_reducible rfl
    rotate_left
    · simp only [Act.put, List.setIfInBounds_toArray, List.set_cons_zero, List.set_cons_succ, i64_w, i32_w]
      rfl
    refine pure_ (i := 8) (N := some 14) (v := ?_) (a' := ?_) #[true, true, true, true, true, true, true, true, true, false, false] rfl rfl (any_of HT_.out (by kernel_rfl)) (fun _ _ _ h => h) (Or.inl ⟨by rfl, ?_⟩) ?_ ?_
    rotate_left
    · intro w'
      go_simp
      with_reducible rfl
    rotate_left
    · simp only [Act.put, List.setIfInBounds_toArray, List.set_cons_zero, List.set_cons_succ, i64_w, i32_w]
      rfl
    refine pure_ (i := 9) (N := some 4) (v := ?_) (a' := ?_) #[true, true, true, true, true, true, true, true, true, true, false] rfl rfl (any_of HT_.out (by kernel_rfl)) (fun _ _ _ h => h) (Or.inl ⟨by rfl, ?_⟩) ?_ ?_
    rotate_left
    · intro w'
      go_simp
      with_reducible rfl
    rotate_left
    · simp only [Act.put, List.setIfInBounds_toArray, List.set_cons_zero, List.set_cons_succ, i64_w, i32_w]
      rfl
    refine pure_ (i := 10) (N := some 5) (v := ?_) (a' := ?_) #[true, true, true, true, true, true, true, true, true, true, true] rfl rfl (any_of HT_.out (by kernel_rfl)) (fun _ _ _ h => h) (Or.inl ⟨by rfl, ?_⟩) ?_ ?_
    rotate_left
    · intro w'
      go_simp
      with_reducible rfl
    rotate_left
    · simp only [Act.put, List.setIfInBounds_toArray, List.set_cons_zero, List.set_cons_succ, i64_w, i32_w]
      rfl
    refine done_ (done_of HT_.out (by kernel_rfl)) ?_
    have H2 := Aside0.mk (H.out.below (w' := w.drew) (below_drew (Below.refl _ _)))
    have HB2 := Aside0.mk (show Below w.heap.size w w.drew from below_drew (Below.refl _ _))
    have HO2 := Aside0.mk HO.out.drew
    have H02 := Aside0.mk (blk_drew H0.out)
    have H12 := Aside0.mk (blk_drew H1.out)
    have H22 := Aside0.mk (blk_drew H2'.out)
    generalize w.drew = w2 at *
    clear c0 c1 c2 y2 H0 H1 H2' H HO
    have c0 : w2.cell? ⟨g0, 0, none⟩ = some (ptrV g) := (blk_cell H02.out 0).trans rfl
    have c1 : w2.cell? ⟨g1, 0, none⟩ = some (.string n) := (blk_cell H12.out 0).trans rfl
    have c2 : w2.cell? ⟨g2, 0, none⟩ = some (.string m) := (blk_cell H22.out 0).trans rfl
    have y2 : w2.cell? ⟨g, 2, none⟩ = some (.map (some nb)) := (blk_cell H2.out.blk 2).trans rfl
    have hgs2 := blk_lt H2.out.blk
    by_cases hnm : n = m
    · have HR2 : Aside0 (r = (0, s)) := ⟨by rw [HR1.out, if_pos hnm]⟩
      subst hnm
      go_wp2_with fail
      go_ret
      rw [HR2.out]
      exact ⟨rfl, ⟨_, _, H2.out⟩, Fr.ofBelow HB2.out⟩
    have HR2 : Aside0 (r = (0, (s.give i m).add ⟨3, n, m, 0, i, []⟩)) := ⟨by rw [HR1.out, if_neg hnm]⟩
    have d1 : (n.toList == m.toList) = false := by rw [beq_eq_false_iff_ne]; intro e; rw [ByteArray.toList_eq, ByteArray.toList_eq] at e; exact hnm (key_inj e)
    have HNM := Aside0.mk hnm
    have HGV : Aside0 ((s.setName i nameless).give i m = s.give i m) := ⟨give_cleared HI.out.nmU HFI.out.2.2.2 hnm (not_nameless HM.out)⟩
    clear hnm
    go_upto_region 6 with fail
    obtain ⟨w4, hrun4, hown4, hturn4⟩ := HO2.out.drew.drop keyLaw Try.underlying65 (key_of HS.out) 0
    have HRUN := Aside0.mk hrun4
    have hS4 : Stay (fun _ => True) w2.drew w4 := Stay.of_turned hturn4 _
    have H04 := Aside0.mk ((hS4 g0 _ 22 trivial (blk_drew H02.out)).trans (blk_drew H02.out))
    have H14 := Aside0.mk ((hS4 g1 _ 9 trivial (blk_drew H12.out)).trans (blk_drew H12.out))
    have H24 := Aside0.mk ((hS4 g2 _ 9 trivial (blk_drew H22.out)).trans (blk_drew H22.out))
    have H4 := Aside0.mk ((H2.out.below (w' := w2.drew) (below_drew (Below.refl _ _))).unname HI.out.nmU (not_nameless HN.out) HFI.out.2.2.2 (HO2.out.tidy keyLaw) HD.out hown4 hturn4)
    have HFr4 := Aside0.mk (((Fr.ofBelow (HB2.out.drew) : Fr ok w w2.drew).grown hturn4.grown (fun k e _ => by injection e with e; subst e; exact H2.out.okn.1)) : Fr ok w w4)
    clear hrun4 hown4 hturn4 hS4
    refine start_ (n := 6) (S := fun w' => w'.cell? ⟨g0, 0, none⟩ = some (ptrV g) ∧ w'.cell? ⟨g1, 0, none⟩ = some (.string n) ∧ w'.cell? ⟨g, 2, none⟩ = some (.map (some nb))) (ds := []) #[false, false, false, false, false, false] (by kernel_rfl) rfl rfl ⟨c0, c1, y2⟩ (fun hHeld => ?_)
    refine with_tabW F41Rtab6 F41Rbits6 (fun HT_ HW_ => ?_)
    refine take_ (i := 0) (N := some 22) (v := ?_) (a' := ?_) #[true, false, false, false, false, false] rfl rfl (take_ofW HT_.out HW_.out (by kernel_rfl)) (fun _ _ _ h => h) (Or.inl ⟨by rfl, ?_⟩) hHeld ?_ ?_
    rotate_left
    · rintro w' ⟨s0, s1, s2⟩
      go_simp
      with_reducible rfl
    rotate_left
    · simp only [Act.put, List.setIfInBounds_toArray, List.set_cons_zero, List.set_cons_succ, i64_w, i32_w]
      rfl
    refine pure_ (i := 1) (N := some 23) (v := ?_) (a' := ?_) #[true, true, false, false, false, false] rfl rfl (any_of HT_.out (by kernel_rfl)) (fun _ _ _ h => h) (Or.inl ⟨by rfl, ?_⟩) ?_ ?_
    rotate_left
    · intro w'
      go_simp
      with_reducible rfl
    rotate_left
    · simp only [Act.put, List.setIfInBounds_toArray, List.set_cons_zero, List.set_cons_succ, i64_w, i32_w]
      rfl
    refine pure_ (i := 2) (N := some 24) (v := ?_) (a' := ?_) #[true, true, true, false, false, false] rfl rfl (any_of HT_.out (by kernel_rfl)) (fun _ _ _ h => h) (Or.inl ⟨by rfl, ?_⟩) ?_ ?_
    rotate_left
    · intro w'
      go_simp
      with_reducible rfl
    rotate_left
    · simp only [Act.put, List.setIfInBounds_toArray, List.set_cons_zero, List.set_cons_succ, i64_w, i32_w]
      rfl
    refine take_ (i := 3) (N := some 25) (v := ?_) (a' := ?_) #[true, true, true, true, false, false] rfl rfl (take_ofW HT_.out HW_.out (by kernel_rfl)) (fun _ _ _ h => h) (Or.inl ⟨by rfl, ?_⟩) hHeld ?_ ?_
    rotate_left
    · rintro w' ⟨s0, s1, s2⟩
      go_simp
      with_reducible rfl
    rotate_left
    · simp only [Act.put, List.setIfInBounds_toArray, List.set_cons_zero, List.set_cons_succ, i64_w, i32_w]
      rfl
    refine take_ (i := 4) (N := some 26) (v := ?_) (a' := ?_) #[true, true, true, true, true, false] rfl rfl (take_ofW HT_.out HW_.out (by kernel_rfl)) (fun _ _ _ h => h) (Or.inl ⟨by rfl, ?_⟩) hHeld ?_ ?_
    rotate_left
    · rintro w' ⟨s0, s1, s2⟩
      go_simp
      with_reducible rfl
    rotate_left
    · simp only [Act.put, List.setIfInBounds_toArray, List.set_cons_zero, List.set_cons_succ, i64_w, i32_w]
      rfl
    refine one_ (i := 5) (N := none) #[true, true, true, true, true, true] rfl rfl (one_of HT_.out (by kernel_rfl)) (by decide) (fun K hK => ?_)
    refine value_ (w1 := w4) (v := .tuple #[]) (by rfl) rfl ?hr ?_
    case hr => exact del_exec rfl rfl rfl HRUN.out
    refine hK.out _ _ ⟨(blk_cell H04.out 0).trans rfl, (blk_cell H14.out 0).trans rfl, (blk_cell H4.out.blk 2).trans rfl⟩ (fun hHeld => ?_)
    clear hK K
    refine done_ (done_of HT_.out (by kernel_rfl)) ?_
    clear c0 c1 c2 y2 hgs2 H2 HB2 HO2 H02 H12 H22 HRUN HD HNA
    obtain ⟨D4, ho4, hD4⟩ := H4.out.nms.open
    have hM4 : Maps.size D4 < maxLen := by
      have h1 : Maps.size D4 = (s.setName i nameless).count := hD4.1
      have h2 := count_le (s.setName i nameless)
      have h3 : (s.setName i nameless).files.length = s.files.length := List.length_modify _ _ _
      have h4 := HI.out.lf
      have h5 := HT.out
      simp only [maxLen]
      omega
    have HO4 := Aside0.mk ho4
    have HD4 := Aside0.mk hD4
    have hL4 : (s.setName i nameless).nmL[i]? = some nameless := by
      rw [DS.setName_nm, List.getElem?_set, if_pos rfl, if_pos (List.getElem?_eq_some_iff.1 HFI.out.2.2.2).1]
    have hU4 : UL (s.setName i nameless).nmL := by rw [DS.setName_nm]; exact UL_set HI.out.nmU i nameless (.inl rfl)
    have c0 : w4.cell? ⟨g0, 0, none⟩ = some (ptrV g) := (blk_cell H04.out 0).trans rfl
    have c2 : w4.cell? ⟨g2, 0, none⟩ = some (.string m) := (blk_cell H24.out 0).trans rfl
    have y2 : w4.cell? ⟨g, 2, none⟩ = some (.map (some nb)) := (blk_cell H4.out.blk 2).trans rfl
    have hgs4 := blk_lt H4.out.blk
    obtain ⟨w5, hrun5, hown5, hturn5⟩ := HO4.out.drew.store keyLaw Try.underlying65 hM4 (key_of HMS.out) (filE_ptr q)
    have HRUN := Aside0.mk hrun5
    have hS5 : Stay (fun _ => True) w4.drew w5 := Stay.of_turned hturn5 _
    have H05 := Aside0.mk ((hS5 g0 _ 22 trivial (blk_drew H04.out)).trans (blk_drew H04.out))
    have H15 := Aside0.mk ((hS5 g1 _ 9 trivial (blk_drew H14.out)).trans (blk_drew H14.out))
    have H25 := Aside0.mk ((hS5 g2 _ 9 trivial (blk_drew H24.out)).trans (blk_drew H24.out))
    have h5 := (H4.out.below (w' := w4.drew) (below_drew (Below.refl _ _))).give hU4 (not_nameless HM.out) hL4 HFI.out.2.2.1 (HO4.out.tidy keyLaw) HD4.out hown5 hturn5
    rw [HGV.out] at h5
    have H9 := Aside0.mk h5
    have HFr9 := Aside0.mk ((((HFr4.out.trans (Fr.ofBelow (below_drew (Below.refl _ _))) (fun k h _ => h)) : Fr ok w w4.drew).grown hturn5.grown (fun k e _ => by injection e with e; subst e; exact H4.out.okn.1)) : Fr ok w w5)
    clear hrun5 hown5 hturn5 hS5 h5 ho4 hD4 hM4 hL4 hU4
    go_upto_region 7 with fail
    refine start_ (n := 7) (S := fun w' => w'.cell? ⟨g0, 0, none⟩ = some (ptrV g) ∧ w'.cell? ⟨g2, 0, none⟩ = some (.string m) ∧ w'.cell? ⟨g, 2, none⟩ = some (.map (some nb))) (ds := []) #[false, false, false, false, false, false, false] (by kernel_rfl) rfl rfl ⟨c0, c2, y2⟩ (fun hHeld => ?_)
    refine with_tabW F41Rtab7 F41Rbits7 (fun HT_ HW_ => ?_)
    refine pure_ (i := 5) (N := some 32) (v := ?_) (a' := ?_) #[false, false, false, false, false, true, false] rfl rfl (any_of HT_.out (by kernel_rfl)) (fun _ _ _ h => h) (Or.inl ⟨by rfl, ?_⟩) ?_ ?_
    rotate_left
    · intro w'
      go_simp
      with_reducible rfl
    rotate_left
    · simp only [Act.put, List.setIfInBounds_toArray, List.set_cons_zero, List.set_cons_succ, i64_w, i32_w]
      rfl
    refine take_ (i := 0) (N := some 27) (v := ?_) (a' := ?_) #[true, false, false, false, false, true, false] rfl rfl (take_ofW HT_.out HW_.out (by kernel_rfl)) (fun _ _ _ h => h) (Or.inl ⟨by rfl, ?_⟩) hHeld ?_ ?_
    rotate_left
    · rintro w' ⟨s0, s1, s2⟩
      go_simp
      with_reducible rfl
    rotate_left
    · simp only [Act.put, List.setIfInBounds_toArray, List.set_cons_zero, List.set_cons_succ, i64_w, i32_w]
      rfl
    refine pure_ (i := 1) (N := some 28) (v := ?_) (a' := ?_) #[true, true, false, false, false, true, false] rfl rfl (any_of HT_.out (by kernel_rfl)) (fun _ _ _ h => h) (Or.inl ⟨by rfl, ?_⟩) ?_ ?_
    rotate_left
    · intro w'
      go_simp
      with_reducible rfl
    rotate_left
    · simp only [Act.put, List.setIfInBounds_toArray, List.set_cons_zero, List.set_cons_succ, i64_w, i32_w]
      rfl
    refine pure_ (i := 2) (N := some 29) (v := ?_) (a' := ?_) #[true, true, true, false, false, true, false] rfl rfl (any_of HT_.out (by kernel_rfl)) (fun _ _ _ h => h) (Or.inl ⟨by rfl, ?_⟩) ?_ ?_
    rotate_left
    · intro w'
      go_simp
      with_reducible rfl
    rotate_left
    · simp only [Act.put, List.setIfInBounds_toArray, List.set_cons_zero, List.set_cons_succ, i64_w, i32_w]
      rfl
    refine take_ (i := 3) (N := some 30) (v := ?_) (a' := ?_) #[true, true, true, true, false, true, false] rfl rfl (take_ofW HT_.out HW_.out (by kernel_rfl)) (fun _ _ _ h => h) (Or.inl ⟨by rfl, ?_⟩) hHeld ?_ ?_
    rotate_left
    · rintro w' ⟨s0, s1, s2⟩
      go_simp
      with_reducible rfl
    rotate_left
    · simp only [Act.put, List.setIfInBounds_toArray, List.set_cons_zero, List.set_cons_succ, i64_w, i32_w]
      rfl
    refine take_ (i := 4) (N := some 31) (v := ?_) (a' := ?_) #[true, true, true, true, true, true, false] rfl rfl (take_ofW HT_.out HW_.out (by kernel_rfl)) (fun _ _ _ h => h) (Or.inl ⟨by rfl, ?_⟩) hHeld ?_ ?_
    rotate_left
    · rintro w' ⟨s0, s1, s2⟩
      go_simp
      with_reducible rfl
    rotate_left
    · simp only [Act.put, List.setIfInBounds_toArray, List.set_cons_zero, List.set_cons_succ, i64_w, i32_w]
      rfl
    refine one_ (i := 6) (N := none) #[true, true, true, true, true, true, true] rfl rfl (one_of HT_.out (by kernel_rfl)) (by decide) (fun K hK => ?_)
    refine skip_ (w1 := w5) (by rfl) rfl ?hr ?_
    case hr => exact upd_exec rfl rfl rfl rfl HRUN.out
    refine hK.out _ _ ⟨(blk_cell H05.out 0).trans rfl, (blk_cell H25.out 0).trans rfl, (blk_cell H9.out.blk 2).trans rfl⟩ (fun hHeld => ?_)
    clear hK K
    refine done_ (done_of HT_.out (by kernel_rfl)) ?_
    clear c0 c2 y2 hgs4 H4 HFr4 HO4 HD4 H04 H14 H24 HRUN HGV
    have c0 : w5.cell? ⟨g0, 0, none⟩ = some (ptrV g) := (blk_cell H05.out 0).trans rfl
    have c1 : w5.cell? ⟨g1, 0, none⟩ = some (.string n) := (blk_cell H15.out 0).trans rfl
    have c2 : w5.cell? ⟨g2, 0, none⟩ = some (.string m) := (blk_cell H25.out 0).trans rfl
    have g4 : w5.cell? ⟨g, 4, none⟩ = some v := (blk_cell H9.out.blk 4).trans rfl
    have lg9 := blk_lt H9.out.blk
    have HLW : Aside0 ((s.give i m).works = s.works) := ⟨by rw [DS.give_head]⟩
    go_upto_region 8 with fail
    refine start_ (n := 15) (S := fun w' => w'.cell? ⟨g0, 0, none⟩ = some (ptrV g) ∧ w'.cell? ⟨g1, 0, none⟩ = some (.string n) ∧ w'.cell? ⟨g2, 0, none⟩ = some (.string m) ∧ w'.cell? ⟨g, 4, none⟩ = some v) (ds := [14]) #[false, false, false, false, false, false, false, false, false, false, false, false, false, false, false] (by kernel_rfl) rfl rfl ⟨c0, c1, c2, g4⟩ (fun hHeld => ?_)
    refine with_tabW F41Rtab8 F41Rbits8 (fun HT_ HW_ => ?_)
    refine pure_ (i := 8) (N := some 41) (v := ?_) (a' := ?_) #[false, false, false, false, false, false, false, false, true, false, false, false, false, false, false] rfl rfl (any_of HT_.out (by kernel_rfl)) (fun _ _ _ h => h) (Or.inl ⟨by rfl, ?_⟩) ?_ ?_
    rotate_left
    · intro w'
      go_simp
      with_reducible rfl
    rotate_left
    · simp only [Act.put, List.setIfInBounds_toArray, List.set_cons_zero, List.set_cons_succ, i64_w, i32_w]
      rfl
    refine take_ (i := 0) (N := some 33) (v := ?_) (a' := ?_) #[true, false, false, false, false, false, false, false, true, false, false, false, false, false, false] rfl rfl (take_ofW HT_.out HW_.out (by kernel_rfl)) (fun _ _ _ h => h) (Or.inl ⟨by rfl, ?_⟩) hHeld ?_ ?_
    rotate_left
    · rintro w' ⟨s0, s1, s2, s3⟩
      go_simp
      with_reducible rfl
    rotate_left
    · simp only [Act.put, List.setIfInBounds_toArray, List.set_cons_zero, List.set_cons_succ, i64_w, i32_w]
      rfl
    refine take_ (i := 1) (N := some 34) (v := ?_) (a' := ?_) #[true, true, false, false, false, false, false, false, true, false, false, false, false, false, false] rfl rfl (take_ofW HT_.out HW_.out (by kernel_rfl)) (fun _ _ _ h => h) (Or.inl ⟨by rfl, ?_⟩) hHeld ?_ ?_
    rotate_left
    · rintro w' ⟨s0, s1, s2, s3⟩
      go_simp
      with_reducible rfl
    rotate_left
    · simp only [Act.put, List.setIfInBounds_toArray, List.set_cons_zero, List.set_cons_succ, i64_w, i32_w]
      rfl
    refine pure_ (i := 2) (N := some 35) (v := ?_) (a' := ?_) #[true, true, true, false, false, false, false, false, true, false, false, false, false, false, false] rfl rfl (any_of HT_.out (by kernel_rfl)) (fun _ _ _ h => h) (Or.inl ⟨by rfl, ?_⟩) ?_ ?_
    rotate_left
    · intro w'
      go_simp
      with_reducible rfl
    rotate_left
    · simp only [Act.put, List.setIfInBounds_toArray, List.set_cons_zero, List.set_cons_succ, i64_w, i32_w]
      rfl
    refine pure_ (i := 3) (N := some 36) (v := ?_) (a' := ?_) #[true, true, true, true, false, false, false, false, true, false, false, false, false, false, false] rfl rfl (any_of HT_.out (by kernel_rfl)) (fun _ _ _ h => h) (Or.inl ⟨by rfl, ?_⟩) ?_ ?_
    rotate_left
    · intro w'
      go_simp
      with_reducible rfl
    rotate_left
    · simp only [Act.put, List.setIfInBounds_toArray, List.set_cons_zero, List.set_cons_succ, i64_w, i32_w]
      rfl
    refine take_ (i := 4) (N := some 37) (v := ?_) (a' := ?_) #[true, true, true, true, true, false, false, false, true, false, false, false, false, false, false] rfl rfl (take_ofW HT_.out HW_.out (by kernel_rfl)) (fun _ _ _ h => h) (Or.inl ⟨by rfl, ?_⟩) hHeld ?_ ?_
    rotate_left
    · rintro w' ⟨s0, s1, s2, s3⟩
      go_simp
      with_reducible rfl
    rotate_left
    · simp only [Act.put, List.setIfInBounds_toArray, List.set_cons_zero, List.set_cons_succ, i64_w, i32_w]
      rfl
    refine take_ (i := 5) (N := some 38) (v := ?_) (a' := ?_) #[true, true, true, true, true, true, false, false, true, false, false, false, false, false, false] rfl rfl (take_ofW HT_.out HW_.out (by kernel_rfl)) (fun _ _ _ h => h) (Or.inl ⟨by rfl, ?_⟩) hHeld ?_ ?_
    rotate_left
    · rintro w' ⟨s0, s1, s2, s3⟩
      go_simp
      with_reducible rfl
    rotate_left
    · simp only [Act.put, List.setIfInBounds_toArray, List.set_cons_zero, List.set_cons_succ, i64_w, i32_w]
      rfl
    refine take_ (i := 6) (N := some 39) (v := ?_) (a' := ?_) #[true, true, true, true, true, true, true, false, true, false, false, false, false, false, false] rfl rfl (take_ofW HT_.out HW_.out (by kernel_rfl)) (fun _ _ _ h => h) (Or.inl ⟨by rfl, ?_⟩) hHeld ?_ ?_
    rotate_left
    · rintro w' ⟨s0, s1, s2, s3⟩
      go_simp
      with_reducible rfl
    rotate_left
    · simp only [Act.put, List.setIfInBounds_toArray, List.set_cons_zero, List.set_cons_succ, i64_w, i32_w]
      rfl
    refine pure_ (i := 7) (N := some 40) (v := ?_) (a' := ?_) #[true, true, true, true, true, true, true, true, true, false, false, false, false, false, false] rfl rfl (any_of HT_.out (by kernel_rfl)) (fun _ _ _ h => h) (Or.inl ⟨by rfl, ?_⟩) ?_ ?_
    rotate_left
    · intro w'
      go_simp
      with_reducible rfl
    rotate_left
    · simp only [Act.put, List.setIfInBounds_toArray, List.set_cons_zero, List.set_cons_succ, i64_w, i32_w]
      rfl
    refine pure_ (i := 9) (N := some 42) (v := ?_) (a' := ?_) #[true, true, true, true, true, true, true, true, true, true, false, false, false, false, false] rfl rfl (any_of HT_.out (by kernel_rfl)) (fun _ _ _ h => h) (Or.inl ⟨by rfl, ?_⟩) ?_ ?_
    rotate_left
    · intro w'
      go_simp
      with_reducible rfl
    rotate_left
    · simp only [Act.put, List.setIfInBounds_toArray, List.set_cons_zero, List.set_cons_succ, i64_w, i32_w]
      rfl
    refine one_ (i := 10) (N := some 43) #[true, true, true, true, true, true, true, true, true, true, true, false, false, false, false] rfl rfl (one_of HT_.out (by kernel_rfl)) (by decide) (fun K hK => ?_)
    refine value_ (w1 := ?_) (v := ?_) (by rfl) rfl ?_ ?_
    rotate_left 2
    · go_simp
      constructor
      · rfl
      · rfl
    refine hK.out _ _ ⟨(blk_cell (blk_alloc H05.out _) 0).trans rfl, (blk_cell (blk_alloc H15.out _) 0).trans rfl, (blk_cell (blk_alloc H25.out _) 0).trans rfl, (blk_cell (blk_alloc H9.out.blk _) 4).trans rfl⟩ (fun hHeld => ?_)
    clear hK K
    refine norm_ (a' := ?_) ?_ ?_
    rotate_left
    · show Act.put _ (some 43) _ = _
      simp only [Act.put, List.setIfInBounds_toArray, List.set_cons_zero, List.set_cons_succ, i64_w, i32_w]
      rfl
    refine one_ (i := 11) (N := some 44) #[true, true, true, true, true, true, true, true, true, true, true, true, false, false, false] rfl rfl (one_of HT_.out (by kernel_rfl)) (by decide) (fun K hK => ?_)
    refine Kd.R_append_step workK (W := w5.drew) (w0 := w5.drew) base (by rfl) (.tmp 37) (.tmp 43) 66 76 (.agg #[.int .i64 0, .string ⟨#[]⟩, .string ⟨#[]⟩, .int .i64 0, .pointer none, .slice none 0 0]) 80 rfl Try.underlying66 info76 rfl (by decide) (by decide) v ((s.give i m).works.map (mwOf ad)) (⟨3, n, m, 0, q, []⟩ : MW) [.int .i64 3, .string n, .string m, .int .i64 0, ptrV q, .slice none 0 0] ok (fun _ => False) rfl rfl ?aP (fun _ hk => hk.elim) ?aF ?aO ?aB ?aS ?aL ?_
    (case aP => exact workK_mkM _ _ _ _ (Kd.R_nil _ _ _ _ _))
    (case aF => exact fun k hk => HF.out k (Nat.le_trans HFr9.out.size hk))
    (case aO => exact Kd.R_drew H9.out.wks)
    (case aB => exact (Below.refl _ _).mono (Nat.le_trans H9.out.okg.2 (Nat.le_of_lt lg9)))
    (case aS => exact Nat.le_trans H9.out.okg.2 (Nat.le_of_lt lg9))
    (case aL => rw [List.length_map]; have h1 := HI.out.lw; have h2 := HT.out; rw [HLW.out]; show (s.works.length + 1) * 80 ≤ 140737488355328; omega)
    intro v10 w10 ho hb hg hat
    have hg' : w5.grownBy w10 v.ownBlock := ⟨hg.os, hg.tape, hg.output, hg.size, hg.block⟩
    have hB10 := H9.out.rowB hg'
    have h0w := blk_grown H05.out hg' (Kd.R_ne H9.out.wks H05.out (by decide))
    have h1w := blk_grown H15.out hg' (Kd.R_ne H9.out.wks H15.out (by decide))
    have h2w := blk_grown H25.out hg' (Kd.R_ne H9.out.wks H25.out (by decide))
    have fg10 := blk_frozen hB10 4
    have lg10 := blk_lt hB10
    have HO10 := Aside0.mk ho
    have HG10 := Aside0.mk hg'
    obtain ⟨A10, c10, hv10⟩ := Kd.R_slice HO10.out
    generalize hl10 : ((s.give i m).works.map (mwOf ad) ++ [(⟨3, n, m, 0, q, []⟩ : MW)]).length = l10 at hv10
    clear ho hb hg hat hl10 hg'
    subst hv10
    refine hK.out _ _ ⟨(blk_cell h0w 0).trans rfl, (blk_cell h1w 0).trans rfl, (blk_cell h2w 0).trans rfl, (blk_cell hB10 4).trans rfl⟩ (fun hHeld => ?_)
    clear hK K
    refine norm_ (a' := ?_) ?_ ?_
    rotate_left
    · show Act.put _ (some 44) _ = _
      simp only [Act.put, List.setIfInBounds_toArray, List.set_cons_zero, List.set_cons_succ, i64_w, i32_w]
      rfl
    refine pure_ (i := 12) (N := some 45) (v := ?_) (a' := ?_) #[true, true, true, true, true, true, true, true, true, true, true, true, true, false, false] rfl rfl (any_of HT_.out (by kernel_rfl)) (fun _ _ _ h => h) (Or.inl ⟨by rfl, ?_⟩) ?_ ?_
    rotate_left
    · intro w'
      go_simp
      with_reducible rfl
    rotate_left
    · simp only [Act.put, List.setIfInBounds_toArray, List.set_cons_zero, List.set_cons_succ, i64_w, i32_w]
      rfl
    refine pure_ (i := 13) (N := some 46) (v := ?_) (a' := ?_) #[true, true, true, true, true, true, true, true, true, true, true, true, true, true, false] rfl rfl (any_of HT_.out (by kernel_rfl)) (fun _ _ _ h => h) (Or.inl ⟨by rfl, ?_⟩) ?_ ?_
    rotate_left
    · intro w'
      go_simp
      with_reducible rfl
    rotate_left
    · simp only [Act.put, List.setIfInBounds_toArray, List.set_cons_zero, List.set_cons_succ, i64_w, i32_w]
      rfl
    refine last_ (i := 14) (N := none) #[true, true, true, true, true, true, true, true, true, true, true, true, true, true, true] rfl rfl (one_of HT_.out (by kernel_rfl)) (by decide) (fun K hK => ?_)
    refine skip_ (w1 := ?_) (by rfl) rfl ?_ ?_
    rotate_left
    · go_simp
      rfl
    refine hK.out _ _ ?_
    clear hK K
    refine done_ (done_of HT_.out (by kernel_rfl)) ?_
    go_wp2_with fail
    go_ret
    have e10 : mwOf ad (⟨3, n, m, 0, i, []⟩ : PW) = (⟨3, n, m, 0, q, []⟩ : MW) := mw_at HFI.out.2.2.1 _ _ _ _ _
    rw [HR2.out]
    refine ⟨rfl, ⟨_, _, H9.out.row (ws := (s.give i m).works ++ [⟨3, n, m, 0, i, []⟩]) (by rw [List.map_append, List.map_cons, List.map_nil, e10]; exact HO10.out) HG10.out rfl⟩, ?_⟩
    exact Fr.setCell (p := ⟨g, 4, none⟩) (HFr9.out.grown HG10.out (fun k e _ => H9.out.wks.1 k e)) (fun _ => H9.out.okg.1) _
end
end Go.Proofs.Ytnegcjgolaakcaa

/- Plain: works made fast; a disk in memory whose fast map has turned. -/
namespace Go.Proofs.Ytnegcjgolaakcaa
open Go.RowKit Go.Maps
open Go.Proofs.YtnegcjgolaakcaaW.PrintWords Go.Proofs.YtnegcjgolaakcaaW.PrintLast Go.Proofs.YtnegcjgolaakcaaW.PrintMore
set_option linter.unusedVariables false
set_option linter.unusedSimpArgs false
namespace DS
theorem setFast_rest (s : DS) (i : Nat) (n : ByteArray) : (s.setFast i n).files.map (fun f => (f.name, f.now, f.old)) = s.files.map (fun f => (f.name, f.now, f.old)) := map_modify_same _ _ _ _ (fun _ => rfl)
/-- a fast name is taken from who has it, and given to i -/
def giveF (s : DS) (i : Nat) (b : ByteArray) : DS := (match s.findF b with | some j => s.setFast j nameless | none => s).setFast i b
theorem giveF_fs (s : DS) (i : Nat) (b : ByteArray) : (s.giveF i b).fsL = giveL s.fsL i b := by
  unfold giveF giveL
  rw [setFast_fs, findF_L]
  cases idxL s.fsL b with
  | none => rfl
  | some j => show ((s.setFast j nameless).fsL).set i b = _; rw [setFast_fs]
theorem giveF_rest (s : DS) (i : Nat) (b : ByteArray) : (s.giveF i b).files.map (fun f => (f.name, f.now, f.old)) = s.files.map (fun f => (f.name, f.now, f.old)) := by
  unfold giveF
  rw [setFast_rest]
  split
  · exact setFast_rest _ _ _
  · rfl
theorem giveF_head (s : DS) (i : Nat) (b : ByteArray) : s.giveF i b = { s with files := (s.giveF i b).files } := by
  unfold giveF
  split <;> rfl
end DS
theorem files_ext {l l' : List PF} (h1 : l'.map PF.fast = l.map PF.fast) (h2 : l'.map (fun f => (f.name, f.now, f.old)) = l.map (fun f => (f.name, f.now, f.old))) : l' = l := by
  apply List.ext_getElem?
  intro i
  have e1 := congrArg (fun x => x[i]?) h1
  have e2 := congrArg (fun x => x[i]?) h2
  simp only [List.getElem?_map] at e1 e2
  cases h3 : l'[i]? with
  | none => rw [h3] at e1; cases h4 : l[i]? with
    | none => rfl
    | some f => rw [h4] at e1; cases e1
  | some f' =>
    rw [h3] at e1 e2
    cases h4 : l[i]? with
    | none => rw [h4] at e1; cases e1
    | some f =>
      rw [h4] at e1 e2
      simp only [Option.map_some, Option.some.injEq, Prod.mk.injEq] at e1 e2
      obtain ⟨a1, b1, c1, d1⟩ := f'
      obtain ⟨a2, b2, c2, d2⟩ := f
      simp only at e1 e2
      obtain ⟨rfl, rfl, rfl⟩ := e2
      subst e1
      rfl
theorem give_get (L : List ByteArray) (i : Nat) (b : ByteArray) (j : Nat) : (giveL L i b)[j]? = if i = j then (if i < L.length then some b else none) else (match idxL L b with | some k => (L.set k nameless)[j]? | none => L[j]?) := by
  unfold giveL
  cases idxL L b with
  | none => exact List.getElem?_set
  | some k =>
    refine List.getElem?_set.trans ?_
    rw [List.length_set]
theorem give_map {L : List ByteArray} (h : UL L) (i : Nat) {t : ByteArray} (ht : t ≠ nameless) : giveL (L.set i nameless) i t = (L.map (fun x => if x = t then nameless else x)).set i t := by
  have h' : UL (L.set i nameless) := UL_set h i nameless (.inl rfl)
  apply List.ext_getElem?
  intro j
  have e0 : ((L.map (fun x => if x = t then nameless else x)).set i t)[j]? = if i = j then (if i < (L.map (fun x => if x = t then nameless else x)).length then some t else none) else (L.map (fun x => if x = t then nameless else x))[j]? := List.getElem?_set
  rw [give_get, e0, List.length_set, List.length_map]
  by_cases hij : i = j
  · rw [if_pos hij, if_pos hij]
  · rw [if_neg hij, if_neg hij, List.getElem?_map]
    have e1 : (L.set i nameless)[j]? = L[j]? := by rw [List.getElem?_set, if_neg hij]
    cases hf : idxL (L.set i nameless) t with
    | none =>
      show (L.set i nameless)[j]? = _
      rw [e1]
      cases hx : L[j]? with
      | none => rfl
      | some x =>
        have hxt : ¬ x = t := by
          rintro rfl
          exact idxL_none.1 hf (List.mem_of_getElem? (e1.trans hx))
        rw [Option.map_some, if_neg hxt]
    | some k =>
      show ((L.set i nameless).set k nameless)[j]? = _
      have hk := idxL_some hf
      have hkl := (List.getElem?_eq_some_iff.1 hk).1
      rw [List.getElem?_set]
      by_cases hkj : k = j
      · subst hkj
        rw [if_pos rfl, if_pos hkl, ← e1, hk, Option.map_some, if_pos rfl]
      · rw [if_neg hkj, e1]
        cases hx : L[j]? with
        | none => rfl
        | some x =>
          have hxt : ¬ x = t := by
            rintro rfl
            exact hkj (UL_at h' hk (e1.trans hx) ht)
          rw [Option.map_some, if_neg hxt]
section
variable {w w' : World} {g : Nat} {s s' : DS} {base : Nat} {ok : Nat → Prop} {nb fb : Nat} {v v1 : Value} {ad ad' : List Nat} {T : Nat}
/-- a work of a name -/
theorem work3 {s : DS} (h : UL s.fsL) {p : PW} (hk : p.kind = 3) (ht : p.tgt ≠ nameless) (n : Nat) : s.work p n = (s.setFast p.file nameless).giveF p.file p.tgt := by
  have e1 : (s.work p n).fsL = ((s.setFast p.file nameless).giveF p.file p.tgt).fsL := by
    rw [DS.giveF_fs, DS.setFast_fs, give_map h p.file ht]
    unfold DS.work
    rw [if_pos hk]
    unfold DS.fsL
    rw [map_modify_set _ _ (fun f : PF => { f with fast := p.tgt }) PF.fast p.tgt (fun _ => rfl), List.map_map, List.map_map]
    congr 1
    refine List.map_congr_left (fun f _ => ?_)
    show (if f.fast = p.tgt then ({ f with fast := nameless } : PF) else f).fast = if f.fast = p.tgt then nameless else f.fast
    split <;> rfl
  have e2 : (s.work p n).files.map (fun f => (f.name, f.now, f.old)) = ((s.setFast p.file nameless).giveF p.file p.tgt).files.map (fun f => (f.name, f.now, f.old)) := by
    rw [DS.giveF_rest, DS.setFast_rest]
    unfold DS.work
    rw [if_pos hk]
    refine (map_modify_same _ _ (fun f : PF => { f with fast := p.tgt }) _ (fun _ => rfl)).trans ?_
    rw [List.map_map]
    refine List.map_congr_left (fun f _ => ?_)
    show (fun f : PF => (f.name, f.now, f.old)) (if f.fast = p.tgt then ({ f with fast := nameless } : PF) else f) = _
    split <;> rfl
  have e3 := files_ext e1 e2
  have e4 : s.work p n = { s with files := (s.work p n).files } := by unfold DS.work; rw [if_pos hk]
  rw [e4, e3, DS.giveF_head]
  rfl
/-- but for the fast map nothing has turned -/
theorem DiskAt.turnF' (h : DiskAt w g s base ok nb fb v ad) {fs' : List PF} (hk : ∀ k, k ≠ fb → k < w.heap.size → w'.heap[k]? = w.heap[k]?) (hM : MapAt w' fb (cntL (fs'.map PF.fast)) (atL (fs'.map PF.fast) ad)) (hfl : fs'.map (fun f => (f.name, f.now, f.old)) = s.files.map (fun f => (f.name, f.now, f.old))) :
    DiskAt w' g { s with files := fs' } base ok nb fb v ad := by
  have hS : Stay (fun _ => True) w w' := fun k c q _ hc => hk k (fun e => h.fst.noCells (e ▸ hc)) (blk_lt hc)
  have hnm : ({ s with files := fs' } : DS).nmL = s.nmL := by
    have := congrArg (List.map Prod.fst) hfl
    rw [List.map_map, List.map_map] at this
    exact this
  refine ⟨(hS g _ 68 trivial h.blk).trans h.blk, h.okg, h.okn, h.okf, h.ne, ?_, ?_, R_objs h.wks hS (fun _ _ => trivial), ?_, ?_, h.nd⟩
  · rw [DS.count_L, hnm, ← DS.count_L]
    refine (h.nms.heap (hk nb h.ne h.nms.lt)).congr (fun k => ?_)
    rw [DS.nameAt_L, DS.nameAt_L, hnm]
  · rw [DS.countF_L]
    exact hM.congr (fun k => (DS.fastOf_L { s with files := fs' } ad k).symm)
  · intro i f' hi
    have hi' : fs'[i]? = some f' := hi
    have e := congrArg (fun l => l[i]?) hfl
    simp only [List.getElem?_map, hi', Option.map_some] at e
    obtain ⟨f, hf, hff⟩ := Option.map_eq_some_iff.1 e.symm
    obtain ⟨g', eg, hF⟩ := h.fls i f hf
    have e1 : f.now = f'.now := congrArg (fun x => x.2.1) hff
    have e2 : f.old = f'.old := congrArg (fun x => x.2.2) hff
    exact ⟨g', eg, (hF.stay hS trivial trivial).rest e1.symm e2.symm⟩
  · have e := congrArg List.length hfl
    rw [List.length_map, List.length_map] at e
    show ad.length = fs'.length
    rw [h.len, e]
theorem fs_len (h : DiskAt w g s base ok nb fb v ad) : ad.length = s.fsL.length := by rw [h.len]; simp [DS.fsL]
/-- who has a fast name loses it -/
theorem DiskAt.unfast (h : DiskAt w g s base ok nb fb v ad) (hI : UL s.fsL) {n : ByteArray} {i : Nat} (hi : s.fsL[i]? = some n) {D D' : DU} (hT : Tidy D) (hD : Tells D s.countF (s.fastOf ad)) (hD' : D' = if n = nameless then D else D.del (key n)) {m : Nat} (ho : w'.ownsMap Try.prog 9 filE fb m D') (hk : ∀ k, k ≠ fb → k < w.heap.size → w'.heap[k]? = w.heap[k]?) :
    DiskAt w' g (s.setFast i nameless) base ok nb fb v ad := by
  have hl := fs_len h
  refine h.turnF' (fs' := (s.setFast i nameless).files) hk ?_ (DS.setFast_rest s i nameless)
  show MapAt w' fb (cntL (s.setFast i nameless).fsL) (atL (s.setFast i nameless).fsL ad)
  rw [DS.setFast_fs]
  by_cases hn : n = nameless
  · rw [if_pos hn] at hD'
    subst hD'
    subst hn
    have e : s.fsL.set i nameless = s.fsL := by
      apply List.ext_getElem?
      intro j
      rw [List.getElem?_set]
      by_cases hij : i = j
      · subst hij
        rw [if_pos rfl, if_pos (List.getElem?_eq_some_iff.1 hi).1, hi]
      · rw [if_neg hij]
    rw [e]
    exact MapAt.mk' ho (hD.congr (DS.countF_L s) (fun k => DS.fastOf_L s ad k))
  · rw [if_neg hn] at hD'
    subst hD'
    refine MapAt.mk' ho ((hD.del hT n).congr ?_ (fun k => ?_))
    · have h1 := cntL_set hi nameless
      rw [if_neg hn, if_pos rfl] at h1
      have h2 : (s.fastOf ad n).isSome = true := by rw [DS.fastOf_L, atL_isSome hl hn, idxL_of hI hi hn]; rfl
      rw [h2, DS.countF_L, if_pos rfl]
      omega
    · rw [atL_set hI hl hi nameless (.inl rfl), DS.fastOf_L]
      exact (if_neg (fun h => h.2 rfl)).symm
/-- a file without a fast name gets one -/
theorem DiskAt.giveF (h : DiskAt w g s base ok nb fb v ad) (hI : UL s.fsL) {b : ByteArray} (hb : b ≠ nameless) {i q : Nat} (hi : s.fsL[i]? = some nameless) (hq : ad[i]? = some q) {D : DU} (hT : Tidy D) (hD : Tells D s.countF (s.fastOf ad)) {m : Nat} (ho : w'.ownsMap Try.prog 9 filE fb m (D.put (key b) (ptrD q))) (hk : ∀ k, k ≠ fb → k < w.heap.size → w'.heap[k]? = w.heap[k]?) :
    DiskAt w' g (s.giveF i b) base ok nb fb v ad := by
  have hl := fs_len h
  rw [DS.giveF_head]
  refine h.turnF' (fs' := (s.giveF i b).files) hk ?_ (DS.giveF_rest s i b)
  show MapAt w' fb (cntL (s.giveF i b).fsL) (atL (s.giveF i b).fsL ad)
  rw [DS.giveF_fs]
  refine MapAt.mk' ho ((hD.put hT hT.isMap b q).congr ?_ (fun k => ?_))
  · rw [give_cnt hl hi hb, DS.fastOf_L, DS.countF_L]
  · rw [give_at hI hl hi hb hq, DS.fastOf_L]
theorem nodup_at {ad : List Nat} (h : ad.Nodup) {i j q : Nat} (hi : ad[i]? = some q) (hj : ad[j]? = some q) : i = j := by
  obtain ⟨hi1, hi2⟩ := List.getElem?_eq_some_iff.1 hi
  obtain ⟨hj1, hj2⟩ := List.getElem?_eq_some_iff.1 hj
  rcases Nat.lt_trichotomy i j with hlt | hlt | hlt
  · exact absurd (hi2.trans hj2.symm) (List.pairwise_iff_getElem.1 h i j hi1 hj1 hlt)
  · exact hlt
  · exact absurd (hj2.trans hi2.symm) (List.pairwise_iff_getElem.1 h j i hj1 hi1 hlt)
/-- who is meant by a fast name -/
theorem fast_who (h : DiskAt w g s base ok nb fb v ad) {i q : Nat} (hq : ad[i]? = some q) {n : ByteArray} (hn : s.fastOf ad n = some q) : s.fsL[i]? = some n ∧ n ≠ nameless := by
  rw [DS.fastOf_L] at hn
  unfold atL at hn
  split at hn
  · cases hn
  · rename_i h0
    obtain ⟨j, hj, hjq⟩ := Option.bind_eq_some_iff.1 hn
    have := nodup_at h.nd hq hjq
    subst this
    exact ⟨idxL_some hj, h0⟩
theorem fast_is (h : DiskAt w g s base ok nb fb v ad) (hI : UL s.fsL) {i q : Nat} (hq : ad[i]? = some q) {n : ByteArray} (hi : s.fsL[i]? = some n) (hn : n ≠ nameless) : s.fastOf ad n = some q := by
  rw [DS.fastOf_L]
  unfold atL
  rw [if_neg hn, idxL_of hI hi hn]
  exact hq
end
end Go.Proofs.Ytnegcjgolaakcaa

/- (*disk.Disk).make: a work is made fast. -/
namespace Go.Proofs.Ytnegcjgolaakcaa
open Go.RowKit Go.Maps
open Go.Proofs.YtnegcjgolaakcaaW.PrintWords Go.Proofs.YtnegcjgolaakcaaW.PrintLast Go.Proofs.YtnegcjgolaakcaaW.PrintMore
set_option linter.unusedVariables false
set_option linter.unusedSimpArgs false
section
variable {w w' : World} {g : Nat} {s s' : DS} {base : Nat} {ok : Nat → Prop} {nb fb : Nat} {v v1 : Value} {ad ad' : List Nat} {T : Nat}
/-- what a call of make leaves -/
def MakePost (w : World) (g : Nat) (base : Nat) (ok : Nat → Prop) (nb fb : Nat) (v : Value) (ad : List Nat) (s : DS) (e : Ending) (w' : World) : Prop :=
  e = .returned (.tuple #[]) ∧ DiskAt w' g s base ok nb fb v ad ∧ Fr ok w w' ∧ Stay (fun t => t ≠ 79) w w'
def F52RT2 : Bool × List (List Nat × List Nat) := (true, [([], []), ([0], [0]), ([], []), ([], []), ([3], [3]), ([4], [4]), ([5], [5]), ([6], [6]), ([], []), ([2, 7, 8], [2, 7, 8]), ([1, 0, 1, 2, 3, 4, 5, 6, 7, 8, 9], [1]), ([10, 0, 1, 2, 3, 4, 5, 6, 7, 8, 9], [10]), ([11, 9, 9, 0, 1, 2, 3, 4, 5, 6, 7, 8, 9], [9, 11])])
def F52RB2 : List Nat := [0, 1, 0, 0, 8, 24, 56, 120, 0, 508, 1023, 2047, 4095]
theorem F52Rtab2 : rtab .any (opsOf Try.f52 2) = F52RT2 := by kernel_rfl
theorem F52Rbits2 : waitsOk F52RT2.2 F52RB2 = true := by kernel_rfl
def F52RT9 : Bool × List (List Nat × List Nat) := (true, [([], []), ([0], [0]), ([1], [1]), ([2], [2]), ([], []), ([4], [4]), ([5], [5]), ([], []), ([7], [7]), ([3, 6, 8, 0, 1, 2, 3, 4, 5, 6, 7, 8], [3, 6, 8])])
def F52RB9 : List Nat := [0, 1, 3, 7, 0, 16, 48, 0, 128, 511]
theorem F52Rtab9 : rtab .any (opsOf Try.f52 9) = F52RT9 := by kernel_rfl
theorem F52Rbits9 : waitsOk F52RT9.2 F52RB9 = true := by kernel_rfl
def F52RT11 : Bool × List (List Nat × List Nat) := (true, [([], []), ([0], [0]), ([1], [1]), ([2], [2]), ([], []), ([4], [4]), ([5], [5]), ([3, 6], [3, 6]), ([], []), ([8], [8]), ([7, 9], [7, 9])])
def F52RB11 : List Nat := [0, 1, 3, 7, 0, 16, 48, 127, 0, 256, 1023]
theorem F52Rtab11 : rtab .any (opsOf Try.f52 11) = F52RT11 := by kernel_rfl
theorem F52Rbits11 : waitsOk F52RT11.2 F52RB11 = true := by kernel_rfl
def F52RT12 : Bool × List (List Nat × List Nat) := (true, [([], []), ([0], [0]), ([1], [1]), ([2], [2]), ([], []), ([4], [4]), ([5], [5]), ([3, 6], [3, 6])])
def F52RB12 : List Nat := [0, 1, 3, 7, 0, 16, 48, 127]
theorem F52Rtab12 : rtab .any (opsOf Try.f52 12) = F52RT12 := by kernel_rfl
theorem F52Rbits12 : waitsOk F52RT12.2 F52RB12 = true := by kernel_rfl
set_option maxHeartbeats 4000000 in
set_option maxRecDepth 100000 in
theorem make_bytes1 (p : PW) (n : Nat) (B : Option Addr) (cb : Nat) (q : Nat) (h : DiskAt w g s base ok nb fb v ad) (hI : UL s.fsL) (hl : s.files.length ≤ 1073741824) (hfresh : ∀ k, w.heap.size ≤ k → ok k) (hq : ad[p.file]? = some q) (hpf : p.file < s.files.length)
    (hcb : p.b.length ≤ cb) (hB : bK.C w B p.b.length p.b) (hn : n ≤ 9223372036854775807) (hk : p.kind = 1) (hs : p.b.length ≤ 1073741824) (ho : ∀ f, s.files[p.file]? = some f → f.old.length ≤ 1073741824) :
    Calls Try.prog 52 #[ptrV g, .agg (cW (⟨p.kind, p.nm, p.tgt, p.len, q, p.b⟩ : MW) (.slice B p.b.length cb)), .int .i64 n] w (MakePost w g base ok nb fb v ad (s.work p n)) := by
  have hfi := List.getElem?_eq_getElem hpf
  generalize s.files[p.file] = f at hfi
  have HFI := Aside0.mk (And.intro hfi (And.intro hs (ho f hfi)))
  have HKIN := Aside0.mk hk
  rw [hk]
  clear hfi hk hs ho
  have H := Aside0.mk h
  have HI := Aside0.mk hI
  have HL := Aside0.mk hl
  have HF := Aside0.mk hfresh
  have HQ := Aside0.mk (And.intro hq hpf)
  have HB := Aside0.mk (And.intro hcb hB)
  have HN := Aside0.mk hn
  generalize hr : s.work p n = r
  have HR := Aside0.mk hr
  clear h hI hl hfresh hq hpf hcb hB hn hr
  go_enter Try.func52, Try.ntmps52
  go_upto_region 1 with fail
  have H1 := Aside0.mk (H.out.below (w' := w.alloc (.cells #[.int .i64 1, .string p.nm, .string p.tgt, .int .i64 p.len, ptrV q, .slice B p.b.length cb] 76)) (below_alloc (Below.refl _ _) _))
  have HB1 := Aside0.mk (show Below w.heap.size w (w.alloc (.cells #[.int .i64 1, .string p.nm, .string p.tgt, .int .i64 p.len, ptrV q, .slice B p.b.length cb] 76)) from below_alloc (Below.refl _ _) _)
  have HW1 := Aside0.mk (blk_new w (.cells #[.int .i64 1, .string p.nm, .string p.tgt, .int .i64 p.len, ptrV q, .slice B p.b.length cb] 76))
  generalize w.alloc (.cells #[.int .i64 1, .string p.nm, .string p.tgt, .int .i64 p.len, ptrV q, .slice B p.b.length cb] 76) = w1 at *
  obtain ⟨gb, hgb⟩ : ∃ gb, gb = w.heap.size := ⟨_, rfl⟩
  rw [← hgb] at HW1 ⊢
  have HGB := Aside0.mk hgb
  clear hgb
  have k0 : w1.cell? ⟨gb, 0, none⟩ = some (.int .i64 1) := (blk_cell HW1.out 0).trans rfl
  have k1 : w1.cell? ⟨gb, 1, none⟩ = some (.string p.nm) := (blk_cell HW1.out 1).trans rfl
  have k2 : w1.cell? ⟨gb, 2, none⟩ = some (.string p.tgt) := (blk_cell HW1.out 2).trans rfl
  have k3 : w1.cell? ⟨gb, 3, none⟩ = some (.int .i64 p.len) := (blk_cell HW1.out 3).trans rfl
  have k4 : w1.cell? ⟨gb, 4, none⟩ = some (ptrV q) := (blk_cell HW1.out 4).trans rfl
  have k5 : w1.cell? ⟨gb, 5, none⟩ = some (.slice B p.b.length cb) := (blk_cell HW1.out 5).trans rfl
  have y3 : w1.cell? ⟨g, 3, none⟩ = some (.map (some fb)) := (blk_cell H1.out.blk 3).trans rfl
  have hgs := blk_lt H1.out.blk
  have hgl := blk_lt HW1.out
  obtain ⟨q', eq', hFq⟩ := H1.out.fls _ _ HFI.out.1
  obtain rfl : q = q' := by rw [HQ.out.1] at eq'; injection eq'
  obtain ⟨_, _, vn, vo, hbq, _, hRo⟩ := hFq
  obtain ⟨Ao, co, rfl, hco, hCo⟩ := Kd.R_reads hRo
  have HQ1 := Aside0.mk hbq
  have HCO := Aside0.mk (And.intro hco hCo)
  have HCB := Aside0.mk (Kd.C_below HB.out.2 HB1.out)
  have q1 : w1.cell? ⟨q, 1, none⟩ = some (.slice Ao f.old.length co) := (blk_cell hbq 1).trans rfl
  have fq1 := blk_frozen hbq 1
  have lq := blk_lt hbq
  clear hbq hRo hco hCo eq'
  go_upto_region 2 with fail
  refine start_ (n := 13) (S := fun w' => w'.cell? ⟨gb, 0, none⟩ = some (.int .i64 1) ∧ w'.cell? ⟨gb, 1, none⟩ = some (.string p.nm) ∧ w'.cell? ⟨gb, 2, none⟩ = some (.string p.tgt) ∧ w'.cell? ⟨gb, 3, none⟩ = some (.int .i64 p.len) ∧ w'.cell? ⟨gb, 4, none⟩ = some (ptrV q) ∧ w'.cell? ⟨gb, 5, none⟩ = some (.slice B p.b.length cb) ∧ w'.cell? ⟨q, 1, none⟩ = some (.slice Ao f.old.length co)) (ds := [12]) #[false, false, false, false, false, false, false, false, false, false, false, false, false] (by kernel_rfl) rfl rfl ⟨k0, k1, k2, k3, k4, k5, q1⟩ (fun hHeld => ?_)
  refine with_tabW F52Rtab2 F52Rbits2 (fun HT_ HW_ => ?_)
  refine pure_ (i := 0) (N := some 11) (v := ?_) (a' := ?_) #[true, false, false, false, false, false, false, false, false, false, false, false, false] rfl rfl (any_of HT_.out (by kernel_rfl)) (fun _ _ _ h => h) (Or.inl ⟨by rfl, ?_⟩) ?_ ?_
  rotate_left
  · intro w'
    go_simp
    with_reducible rfl
  rotate_left
  · simp only [Act.put, List.setIfInBounds_toArray, List.set_cons_zero, List.set_cons_succ, i64_w, i32_w]
    rfl
  refine pure_ (i := 3) (N := some 14) (v := ?_) (a' := ?_) #[true, false, false, true, false, false, false, false, false, false, false, false, false] rfl rfl (any_of HT_.out (by kernel_rfl)) (fun _ _ _ h => h) (Or.inl ⟨by rfl, ?_⟩) ?_ ?_
  rotate_left
  · intro w'
    go_simp
    with_reducible rfl
  rotate_left
  · simp only [Act.put, List.setIfInBounds_toArray, List.set_cons_zero, List.set_cons_succ, i64_w, i32_w]
    rfl
  refine pure_ (i := 8) (N := some 19) (v := ?_) (a' := ?_) #[true, false, false, true, false, false, false, false, true, false, false, false, false] rfl rfl (any_of HT_.out (by kernel_rfl)) (fun _ _ _ h => h) (Or.inl ⟨by rfl, ?_⟩) ?_ ?_
  rotate_left
  · intro w'
    go_simp
    with_reducible rfl
  rotate_left
  · simp only [Act.put, List.setIfInBounds_toArray, List.set_cons_zero, List.set_cons_succ, i64_w, i32_w]
    rfl
  refine take_ (i := 1) (N := some 12) (v := ?_) (a' := ?_) #[true, true, false, true, false, false, false, false, true, false, false, false, false] rfl rfl (take_ofW HT_.out HW_.out (by kernel_rfl)) (fun _ _ _ h => h) (Or.inl ⟨by rfl, ?_⟩) hHeld ?_ ?_
  rotate_left
  · rintro w' ⟨s0, s1, s2, s3, s4, s5, s6⟩
    go_simp
    with_reducible rfl
  rotate_left
  · simp only [Act.put, List.setIfInBounds_toArray, List.set_cons_zero, List.set_cons_succ, i64_w, i32_w]
    rfl
  refine take_ (i := 2) (N := some 13) (v := ?_) (a' := ?_) #[true, true, true, true, false, false, false, false, true, false, false, false, false] rfl rfl (take_ofW HT_.out HW_.out (by kernel_rfl)) (fun _ _ _ h => h) (Or.inl ⟨by rfl, ?_⟩) hHeld ?_ ?_
  rotate_left
  · rintro w' ⟨s0, s1, s2, s3, s4, s5, s6⟩
    go_simp
    with_reducible rfl
  rotate_left
  · simp only [Act.put, List.setIfInBounds_toArray, List.set_cons_zero, List.set_cons_succ, i64_w, i32_w]
    rfl
  refine take_ (i := 4) (N := some 15) (v := ?_) (a' := ?_) #[true, true, true, true, true, false, false, false, true, false, false, false, false] rfl rfl (take_ofW HT_.out HW_.out (by kernel_rfl)) (fun _ _ _ h => h) (Or.inl ⟨by rfl, ?_⟩) hHeld ?_ ?_
  rotate_left
  · rintro w' ⟨s0, s1, s2, s3, s4, s5, s6⟩
    go_simp
    with_reducible rfl
  rotate_left
  · simp only [Act.put, List.setIfInBounds_toArray, List.set_cons_zero, List.set_cons_succ, i64_w, i32_w]
    rfl
  refine pure_ (i := 5) (N := some 16) (v := ?_) (a' := ?_) #[true, true, true, true, true, true, false, false, true, false, false, false, false] rfl rfl (any_of HT_.out (by kernel_rfl)) (fun _ _ _ h => h) (Or.inl ⟨by rfl, ?_⟩) ?_ ?_
  rotate_left
  · intro w'
    go_simp
    with_reducible rfl
  rotate_left
  · simp only [Act.put, List.setIfInBounds_toArray, List.set_cons_zero, List.set_cons_succ, i64_w, i32_w]
    rfl
  refine pure_ (i := 6) (N := some 17) (v := ?_) (a' := ?_) #[true, true, true, true, true, true, true, false, true, false, false, false, false] rfl rfl (any_of HT_.out (by kernel_rfl)) (fun _ _ _ h => h) (Or.inl ⟨by rfl, ?_⟩) ?_ ?_
  rotate_left
  · intro w'
    go_simp
    with_reducible rfl
  rotate_left
  · simp only [Act.put, List.setIfInBounds_toArray, List.set_cons_zero, List.set_cons_succ, i64_w, i32_w]
    rfl
  refine take_ (i := 7) (N := some 18) (v := ?_) (a' := ?_) #[true, true, true, true, true, true, true, true, true, false, false, false, false] rfl rfl (take_ofW HT_.out HW_.out (by kernel_rfl)) (fun _ _ _ h => h) (Or.inl ⟨by rfl, ?_⟩) hHeld ?_ ?_
  rotate_left
  · rintro w' ⟨s0, s1, s2, s3, s4, s5, s6⟩
    go_simp
    with_reducible rfl
  rotate_left
  · simp only [Act.put, List.setIfInBounds_toArray, List.set_cons_zero, List.set_cons_succ, i64_w, i32_w]
    rfl
  refine one_ (i := 9) (N := some 20) #[true, true, true, true, true, true, true, true, true, true, false, false, false] rfl rfl (one_of HT_.out (by kernel_rfl)) (by decide) (fun K hK => ?_)
  refine goes_ Try.func69 (by kernel_rfl) rfl #[.agg (cW (⟨1, p.nm, p.tgt, p.len, q, p.b⟩ : MW) (.slice B p.b.length cb)), .slice Ao f.old.length co, .int .i64 n] (by rfl) rfl rfl (by simp only [List.map_toArray, List.map_cons, List.map_nil]; rfl) ?_
  with_reducible refine (on_calls (⟨1, p.nm, p.tgt, p.len, q, p.b⟩ : MW) B cb Ao co f.old n _ HB.out.1 (Kd.C_drew HCB.out) HCO.out.1 (Kd.C_drew HCO.out.2) (by have h1 := HFI.out.2.1; have h2 := HFI.out.2.2; show f.old.length + p.b.length ≤ 1099511627776; omega) HN.out).mono ?_
  rintro e w8 ⟨u, rfl, hR8, hB8⟩
  refine ⟨_, rfl, ?_⟩
  obtain ⟨A8, c8, hu8⟩ := Kd.R_slice hR8
  generalize List.length _ = l8 at hu8
  have HR8 := Aside0.mk hR8
  subst hu8
  have hB8' : Below w1.heap.size w1 w8 := ⟨hB8.os, hB8.tape, hB8.output, hB8.size, hB8.block⟩
  have HB8 := Aside0.mk hB8'
  have hK8 := blk_below HW1.out hB8'
  have hQ8 := blk_below HQ1.out hB8'
  have fq8 := blk_frozen hQ8 1
  have lq8 := blk_lt hQ8
  have lg8 := blk_lt hK8
  clear hR8 hB8
  refine hK.out _ _ ⟨(blk_cell hK8 0).trans rfl, (blk_cell hK8 1).trans rfl, (blk_cell hK8 2).trans rfl, (blk_cell hK8 3).trans rfl, (blk_cell hK8 4).trans rfl, (blk_cell hK8 5).trans rfl, (blk_cell hQ8 1).trans rfl⟩ (fun hHeld => ?_)
  clear hK K
  refine norm_ (a' := ?_) ?_ ?_
  rotate_left
  · show Act.put _ (some 20) _ = _
    simp only [Act.put, List.setIfInBounds_toArray, List.set_cons_zero, List.set_cons_succ, i64_w, i32_w]
    rfl
  refine pure_ (i := 10) (N := some 21) (v := ?_) (a' := ?_) #[true, true, true, true, true, true, true, true, true, true, true, false, false] rfl rfl (any_of HT_.out (by kernel_rfl)) (fun _ _ _ h => h) (Or.inl ⟨by rfl, ?_⟩) ?_ ?_
  rotate_left
  · intro w'
    go_simp
    with_reducible rfl
  rotate_left
  · simp only [Act.put, List.setIfInBounds_toArray, List.set_cons_zero, List.set_cons_succ, i64_w, i32_w]
    rfl
  refine pure_ (i := 11) (N := some 22) (v := ?_) (a' := ?_) #[true, true, true, true, true, true, true, true, true, true, true, true, false] rfl rfl (any_of HT_.out (by kernel_rfl)) (fun _ _ _ h => h) (Or.inl ⟨by rfl, ?_⟩) ?_ ?_
  rotate_left
  · intro w'
    go_simp
    with_reducible rfl
  rotate_left
  · simp only [Act.put, List.setIfInBounds_toArray, List.set_cons_zero, List.set_cons_succ, i64_w, i32_w]
    rfl
  refine last_ (i := 12) (N := none) #[true, true, true, true, true, true, true, true, true, true, true, true, true] rfl rfl (one_of HT_.out (by kernel_rfl)) (by decide) (fun K hK => ?_)
  refine skip_ (w1 := ?_) (by rfl) rfl ?_ ?_
  rotate_left
  · go_simp
    rfl
  refine hK.out _ _ ?_
  clear hK K
  refine done_ (done_of HT_.out (by kernel_rfl)) ?_
  go_wp2_with fail
  go_end0
  have hR9 : bK.R 5 w8 w1.heap.size (fun _ => True) (.slice A8 l8 c8) ((if (1 : Int) = 1 then [] else f.old) ++ p.b.take n) := HR8.out
  have hfr : ∀ k, w1.heap.size ≤ k → ok k := fun k hk => HF.out k (Nat.le_trans HB1.out.size hk)
  have hbs : base ≤ w1.heap.size := Nat.le_trans H1.out.okg.2 (Nat.le_of_lt (blk_lt H1.out.blk))
  have H9 := (H1.out.below HB8.out).setOld HFI.out.1 HQ.out.1 (R_fresh hR9 hbs hfr)
  have e : r = s.setOld p.file ((if (1 : Int) = 1 then [] else f.old) ++ p.b.take n) := by
    rw [← HR.out]
    unfold DS.work DS.oldAt
    rw [HKIN.out, HFI.out.1]
    rfl
  rw [e]
  have hok : ok q := by
    obtain ⟨q', eq', hFq⟩ := H1.out.fls _ _ HFI.out.1
    rw [HQ.out.1] at eq'
    cases eq'
    exact hFq.1
  exact ⟨rfl, H9, Fr.setCell (p := ⟨q, 1, none⟩) ((Fr.ofBelow HB1.out : Fr ok w w1).trans (Fr.ofBelow HB8.out) (fun k h _ => h)) (fun _ => hok) _, ((Stay.of_below HB1.out _).trans (Stay.of_below HB8.out _)).trans (Stay.of_set (blk_below HQ1.out HB8.out) 1 _ (by simp))⟩
set_option maxHeartbeats 4000000 in
set_option maxRecDepth 100000 in
theorem make_bytes2 (p : PW) (n : Nat) (B : Option Addr) (cb : Nat) (q : Nat) (h : DiskAt w g s base ok nb fb v ad) (hI : UL s.fsL) (hl : s.files.length ≤ 1073741824) (hfresh : ∀ k, w.heap.size ≤ k → ok k) (hq : ad[p.file]? = some q) (hpf : p.file < s.files.length)
    (hcb : p.b.length ≤ cb) (hB : bK.C w B p.b.length p.b) (hn : n ≤ 9223372036854775807) (hk : p.kind = 2) (hs : p.b.length ≤ 1073741824) (ho : ∀ f, s.files[p.file]? = some f → f.old.length ≤ 1073741824) :
    Calls Try.prog 52 #[ptrV g, .agg (cW (⟨p.kind, p.nm, p.tgt, p.len, q, p.b⟩ : MW) (.slice B p.b.length cb)), .int .i64 n] w (MakePost w g base ok nb fb v ad (s.work p n)) := by
  have hfi := List.getElem?_eq_getElem hpf
  generalize s.files[p.file] = f at hfi
  have HFI := Aside0.mk (And.intro hfi (And.intro hs (ho f hfi)))
  have HKIN := Aside0.mk hk
  rw [hk]
  clear hfi hk hs ho
  have H := Aside0.mk h
  have HI := Aside0.mk hI
  have HL := Aside0.mk hl
  have HF := Aside0.mk hfresh
  have HQ := Aside0.mk (And.intro hq hpf)
  have HB := Aside0.mk (And.intro hcb hB)
  have HN := Aside0.mk hn
  generalize hr : s.work p n = r
  have HR := Aside0.mk hr
  clear h hI hl hfresh hq hpf hcb hB hn hr
  go_enter Try.func52, Try.ntmps52
  go_upto_region 1 with fail
  have H1 := Aside0.mk (H.out.below (w' := w.alloc (.cells #[.int .i64 2, .string p.nm, .string p.tgt, .int .i64 p.len, ptrV q, .slice B p.b.length cb] 76)) (below_alloc (Below.refl _ _) _))
  have HB1 := Aside0.mk (show Below w.heap.size w (w.alloc (.cells #[.int .i64 2, .string p.nm, .string p.tgt, .int .i64 p.len, ptrV q, .slice B p.b.length cb] 76)) from below_alloc (Below.refl _ _) _)
  have HW1 := Aside0.mk (blk_new w (.cells #[.int .i64 2, .string p.nm, .string p.tgt, .int .i64 p.len, ptrV q, .slice B p.b.length cb] 76))
  generalize w.alloc (.cells #[.int .i64 2, .string p.nm, .string p.tgt, .int .i64 p.len, ptrV q, .slice B p.b.length cb] 76) = w1 at *
  obtain ⟨gb, hgb⟩ : ∃ gb, gb = w.heap.size := ⟨_, rfl⟩
  rw [← hgb] at HW1 ⊢
  have HGB := Aside0.mk hgb
  clear hgb
  have k0 : w1.cell? ⟨gb, 0, none⟩ = some (.int .i64 2) := (blk_cell HW1.out 0).trans rfl
  have k1 : w1.cell? ⟨gb, 1, none⟩ = some (.string p.nm) := (blk_cell HW1.out 1).trans rfl
  have k2 : w1.cell? ⟨gb, 2, none⟩ = some (.string p.tgt) := (blk_cell HW1.out 2).trans rfl
  have k3 : w1.cell? ⟨gb, 3, none⟩ = some (.int .i64 p.len) := (blk_cell HW1.out 3).trans rfl
  have k4 : w1.cell? ⟨gb, 4, none⟩ = some (ptrV q) := (blk_cell HW1.out 4).trans rfl
  have k5 : w1.cell? ⟨gb, 5, none⟩ = some (.slice B p.b.length cb) := (blk_cell HW1.out 5).trans rfl
  have y3 : w1.cell? ⟨g, 3, none⟩ = some (.map (some fb)) := (blk_cell H1.out.blk 3).trans rfl
  have hgs := blk_lt H1.out.blk
  have hgl := blk_lt HW1.out
  obtain ⟨q', eq', hFq⟩ := H1.out.fls _ _ HFI.out.1
  obtain rfl : q = q' := by rw [HQ.out.1] at eq'; injection eq'
  obtain ⟨_, _, vn, vo, hbq, _, hRo⟩ := hFq
  obtain ⟨Ao, co, rfl, hco, hCo⟩ := Kd.R_reads hRo
  have HQ1 := Aside0.mk hbq
  have HCO := Aside0.mk (And.intro hco hCo)
  have HCB := Aside0.mk (Kd.C_below HB.out.2 HB1.out)
  have q1 : w1.cell? ⟨q, 1, none⟩ = some (.slice Ao f.old.length co) := (blk_cell hbq 1).trans rfl
  have fq1 := blk_frozen hbq 1
  have lq := blk_lt hbq
  clear hbq hRo hco hCo eq'
  go_upto_region 2 with fail
  refine start_ (n := 13) (S := fun w' => w'.cell? ⟨gb, 0, none⟩ = some (.int .i64 2) ∧ w'.cell? ⟨gb, 1, none⟩ = some (.string p.nm) ∧ w'.cell? ⟨gb, 2, none⟩ = some (.string p.tgt) ∧ w'.cell? ⟨gb, 3, none⟩ = some (.int .i64 p.len) ∧ w'.cell? ⟨gb, 4, none⟩ = some (ptrV q) ∧ w'.cell? ⟨gb, 5, none⟩ = some (.slice B p.b.length cb) ∧ w'.cell? ⟨q, 1, none⟩ = some (.slice Ao f.old.length co)) (ds := [12]) #[false, false, false, false, false, false, false, false, false, false, false, false, false] (by kernel_rfl) rfl rfl ⟨k0, k1, k2, k3, k4, k5, q1⟩ (fun hHeld => ?_)
  refine with_tabW F52Rtab2 F52Rbits2 (fun HT_ HW_ => ?_)
  refine pure_ (i := 0) (N := some 11) (v := ?_) (a' := ?_) #[true, false, false, false, false, false, false, false, false, false, false, false, false] rfl rfl (any_of HT_.out (by kernel_rfl)) (fun _ _ _ h => h) (Or.inl ⟨by rfl, ?_⟩) ?_ ?_
  rotate_left
  · intro w'
    go_simp
    with_reducible rfl
  rotate_left
  · simp only [Act.put, List.setIfInBounds_toArray, List.set_cons_zero, List.set_cons_succ, i64_w, i32_w]
    rfl
  refine pure_ (i := 3) (N := some 14) (v := ?_) (a' := ?_) #[true, false, false, true, false, false, false, false, false, false, false, false, false] rfl rfl (any_of HT_.out (by kernel_rfl)) (fun _ _ _ h => h) (Or.inl ⟨by rfl, ?_⟩) ?_ ?_
  rotate_left
  · intro w'
    go_simp
    with_reducible rfl
  rotate_left
  · simp only [Act.put, List.setIfInBounds_toArray, List.set_cons_zero, List.set_cons_succ, i64_w, i32_w]
    rfl
  refine pure_ (i := 8) (N := some 19) (v := ?_) (a' := ?_) #[true, false, false, true, false, false, false, false, true, false, false, false, false] rfl rfl (any_of HT_.out (by kernel_rfl)) (fun _ _ _ h => h) (Or.inl ⟨by rfl, ?_⟩) ?_ ?_
  rotate_left
  · intro w'
    go_simp
    with_reducible rfl
  rotate_left
  · simp only [Act.put, List.setIfInBounds_toArray, List.set_cons_zero, List.set_cons_succ, i64_w, i32_w]
    rfl
  refine take_ (i := 1) (N := some 12) (v := ?_) (a' := ?_) #[true, true, false, true, false, false, false, false, true, false, false, false, false] rfl rfl (take_ofW HT_.out HW_.out (by kernel_rfl)) (fun _ _ _ h => h) (Or.inl ⟨by rfl, ?_⟩) hHeld ?_ ?_
  rotate_left
  · rintro w' ⟨s0, s1, s2, s3, s4, s5, s6⟩
    go_simp
    with_reducible rfl
  rotate_left
  · simp only [Act.put, List.setIfInBounds_toArray, List.set_cons_zero, List.set_cons_succ, i64_w, i32_w]
    rfl
  refine take_ (i := 2) (N := some 13) (v := ?_) (a' := ?_) #[true, true, true, true, false, false, false, false, true, false, false, false, false] rfl rfl (take_ofW HT_.out HW_.out (by kernel_rfl)) (fun _ _ _ h => h) (Or.inl ⟨by rfl, ?_⟩) hHeld ?_ ?_
  rotate_left
  · rintro w' ⟨s0, s1, s2, s3, s4, s5, s6⟩
    go_simp
    with_reducible rfl
  rotate_left
  · simp only [Act.put, List.setIfInBounds_toArray, List.set_cons_zero, List.set_cons_succ, i64_w, i32_w]
    rfl
  refine take_ (i := 4) (N := some 15) (v := ?_) (a' := ?_) #[true, true, true, true, true, false, false, false, true, false, false, false, false] rfl rfl (take_ofW HT_.out HW_.out (by kernel_rfl)) (fun _ _ _ h => h) (Or.inl ⟨by rfl, ?_⟩) hHeld ?_ ?_
  rotate_left
  · rintro w' ⟨s0, s1, s2, s3, s4, s5, s6⟩
    go_simp
    with_reducible rfl
  rotate_left
  · simp only [Act.put, List.setIfInBounds_toArray, List.set_cons_zero, List.set_cons_succ, i64_w, i32_w]
    rfl
  refine pure_ (i := 5) (N := some 16) (v := ?_) (a' := ?_) #[true, true, true, true, true, true, false, false, true, false, false, false, false] rfl rfl (any_of HT_.out (by kernel_rfl)) (fun _ _ _ h => h) (Or.inl ⟨by rfl, ?_⟩) ?_ ?_
  rotate_left
  · intro w'
    go_simp
    with_reducible rfl
  rotate_left
  · simp only [Act.put, List.setIfInBounds_toArray, List.set_cons_zero, List.set_cons_succ, i64_w, i32_w]
    rfl
  refine pure_ (i := 6) (N := some 17) (v := ?_) (a' := ?_) #[true, true, true, true, true, true, true, false, true, false, false, false, false] rfl rfl (any_of HT_.out (by kernel_rfl)) (fun _ _ _ h => h) (Or.inl ⟨by rfl, ?_⟩) ?_ ?_
  rotate_left
  · intro w'
    go_simp
    with_reducible rfl
  rotate_left
  · simp only [Act.put, List.setIfInBounds_toArray, List.set_cons_zero, List.set_cons_succ, i64_w, i32_w]
    rfl
  refine take_ (i := 7) (N := some 18) (v := ?_) (a' := ?_) #[true, true, true, true, true, true, true, true, true, false, false, false, false] rfl rfl (take_ofW HT_.out HW_.out (by kernel_rfl)) (fun _ _ _ h => h) (Or.inl ⟨by rfl, ?_⟩) hHeld ?_ ?_
  rotate_left
  · rintro w' ⟨s0, s1, s2, s3, s4, s5, s6⟩
    go_simp
    with_reducible rfl
  rotate_left
  · simp only [Act.put, List.setIfInBounds_toArray, List.set_cons_zero, List.set_cons_succ, i64_w, i32_w]
    rfl
  refine one_ (i := 9) (N := some 20) #[true, true, true, true, true, true, true, true, true, true, false, false, false] rfl rfl (one_of HT_.out (by kernel_rfl)) (by decide) (fun K hK => ?_)
  refine goes_ Try.func69 (by kernel_rfl) rfl #[.agg (cW (⟨2, p.nm, p.tgt, p.len, q, p.b⟩ : MW) (.slice B p.b.length cb)), .slice Ao f.old.length co, .int .i64 n] (by rfl) rfl rfl (by simp only [List.map_toArray, List.map_cons, List.map_nil]; rfl) ?_
  with_reducible refine (on_calls (⟨2, p.nm, p.tgt, p.len, q, p.b⟩ : MW) B cb Ao co f.old n _ HB.out.1 (Kd.C_drew HCB.out) HCO.out.1 (Kd.C_drew HCO.out.2) (by have h1 := HFI.out.2.1; have h2 := HFI.out.2.2; show f.old.length + p.b.length ≤ 1099511627776; omega) HN.out).mono ?_
  rintro e w8 ⟨u, rfl, hR8, hB8⟩
  refine ⟨_, rfl, ?_⟩
  obtain ⟨A8, c8, hu8⟩ := Kd.R_slice hR8
  generalize List.length _ = l8 at hu8
  have HR8 := Aside0.mk hR8
  subst hu8
  have hB8' : Below w1.heap.size w1 w8 := ⟨hB8.os, hB8.tape, hB8.output, hB8.size, hB8.block⟩
  have HB8 := Aside0.mk hB8'
  have hK8 := blk_below HW1.out hB8'
  have hQ8 := blk_below HQ1.out hB8'
  have fq8 := blk_frozen hQ8 1
  have lq8 := blk_lt hQ8
  have lg8 := blk_lt hK8
  clear hR8 hB8
  refine hK.out _ _ ⟨(blk_cell hK8 0).trans rfl, (blk_cell hK8 1).trans rfl, (blk_cell hK8 2).trans rfl, (blk_cell hK8 3).trans rfl, (blk_cell hK8 4).trans rfl, (blk_cell hK8 5).trans rfl, (blk_cell hQ8 1).trans rfl⟩ (fun hHeld => ?_)
  clear hK K
  refine norm_ (a' := ?_) ?_ ?_
  rotate_left
  · show Act.put _ (some 20) _ = _
    simp only [Act.put, List.setIfInBounds_toArray, List.set_cons_zero, List.set_cons_succ, i64_w, i32_w]
    rfl
  refine pure_ (i := 10) (N := some 21) (v := ?_) (a' := ?_) #[true, true, true, true, true, true, true, true, true, true, true, false, false] rfl rfl (any_of HT_.out (by kernel_rfl)) (fun _ _ _ h => h) (Or.inl ⟨by rfl, ?_⟩) ?_ ?_
  rotate_left
  · intro w'
    go_simp
    with_reducible rfl
  rotate_left
  · simp only [Act.put, List.setIfInBounds_toArray, List.set_cons_zero, List.set_cons_succ, i64_w, i32_w]
    rfl
  refine pure_ (i := 11) (N := some 22) (v := ?_) (a' := ?_) #[true, true, true, true, true, true, true, true, true, true, true, true, false] rfl rfl (any_of HT_.out (by kernel_rfl)) (fun _ _ _ h => h) (Or.inl ⟨by rfl, ?_⟩) ?_ ?_
  rotate_left
  · intro w'
    go_simp
    with_reducible rfl
  rotate_left
  · simp only [Act.put, List.setIfInBounds_toArray, List.set_cons_zero, List.set_cons_succ, i64_w, i32_w]
    rfl
  refine last_ (i := 12) (N := none) #[true, true, true, true, true, true, true, true, true, true, true, true, true] rfl rfl (one_of HT_.out (by kernel_rfl)) (by decide) (fun K hK => ?_)
  refine skip_ (w1 := ?_) (by rfl) rfl ?_ ?_
  rotate_left
  · go_simp
    rfl
  refine hK.out _ _ ?_
  clear hK K
  refine done_ (done_of HT_.out (by kernel_rfl)) ?_
  go_wp2_with fail
  go_end0
  have hR9 : bK.R 5 w8 w1.heap.size (fun _ => True) (.slice A8 l8 c8) ((if (2 : Int) = 1 then [] else f.old) ++ p.b.take n) := HR8.out
  have hfr : ∀ k, w1.heap.size ≤ k → ok k := fun k hk => HF.out k (Nat.le_trans HB1.out.size hk)
  have hbs : base ≤ w1.heap.size := Nat.le_trans H1.out.okg.2 (Nat.le_of_lt (blk_lt H1.out.blk))
  have H9 := (H1.out.below HB8.out).setOld HFI.out.1 HQ.out.1 (R_fresh hR9 hbs hfr)
  have e : r = s.setOld p.file ((if (2 : Int) = 1 then [] else f.old) ++ p.b.take n) := by
    rw [← HR.out]
    unfold DS.work DS.oldAt
    rw [HKIN.out, HFI.out.1]
    rfl
  rw [e]
  have hok : ok q := by
    obtain ⟨q', eq', hFq⟩ := H1.out.fls _ _ HFI.out.1
    rw [HQ.out.1] at eq'
    cases eq'
    exact hFq.1
  exact ⟨rfl, H9, Fr.setCell (p := ⟨q, 1, none⟩) ((Fr.ofBelow HB1.out : Fr ok w w1).trans (Fr.ofBelow HB8.out) (fun k h _ => h)) (fun _ => hok) _, ((Stay.of_below HB1.out _).trans (Stay.of_below HB8.out _)).trans (Stay.of_set (blk_below HQ1.out HB8.out) 1 _ (by simp))⟩
end
end Go.Proofs.Ytnegcjgolaakcaa

/- (*disk.Disk).make: a work of a name that is gone. -/
namespace Go.Proofs.Ytnegcjgolaakcaa
open Go.RowKit Go.Maps
open Go.Proofs.YtnegcjgolaakcaaW.PrintWords Go.Proofs.YtnegcjgolaakcaaW.PrintLast Go.Proofs.YtnegcjgolaakcaaW.PrintMore
set_option linter.unusedVariables false
set_option linter.unusedSimpArgs false
section
variable {w w' : World} {g : Nat} {s s' : DS} {base : Nat} {ok : Nat → Prop} {nb fb : Nat} {v v1 : Value} {ad ad' : List Nat} {T : Nat}
theorem info79 : ∃ j, Try.prog.info? 79 = some j ∧ j.size ≠ 0 := by
  have h : (Try.prog.info? 79).map (fun i => i.size) = some 2 := by kernel_rfl
  obtain ⟨j, hj, hs⟩ := Option.map_eq_some_iff.1 h
  exact ⟨j, hj, by rw [hs]; decide⟩
/-- two files' pointers -/
theorem eql_run {c : Option Nat} {q : Nat} {cq : Array Value} (hq : IsB w q cq 79) (hc : ∀ c', c = some c' → ∃ cc, IsB w c' cc 79) : (binOp .eql 71 (filV c) (ptrV q)).run Try.prog w = .ok (.bool (decide (c = some q))) w := by
  obtain ⟨j, hj, hs⟩ := info79
  cases c with
  | none =>
    have h : ∀ d : Nat, (Op.equalIn (d + 1) 71 (.pointer none) (ptrV q)).run Try.prog w = .ok false w := fun d => by
      simp [Op.equalIn, run_underlying Try.underlying71, sizeOf, typeInfo, hj]
    show (binOp .eql 71 (.pointer none) (ptrV q)).run Try.prog w = _
    simp only [binOp]
    simp [Op.equal, Op.maxDepth, h 9999]
  | some c =>
    by_cases e : c = q
    · subst e
      rw [show decide (some c = some c) = true by simp]
      exact run_eql_ptr_same w _ Try.underlying71 hj
    · rw [show decide (some c = some q) = false by simp [e]]
      obtain ⟨cc, hcc⟩ := hc c rfl
      exact run_eql_ptr_other w Try.underlying71 hj hs (fun h => e (by injection h)) hcc hq
theorem eql_exec {a : Act} {oi : Oper} {t t' : TypeId} {x y : Operand} {V W : Option Addr} {b : Bool} (hop : oi.op = Op.binOp .eql t x y t') (hx : a.eval x = .pointer V) (hy : a.eval y = .pointer W) (hrun : (binOp .eql t (.pointer V) (.pointer W)).run Try.prog w = .ok (.bool b) w) :
    (execOp a.eval oi).run Try.prog w = .ok (.value (.bool b)) w := by
  have h : eqGuard .eql t x y (.pointer V) (.pointer W) = pure () := rfl
  simp [execOp, hop, hx, hy, h, hrun, Result.andThen]
theorem file_blk (h : DiskAt w g s base ok nb fb v ad) {i q : Nat} (hq : ad[i]? = some q) : ∃ cc, IsB w q cc 79 := by
  have hl := (List.getElem?_eq_some_iff.1 hq).1
  rw [h.len] at hl
  obtain ⟨q', e, hF⟩ := h.fls i _ (List.getElem?_eq_getElem hl)
  rw [hq] at e
  cases e
  obtain ⟨_, _, _, _, hb, _⟩ := hF
  exact ⟨_, hb⟩
theorem fast_blk (h : DiskAt w g s base ok nb fb v ad) {n : ByteArray} {c : Nat} (hc : s.fastOf ad n = some c) : ∃ cc, IsB w c cc 79 := by
  rw [DS.fastOf_L] at hc
  unfold atL at hc
  split at hc
  · cases hc
  · obtain ⟨j, _, hj⟩ := Option.bind_eq_some_iff.1 hc
    exact file_blk h hj
theorem look_run1 {D : DU} {m : Nat} {n : ByteArray} {get : ByteArray → Option Nat} {k : Nat} (h : w.ownsMap Try.prog 9 filE nb m D) (hD : Tells D k get) (hs : n.size ≤ maxLen) :
    (Instr.lookup 65 (.map (some nb)) (.string n) false).run Try.prog w = .ok (filV (get n)) w := by
  obtain ⟨v, ps, hr, hv⟩ := h.lookup keyLaw Try.underlying65 (zeroF w) filE_nil (key_of hs)
  rw [hr]
  cases hg : get n with
  | none => rw [look_none hD hg hv]; rfl
  | some c => rw [look_some hD hg hv]; rfl
theorem look_exec1 {a : Act} {oi : Oper} {t : TypeId} {m x : Operand} {b : Nat} {k V : Value} (hop : oi.op = Op.lookup t m x false) (hm : a.eval m = .map (some b)) (hx : a.eval x = k) (hrun : (Instr.lookup t (.map (some b)) k false).run Try.prog w = .ok V w) :
    (execOp a.eval oi).run Try.prog w = .ok (.value V) w := by
  simp [execOp, hop, hm, hx, hrun, Result.andThen]
theorem fastAt_eq (h : DiskAt w g s base ok nb fb v ad) (hI : UL s.fsL) {i q : Nat} (hq : ad[i]? = some q) {n : ByteArray} (hn : n ≠ nameless) : s.fastAt i = n ↔ s.fastOf ad n = some q := by
  have e : s.fastAt i = (s.fsL[i]?).getD nameless := by unfold DS.fastAt DS.fsL; rw [List.getElem?_map]
  rw [e]
  constructor
  · intro hx
    have hi : s.fsL[i]? = some n := by
      cases hc : s.fsL[i]? with
      | none => rw [hc] at hx; exact absurd hx.symm hn
      | some m => rw [hc] at hx; exact congrArg some hx
    exact fast_is h hI hq hi hn
  · intro hx
    rw [(fast_who h hq hx).1]
    rfl
set_option maxHeartbeats 4000000 in
set_option maxRecDepth 100000 in
theorem make_gone (p : PW) (n : Nat) (B : Option Addr) (cb : Nat) (q : Nat) (h : DiskAt w g s base ok nb fb v ad) (hI : UL s.fsL) (hl : s.files.length ≤ 1073741824) (hfresh : ∀ k, w.heap.size ≤ k → ok k) (hq : ad[p.file]? = some q) (hpf : p.file < s.files.length)
    (hcb : p.b.length ≤ cb) (hB : bK.C w B p.b.length p.b) (hn : n ≤ 9223372036854775807) (hk : p.kind = 4) (hs : p.nm.size ≤ maxLen) (hne : p.nm ≠ nameless) :
    Calls Try.prog 52 #[ptrV g, .agg (cW (⟨p.kind, p.nm, p.tgt, p.len, q, p.b⟩ : MW) (.slice B p.b.length cb)), .int .i64 n] w (MakePost w g base ok nb fb v ad (s.work p n)) := by
  have HKIN := Aside0.mk hk
  have HS := Aside0.mk hs
  have HNE := Aside0.mk hne
  have HFA := Aside0.mk (fastAt_eq h hI hq hne)
  rw [hk]
  clear hk hs hne
  have H := Aside0.mk h
  have HI := Aside0.mk hI
  have HL := Aside0.mk hl
  have HF := Aside0.mk hfresh
  have HQ := Aside0.mk (And.intro hq hpf)
  have HB := Aside0.mk (And.intro hcb hB)
  have HN := Aside0.mk hn
  generalize hr : s.work p n = r
  have HR := Aside0.mk hr
  clear h hI hl hfresh hq hpf hcb hB hn hr
  go_enter Try.func52, Try.ntmps52
  go_upto_region 1 with fail
  have H1 := Aside0.mk (H.out.below (w' := w.alloc (.cells #[.int .i64 4, .string p.nm, .string p.tgt, .int .i64 p.len, ptrV q, .slice B p.b.length cb] 76)) (below_alloc (Below.refl _ _) _))
  have HB1 := Aside0.mk (show Below w.heap.size w (w.alloc (.cells #[.int .i64 4, .string p.nm, .string p.tgt, .int .i64 p.len, ptrV q, .slice B p.b.length cb] 76)) from below_alloc (Below.refl _ _) _)
  have HW1 := Aside0.mk (blk_new w (.cells #[.int .i64 4, .string p.nm, .string p.tgt, .int .i64 p.len, ptrV q, .slice B p.b.length cb] 76))
  generalize w.alloc (.cells #[.int .i64 4, .string p.nm, .string p.tgt, .int .i64 p.len, ptrV q, .slice B p.b.length cb] 76) = w1 at *
  obtain ⟨gb, hgb⟩ : ∃ gb, gb = w.heap.size := ⟨_, rfl⟩
  rw [← hgb] at HW1 ⊢
  have HGB := Aside0.mk hgb
  clear hgb
  have k0 : w1.cell? ⟨gb, 0, none⟩ = some (.int .i64 4) := (blk_cell HW1.out 0).trans rfl
  have k1 : w1.cell? ⟨gb, 1, none⟩ = some (.string p.nm) := (blk_cell HW1.out 1).trans rfl
  have k2 : w1.cell? ⟨gb, 2, none⟩ = some (.string p.tgt) := (blk_cell HW1.out 2).trans rfl
  have k3 : w1.cell? ⟨gb, 3, none⟩ = some (.int .i64 p.len) := (blk_cell HW1.out 3).trans rfl
  have k4 : w1.cell? ⟨gb, 4, none⟩ = some (ptrV q) := (blk_cell HW1.out 4).trans rfl
  have k5 : w1.cell? ⟨gb, 5, none⟩ = some (.slice B p.b.length cb) := (blk_cell HW1.out 5).trans rfl
  have y3 : w1.cell? ⟨g, 3, none⟩ = some (.map (some fb)) := (blk_cell H1.out.blk 3).trans rfl
  have hgs := blk_lt H1.out.blk
  have hgl := blk_lt HW1.out
  obtain ⟨D, hown, hD⟩ := H1.out.fst.open
  have HO := Aside0.mk hown
  have HD := Aside0.mk hD
  clear hown hD
  cases hna : s.fastOf ad p.nm with
  | none =>
    have HNA := Aside0.mk hna
    have HR2 : Aside0 (r = s) := ⟨by rw [← HR.out]; unfold DS.work; rw [HKIN.out, if_neg (by decide), if_pos rfl, if_neg (by rw [HFA.out, hna]; simp)]⟩
    have EQ : Aside0 ((binOp .eql 71 (.pointer none) (ptrV q)).run Try.prog w1.drew = .ok (.bool false) w1.drew) := ⟨by
      obtain ⟨cc, hcc⟩ := file_blk H1.out HQ.out.1
      exact eql_run (c := none) (blk_drew hcc) (fun c' e => by cases e)⟩
    clear hna HR
    go_upto_region 11 with fail
    refine start_ (n := 11) (S := fun w' => w'.cell? ⟨g, 3, none⟩ = some (.map (some fb)) ∧ w'.cell? ⟨gb, 1, none⟩ = some (.string p.nm) ∧ w'.cell? ⟨gb, 4, none⟩ = some (ptrV q)) (ds := []) #[false, false, false, false, false, false, false, false, false, false, false] (by kernel_rfl) rfl rfl ⟨y3, k1, k4⟩ (fun hHeld => ?_)
    refine with_tabW F52Rtab11 F52Rbits11 (fun HT_ HW_ => ?_)
    refine pure_ (i := 0) (N := some 55) (v := ?_) (a' := ?_) #[true, false, false, false, false, false, false, false, false, false, false] rfl rfl (any_of HT_.out (by kernel_rfl)) (fun _ _ _ h => h) (Or.inl ⟨by rfl, ?_⟩) ?_ ?_
    rotate_left
    · intro w'
      go_simp
      with_reducible rfl
    rotate_left
    · simp only [Act.put, List.setIfInBounds_toArray, List.set_cons_zero, List.set_cons_succ, i64_w, i32_w]
      rfl
    refine pure_ (i := 1) (N := some 56) (v := ?_) (a' := ?_) #[true, true, false, false, false, false, false, false, false, false, false] rfl rfl (any_of HT_.out (by kernel_rfl)) (fun _ _ _ h => h) (Or.inl ⟨by rfl, ?_⟩) ?_ ?_
    rotate_left
    · intro w'
      go_simp
      with_reducible rfl
    rotate_left
    · simp only [Act.put, List.setIfInBounds_toArray, List.set_cons_zero, List.set_cons_succ, i64_w, i32_w]
      rfl
    refine pure_ (i := 2) (N := some 57) (v := ?_) (a' := ?_) #[true, true, true, false, false, false, false, false, false, false, false] rfl rfl (any_of HT_.out (by kernel_rfl)) (fun _ _ _ h => h) (Or.inl ⟨by rfl, ?_⟩) ?_ ?_
    rotate_left
    · intro w'
      go_simp
      with_reducible rfl
    rotate_left
    · simp only [Act.put, List.setIfInBounds_toArray, List.set_cons_zero, List.set_cons_succ, i64_w, i32_w]
      rfl
    refine pure_ (i := 4) (N := some 59) (v := ?_) (a' := ?_) #[true, true, true, false, true, false, false, false, false, false, false] rfl rfl (any_of HT_.out (by kernel_rfl)) (fun _ _ _ h => h) (Or.inl ⟨by rfl, ?_⟩) ?_ ?_
    rotate_left
    · intro w'
      go_simp
      with_reducible rfl
    rotate_left
    · simp only [Act.put, List.setIfInBounds_toArray, List.set_cons_zero, List.set_cons_succ, i64_w, i32_w]
      rfl
    refine pure_ (i := 5) (N := some 60) (v := ?_) (a' := ?_) #[true, true, true, false, true, true, false, false, false, false, false] rfl rfl (any_of HT_.out (by kernel_rfl)) (fun _ _ _ h => h) (Or.inl ⟨by rfl, ?_⟩) ?_ ?_
    rotate_left
    · intro w'
      go_simp
      with_reducible rfl
    rotate_left
    · simp only [Act.put, List.setIfInBounds_toArray, List.set_cons_zero, List.set_cons_succ, i64_w, i32_w]
      rfl
    refine pure_ (i := 8) (N := some 63) (v := ?_) (a' := ?_) #[true, true, true, false, true, true, false, false, true, false, false] rfl rfl (any_of HT_.out (by kernel_rfl)) (fun _ _ _ h => h) (Or.inl ⟨by rfl, ?_⟩) ?_ ?_
    rotate_left
    · intro w'
      go_simp
      with_reducible rfl
    rotate_left
    · simp only [Act.put, List.setIfInBounds_toArray, List.set_cons_zero, List.set_cons_succ, i64_w, i32_w]
      rfl
    refine take_ (i := 3) (N := some 58) (v := ?_) (a' := ?_) #[true, true, true, true, true, true, false, false, true, false, false] rfl rfl (take_ofW HT_.out HW_.out (by kernel_rfl)) (fun _ _ _ h => h) (Or.inl ⟨by rfl, ?_⟩) hHeld ?_ ?_
    rotate_left
    · rintro w' ⟨s0, s1, s2⟩
      go_simp
      with_reducible rfl
    rotate_left
    · simp only [Act.put, List.setIfInBounds_toArray, List.set_cons_zero, List.set_cons_succ, i64_w, i32_w]
      rfl
    refine take_ (i := 6) (N := some 61) (v := ?_) (a' := ?_) #[true, true, true, true, true, true, true, false, true, false, false] rfl rfl (take_ofW HT_.out HW_.out (by kernel_rfl)) (fun _ _ _ h => h) (Or.inl ⟨by rfl, ?_⟩) hHeld ?_ ?_
    rotate_left
    · rintro w' ⟨s0, s1, s2⟩
      go_simp
      with_reducible rfl
    rotate_left
    · simp only [Act.put, List.setIfInBounds_toArray, List.set_cons_zero, List.set_cons_succ, i64_w, i32_w]
      rfl
    refine take_ (i := 9) (N := some 64) (v := ?_) (a' := ?_) #[true, true, true, true, true, true, true, false, true, true, false] rfl rfl (take_ofW HT_.out HW_.out (by kernel_rfl)) (fun _ _ _ h => h) (Or.inl ⟨by rfl, ?_⟩) hHeld ?_ ?_
    rotate_left
    · rintro w' ⟨s0, s1, s2⟩
      go_simp
      with_reducible rfl
    rotate_left
    · simp only [Act.put, List.setIfInBounds_toArray, List.set_cons_zero, List.set_cons_succ, i64_w, i32_w]
      rfl
    refine one_ (i := 7) (N := some 62) #[true, true, true, true, true, true, true, true, true, true, false] rfl rfl (one_of HT_.out (by kernel_rfl)) (by decide) (fun K hK => ?_)
    refine value_ (w1 := w1.drew) (v := .pointer none) (by rfl) rfl ?hr ?_
    case hr =>
      have hd := look_run1 HO.out.drew HD.out HS.out
      rw [HNA.out] at hd
      exact look_exec1 rfl rfl rfl hd
    refine hK.out _ _ ⟨y3, k1, k4⟩ (fun hHeld => ?_)
    clear hK K
    refine norm_ (a' := ?_) ?_ ?_
    rotate_left
    · show Act.put _ (some 62) _ = _
      simp only [Act.put, List.setIfInBounds_toArray, List.set_cons_zero, List.set_cons_succ, i64_w, i32_w]
      rfl
    refine one_ (i := 10) (N := some 65) #[true, true, true, true, true, true, true, true, true, true, true] rfl rfl (one_of HT_.out (by kernel_rfl)) (by decide) (fun K hK => ?_)
    refine value_ (w1 := w1.drew) (v := .bool false) (by rfl) rfl ?hr ?_
    case hr =>
      have hd := EQ.out
      exact eql_exec rfl rfl rfl hd
    refine hK.out _ _ ⟨y3, k1, k4⟩ (fun hHeld => ?_)
    clear hK K
    refine norm_ (a' := ?_) ?_ ?_
    rotate_left
    · show Act.put _ (some 65) _ = _
      simp only [Act.put, List.setIfInBounds_toArray, List.set_cons_zero, List.set_cons_succ, i64_w, i32_w]
      rfl
    refine done_ (done_of HT_.out (by kernel_rfl)) ?_
    have H2 := Aside0.mk (H1.out.below (w' := w1.drew) (below_drew (Below.refl _ _)))
    have HB2 := Aside0.mk (show Below w.heap.size w w1.drew from HB1.out.drew)
    clear hHeld EQ
    generalize w1.drew = w2 at *
    go_wp2_with fail
    go_end0
    rw [HR2.out]
    exact ⟨rfl, H2.out, Fr.ofBelow HB2.out, Stay.of_below HB2.out _⟩
  | some c =>
    have HNA := Aside0.mk hna
    have EQ : Aside0 ((binOp .eql 71 (ptrV c) (ptrV q)).run Try.prog w1.drew = .ok (.bool (decide (c = q))) w1.drew) := ⟨by
      obtain ⟨cc, hcc⟩ := file_blk H1.out HQ.out.1
      obtain ⟨cd, hcd⟩ := fast_blk H1.out hna
      have h := eql_run (c := some c) (blk_drew hcc) (fun c' e => by cases e; exact ⟨_, blk_drew hcd⟩)
      rw [show decide (some c = some q) = decide (c = q) by simp] at h
      exact h⟩
    by_cases hcq : c = q
    · subst hcq
      rw [decide_eq_true rfl] at EQ
      have HR2 : Aside0 (r = s.setFast p.file nameless) := ⟨by rw [← HR.out]; unfold DS.work; rw [HKIN.out, if_neg (by decide), if_pos rfl, if_pos (HFA.out.2 hna)]⟩
      have HWH := Aside0.mk (fast_who H.out HQ.out.1 hna)
      clear hna HR
      go_upto_region 11 with fail
      refine start_ (n := 11) (S := fun w' => w'.cell? ⟨g, 3, none⟩ = some (.map (some fb)) ∧ w'.cell? ⟨gb, 1, none⟩ = some (.string p.nm) ∧ w'.cell? ⟨gb, 4, none⟩ = some (ptrV c)) (ds := []) #[false, false, false, false, false, false, false, false, false, false, false] (by kernel_rfl) rfl rfl ⟨y3, k1, k4⟩ (fun hHeld => ?_)
      refine with_tabW F52Rtab11 F52Rbits11 (fun HT_ HW_ => ?_)
      refine pure_ (i := 0) (N := some 55) (v := ?_) (a' := ?_) #[true, false, false, false, false, false, false, false, false, false, false] rfl rfl (any_of HT_.out (by kernel_rfl)) (fun _ _ _ h => h) (Or.inl ⟨by rfl, ?_⟩) ?_ ?_
      rotate_left
      · intro w'
        go_simp
        with_reducible rfl
      rotate_left
      · simp only [Act.put, List.setIfInBounds_toArray, List.set_cons_zero, List.set_cons_succ, i64_w, i32_w]
        rfl
      refine pure_ (i := 1) (N := some 56) (v := ?_) (a' := ?_) #[true, true, false, false, false, false, false, false, false, false, false] rfl rfl (any_of HT_.out (by kernel_rfl)) (fun _ _ _ h => h) (Or.inl ⟨by rfl, ?_⟩) ?_ ?_
      rotate_left
      · intro w'
        go_simp
        with_reducible rfl
      rotate_left
      · simp only [Act.put, List.setIfInBounds_toArray, List.set_cons_zero, List.set_cons_succ, i64_w, i32_w]
        rfl
      refine pure_ (i := 2) (N := some 57) (v := ?_) (a' := ?_) #[true, true, true, false, false, false, false, false, false, false, false] rfl rfl (any_of HT_.out (by kernel_rfl)) (fun _ _ _ h => h) (Or.inl ⟨by rfl, ?_⟩) ?_ ?_
      rotate_left
      · intro w'
        go_simp
        with_reducible rfl
      rotate_left
      · simp only [Act.put, List.setIfInBounds_toArray, List.set_cons_zero, List.set_cons_succ, i64_w, i32_w]
        rfl
      refine pure_ (i := 4) (N := some 59) (v := ?_) (a' := ?_) #[true, true, true, false, true, false, false, false, false, false, false] rfl rfl (any_of HT_.out (by kernel_rfl)) (fun _ _ _ h => h) (Or.inl ⟨by rfl, ?_⟩) ?_ ?_
      rotate_left
      · intro w'
        go_simp
        with_reducible rfl
      rotate_left
      · simp only [Act.put, List.setIfInBounds_toArray, List.set_cons_zero, List.set_cons_succ, i64_w, i32_w]
        rfl
      refine pure_ (i := 5) (N := some 60) (v := ?_) (a' := ?_) #[true, true, true, false, true, true, false, false, false, false, false] rfl rfl (any_of HT_.out (by kernel_rfl)) (fun _ _ _ h => h) (Or.inl ⟨by rfl, ?_⟩) ?_ ?_
      rotate_left
      · intro w'
        go_simp
        with_reducible rfl
      rotate_left
      · simp only [Act.put, List.setIfInBounds_toArray, List.set_cons_zero, List.set_cons_succ, i64_w, i32_w]
        rfl
      refine pure_ (i := 8) (N := some 63) (v := ?_) (a' := ?_) #[true, true, true, false, true, true, false, false, true, false, false] rfl rfl (any_of HT_.out (by kernel_rfl)) (fun _ _ _ h => h) (Or.inl ⟨by rfl, ?_⟩) ?_ ?_
      rotate_left
      · intro w'
        go_simp
        with_reducible rfl
      rotate_left
      · simp only [Act.put, List.setIfInBounds_toArray, List.set_cons_zero, List.set_cons_succ, i64_w, i32_w]
        rfl
      refine take_ (i := 3) (N := some 58) (v := ?_) (a' := ?_) #[true, true, true, true, true, true, false, false, true, false, false] rfl rfl (take_ofW HT_.out HW_.out (by kernel_rfl)) (fun _ _ _ h => h) (Or.inl ⟨by rfl, ?_⟩) hHeld ?_ ?_
      rotate_left
      · rintro w' ⟨s0, s1, s2⟩
        go_simp
        with_reducible rfl
      rotate_left
      · simp only [Act.put, List.setIfInBounds_toArray, List.set_cons_zero, List.set_cons_succ, i64_w, i32_w]
        rfl
      refine take_ (i := 6) (N := some 61) (v := ?_) (a' := ?_) #[true, true, true, true, true, true, true, false, true, false, false] rfl rfl (take_ofW HT_.out HW_.out (by kernel_rfl)) (fun _ _ _ h => h) (Or.inl ⟨by rfl, ?_⟩) hHeld ?_ ?_
      rotate_left
      · rintro w' ⟨s0, s1, s2⟩
        go_simp
        with_reducible rfl
      rotate_left
      · simp only [Act.put, List.setIfInBounds_toArray, List.set_cons_zero, List.set_cons_succ, i64_w, i32_w]
        rfl
      refine take_ (i := 9) (N := some 64) (v := ?_) (a' := ?_) #[true, true, true, true, true, true, true, false, true, true, false] rfl rfl (take_ofW HT_.out HW_.out (by kernel_rfl)) (fun _ _ _ h => h) (Or.inl ⟨by rfl, ?_⟩) hHeld ?_ ?_
      rotate_left
      · rintro w' ⟨s0, s1, s2⟩
        go_simp
        with_reducible rfl
      rotate_left
      · simp only [Act.put, List.setIfInBounds_toArray, List.set_cons_zero, List.set_cons_succ, i64_w, i32_w]
        rfl
      refine one_ (i := 7) (N := some 62) #[true, true, true, true, true, true, true, true, true, true, false] rfl rfl (one_of HT_.out (by kernel_rfl)) (by decide) (fun K hK => ?_)
      refine value_ (w1 := w1.drew) (v := ptrV c) (by rfl) rfl ?hr ?_
      case hr =>
        have hd := look_run1 HO.out.drew HD.out HS.out
        rw [HNA.out] at hd
        exact look_exec1 rfl rfl rfl hd
      refine hK.out _ _ ⟨y3, k1, k4⟩ (fun hHeld => ?_)
      clear hK K
      refine norm_ (a' := ?_) ?_ ?_
      rotate_left
      · show Act.put _ (some 62) _ = _
        simp only [Act.put, List.setIfInBounds_toArray, List.set_cons_zero, List.set_cons_succ, i64_w, i32_w]
        rfl
      refine one_ (i := 10) (N := some 65) #[true, true, true, true, true, true, true, true, true, true, true] rfl rfl (one_of HT_.out (by kernel_rfl)) (by decide) (fun K hK => ?_)
      refine value_ (w1 := w1.drew) (v := .bool true) (by rfl) rfl ?hr ?_
      case hr =>
        have hd := EQ.out
        exact eql_exec rfl rfl rfl hd
      refine hK.out _ _ ⟨y3, k1, k4⟩ (fun hHeld => ?_)
      clear hK K
      refine norm_ (a' := ?_) ?_ ?_
      rotate_left
      · show Act.put _ (some 65) _ = _
        simp only [Act.put, List.setIfInBounds_toArray, List.set_cons_zero, List.set_cons_succ, i64_w, i32_w]
        rfl
      refine done_ (done_of HT_.out (by kernel_rfl)) ?_
      have H2 := Aside0.mk (H1.out.below (w' := w1.drew) (below_drew (Below.refl _ _)))
      have HB2 := Aside0.mk (show Below w.heap.size w w1.drew from HB1.out.drew)
      have HW2 := Aside0.mk (blk_drew HW1.out)
      have HO2 := Aside0.mk HO.out.drew
      clear hHeld EQ
      generalize w1.drew = w2 at *
      clear k0 k2 k3 k5 hgs hgl H1 HB1 HW1 HO y3 k1 k4
      have y3 : w2.cell? ⟨g, 3, none⟩ = some (.map (some fb)) := (blk_cell H2.out.blk 3).trans rfl
      have k1 : w2.cell? ⟨gb, 1, none⟩ = some (.string p.nm) := (blk_cell HW2.out 1).trans rfl
      have hgs := blk_lt H2.out.blk
      obtain ⟨w4, hrun4, hown4, hturn4⟩ := HO2.out.drew.drop keyLaw Try.underlying65 (key_of HS.out) 0
      have HRUN := Aside0.mk hrun4
      have hS4 : Stay (fun _ => True) w2.drew w4 := Stay.of_turned hturn4 _
      have HS4 := Aside0.mk hS4
      have HW4 := Aside0.mk ((hS4 gb _ 76 trivial (blk_drew HW2.out)).trans (blk_drew HW2.out))
      have H4 := Aside0.mk ((H2.out.below (w' := w2.drew) (below_drew (Below.refl _ _))).unfast HI.out HWH.out.1 (HO2.out.tidy keyLaw) HD.out (if_neg HNE.out).symm hown4 (fun k hk hlt => hturn4.grown.block k hlt (fun e => hk (by injection e))))
      have HFr4 := Aside0.mk (((Fr.ofBelow (HB2.out.drew) : Fr ok w w2.drew).grown hturn4.grown (fun k e _ => by injection e with e; subst e; exact H2.out.okf.1)) : Fr ok w w4)
      clear hrun4 hown4 hturn4 hS4
      go_upto_region 12 with fail
      refine start_ (n := 8) (S := fun w' => w'.cell? ⟨g, 3, none⟩ = some (.map (some fb)) ∧ w'.cell? ⟨gb, 1, none⟩ = some (.string p.nm)) (ds := []) #[false, false, false, false, false, false, false, false] (by kernel_rfl) rfl rfl ⟨y3, k1⟩ (fun hHeld => ?_)
      refine with_tabW F52Rtab12 F52Rbits12 (fun HT_ HW_ => ?_)
      refine pure_ (i := 0) (N := some 66) (v := ?_) (a' := ?_) #[true, false, false, false, false, false, false, false] rfl rfl (any_of HT_.out (by kernel_rfl)) (fun _ _ _ h => h) (Or.inl ⟨by rfl, ?_⟩) ?_ ?_
      rotate_left
      · intro w'
        go_simp
        with_reducible rfl
      rotate_left
      · simp only [Act.put, List.setIfInBounds_toArray, List.set_cons_zero, List.set_cons_succ, i64_w, i32_w]
        rfl
      refine pure_ (i := 1) (N := some 67) (v := ?_) (a' := ?_) #[true, true, false, false, false, false, false, false] rfl rfl (any_of HT_.out (by kernel_rfl)) (fun _ _ _ h => h) (Or.inl ⟨by rfl, ?_⟩) ?_ ?_
      rotate_left
      · intro w'
        go_simp
        with_reducible rfl
      rotate_left
      · simp only [Act.put, List.setIfInBounds_toArray, List.set_cons_zero, List.set_cons_succ, i64_w, i32_w]
        rfl
      refine pure_ (i := 2) (N := some 68) (v := ?_) (a' := ?_) #[true, true, true, false, false, false, false, false] rfl rfl (any_of HT_.out (by kernel_rfl)) (fun _ _ _ h => h) (Or.inl ⟨by rfl, ?_⟩) ?_ ?_
      rotate_left
      · intro w'
        go_simp
        with_reducible rfl
      rotate_left
      · simp only [Act.put, List.setIfInBounds_toArray, List.set_cons_zero, List.set_cons_succ, i64_w, i32_w]
        rfl
      refine pure_ (i := 4) (N := some 70) (v := ?_) (a' := ?_) #[true, true, true, false, true, false, false, false] rfl rfl (any_of HT_.out (by kernel_rfl)) (fun _ _ _ h => h) (Or.inl ⟨by rfl, ?_⟩) ?_ ?_
      rotate_left
      · intro w'
        go_simp
        with_reducible rfl
      rotate_left
      · simp only [Act.put, List.setIfInBounds_toArray, List.set_cons_zero, List.set_cons_succ, i64_w, i32_w]
        rfl
      refine pure_ (i := 5) (N := some 71) (v := ?_) (a' := ?_) #[true, true, true, false, true, true, false, false] rfl rfl (any_of HT_.out (by kernel_rfl)) (fun _ _ _ h => h) (Or.inl ⟨by rfl, ?_⟩) ?_ ?_
      rotate_left
      · intro w'
        go_simp
        with_reducible rfl
      rotate_left
      · simp only [Act.put, List.setIfInBounds_toArray, List.set_cons_zero, List.set_cons_succ, i64_w, i32_w]
        rfl
      refine take_ (i := 3) (N := some 69) (v := ?_) (a' := ?_) #[true, true, true, true, true, true, false, false] rfl rfl (take_ofW HT_.out HW_.out (by kernel_rfl)) (fun _ _ _ h => h) (Or.inl ⟨by rfl, ?_⟩) hHeld ?_ ?_
      rotate_left
      · rintro w' ⟨s0, s1⟩
        go_simp
        with_reducible rfl
      rotate_left
      · simp only [Act.put, List.setIfInBounds_toArray, List.set_cons_zero, List.set_cons_succ, i64_w, i32_w]
        rfl
      refine take_ (i := 6) (N := some 72) (v := ?_) (a' := ?_) #[true, true, true, true, true, true, true, false] rfl rfl (take_ofW HT_.out HW_.out (by kernel_rfl)) (fun _ _ _ h => h) (Or.inl ⟨by rfl, ?_⟩) hHeld ?_ ?_
      rotate_left
      · rintro w' ⟨s0, s1⟩
        go_simp
        with_reducible rfl
      rotate_left
      · simp only [Act.put, List.setIfInBounds_toArray, List.set_cons_zero, List.set_cons_succ, i64_w, i32_w]
        rfl
      refine one_ (i := 7) (N := none) #[true, true, true, true, true, true, true, true] rfl rfl (one_of HT_.out (by kernel_rfl)) (by decide) (fun K hK => ?_)
      refine value_ (w1 := w4) (v := .tuple #[]) (by rfl) rfl ?hr ?_
      case hr => exact del_exec rfl rfl rfl HRUN.out
      refine hK.out _ _ ⟨(blk_cell H4.out.blk 3).trans rfl, (blk_cell HW4.out 1).trans rfl⟩ (fun hHeld => ?_)
      clear hK K
      refine done_ (done_of HT_.out (by kernel_rfl)) ?_
      go_wp2_with fail
      go_end0
      rw [HR2.out]
      exact ⟨rfl, H4.out, HFr4.out, (Stay.of_below (HB2.out.drew) _).trans (fun k c t _ hc => HS4.out k c t trivial hc)⟩
    · rw [decide_eq_false hcq] at EQ
      have HR2 : Aside0 (r = s) := ⟨by rw [← HR.out]; unfold DS.work; rw [HKIN.out, if_neg (by decide), if_pos rfl, if_neg (by rw [HFA.out, hna]; intro e; exact hcq (by injection e))]⟩
      clear hna HR
      go_upto_region 11 with fail
      refine start_ (n := 11) (S := fun w' => w'.cell? ⟨g, 3, none⟩ = some (.map (some fb)) ∧ w'.cell? ⟨gb, 1, none⟩ = some (.string p.nm) ∧ w'.cell? ⟨gb, 4, none⟩ = some (ptrV q)) (ds := []) #[false, false, false, false, false, false, false, false, false, false, false] (by kernel_rfl) rfl rfl ⟨y3, k1, k4⟩ (fun hHeld => ?_)
      refine with_tabW F52Rtab11 F52Rbits11 (fun HT_ HW_ => ?_)
      refine pure_ (i := 0) (N := some 55) (v := ?_) (a' := ?_) #[true, false, false, false, false, false, false, false, false, false, false] rfl rfl (any_of HT_.out (by kernel_rfl)) (fun _ _ _ h => h) (Or.inl ⟨by rfl, ?_⟩) ?_ ?_
      rotate_left
      · intro w'
        go_simp
        with_reducible rfl
      rotate_left
      · simp only [Act.put, List.setIfInBounds_toArray, List.set_cons_zero, List.set_cons_succ, i64_w, i32_w]
        rfl
      refine pure_ (i := 1) (N := some 56) (v := ?_) (a' := ?_) #[true, true, false, false, false, false, false, false, false, false, false] rfl rfl (any_of HT_.out (by kernel_rfl)) (fun _ _ _ h => h) (Or.inl ⟨by rfl, ?_⟩) ?_ ?_
      rotate_left
      · intro w'
        go_simp
        with_reducible rfl
      rotate_left
      · simp only [Act.put, List.setIfInBounds_toArray, List.set_cons_zero, List.set_cons_succ, i64_w, i32_w]
        rfl
      refine pure_ (i := 2) (N := some 57) (v := ?_) (a' := ?_) #[true, true, true, false, false, false, false, false, false, false, false] rfl rfl (any_of HT_.out (by kernel_rfl)) (fun _ _ _ h => h) (Or.inl ⟨by rfl, ?_⟩) ?_ ?_
      rotate_left
      · intro w'
        go_simp
        with_reducible rfl
      rotate_left
      · simp only [Act.put, List.setIfInBounds_toArray, List.set_cons_zero, List.set_cons_succ, i64_w, i32_w]
        rfl
      refine pure_ (i := 4) (N := some 59) (v := ?_) (a' := ?_) #[true, true, true, false, true, false, false, false, false, false, false] rfl rfl (any_of HT_.out (by kernel_rfl)) (fun _ _ _ h => h) (Or.inl ⟨by rfl, ?_⟩) ?_ ?_
      rotate_left
      · intro w'
        go_simp
        with_reducible rfl
      rotate_left
      · simp only [Act.put, List.setIfInBounds_toArray, List.set_cons_zero, List.set_cons_succ, i64_w, i32_w]
        rfl
      refine pure_ (i := 5) (N := some 60) (v := ?_) (a' := ?_) #[true, true, true, false, true, true, false, false, false, false, false] rfl rfl (any_of HT_.out (by kernel_rfl)) (fun _ _ _ h => h) (Or.inl ⟨by rfl, ?_⟩) ?_ ?_
      rotate_left
      · intro w'
        go_simp
        with_reducible rfl
      rotate_left
      · simp only [Act.put, List.setIfInBounds_toArray, List.set_cons_zero, List.set_cons_succ, i64_w, i32_w]
        rfl
      refine pure_ (i := 8) (N := some 63) (v := ?_) (a' := ?_) #[true, true, true, false, true, true, false, false, true, false, false] rfl rfl (any_of HT_.out (by kernel_rfl)) (fun _ _ _ h => h) (Or.inl ⟨by rfl, ?_⟩) ?_ ?_
      rotate_left
      · intro w'
        go_simp
        with_reducible rfl
      rotate_left
      · simp only [Act.put, List.setIfInBounds_toArray, List.set_cons_zero, List.set_cons_succ, i64_w, i32_w]
        rfl
      refine take_ (i := 3) (N := some 58) (v := ?_) (a' := ?_) #[true, true, true, true, true, true, false, false, true, false, false] rfl rfl (take_ofW HT_.out HW_.out (by kernel_rfl)) (fun _ _ _ h => h) (Or.inl ⟨by rfl, ?_⟩) hHeld ?_ ?_
      rotate_left
      · rintro w' ⟨s0, s1, s2⟩
        go_simp
        with_reducible rfl
      rotate_left
      · simp only [Act.put, List.setIfInBounds_toArray, List.set_cons_zero, List.set_cons_succ, i64_w, i32_w]
        rfl
      refine take_ (i := 6) (N := some 61) (v := ?_) (a' := ?_) #[true, true, true, true, true, true, true, false, true, false, false] rfl rfl (take_ofW HT_.out HW_.out (by kernel_rfl)) (fun _ _ _ h => h) (Or.inl ⟨by rfl, ?_⟩) hHeld ?_ ?_
      rotate_left
      · rintro w' ⟨s0, s1, s2⟩
        go_simp
        with_reducible rfl
      rotate_left
      · simp only [Act.put, List.setIfInBounds_toArray, List.set_cons_zero, List.set_cons_succ, i64_w, i32_w]
        rfl
      refine take_ (i := 9) (N := some 64) (v := ?_) (a' := ?_) #[true, true, true, true, true, true, true, false, true, true, false] rfl rfl (take_ofW HT_.out HW_.out (by kernel_rfl)) (fun _ _ _ h => h) (Or.inl ⟨by rfl, ?_⟩) hHeld ?_ ?_
      rotate_left
      · rintro w' ⟨s0, s1, s2⟩
        go_simp
        with_reducible rfl
      rotate_left
      · simp only [Act.put, List.setIfInBounds_toArray, List.set_cons_zero, List.set_cons_succ, i64_w, i32_w]
        rfl
      refine one_ (i := 7) (N := some 62) #[true, true, true, true, true, true, true, true, true, true, false] rfl rfl (one_of HT_.out (by kernel_rfl)) (by decide) (fun K hK => ?_)
      refine value_ (w1 := w1.drew) (v := ptrV c) (by rfl) rfl ?hr ?_
      case hr =>
        have hd := look_run1 HO.out.drew HD.out HS.out
        rw [HNA.out] at hd
        exact look_exec1 rfl rfl rfl hd
      refine hK.out _ _ ⟨y3, k1, k4⟩ (fun hHeld => ?_)
      clear hK K
      refine norm_ (a' := ?_) ?_ ?_
      rotate_left
      · show Act.put _ (some 62) _ = _
        simp only [Act.put, List.setIfInBounds_toArray, List.set_cons_zero, List.set_cons_succ, i64_w, i32_w]
        rfl
      refine one_ (i := 10) (N := some 65) #[true, true, true, true, true, true, true, true, true, true, true] rfl rfl (one_of HT_.out (by kernel_rfl)) (by decide) (fun K hK => ?_)
      refine value_ (w1 := w1.drew) (v := .bool false) (by rfl) rfl ?hr ?_
      case hr =>
        have hd := EQ.out
        exact eql_exec rfl rfl rfl hd
      refine hK.out _ _ ⟨y3, k1, k4⟩ (fun hHeld => ?_)
      clear hK K
      refine norm_ (a' := ?_) ?_ ?_
      rotate_left
      · show Act.put _ (some 65) _ = _
        simp only [Act.put, List.setIfInBounds_toArray, List.set_cons_zero, List.set_cons_succ, i64_w, i32_w]
        rfl
      refine done_ (done_of HT_.out (by kernel_rfl)) ?_
      have H2 := Aside0.mk (H1.out.below (w' := w1.drew) (below_drew (Below.refl _ _)))
      have HB2 := Aside0.mk (show Below w.heap.size w w1.drew from HB1.out.drew)
      clear hHeld EQ
      generalize w1.drew = w2 at *
      go_wp2_with fail
      go_end0
      rw [HR2.out]
      exact ⟨rfl, H2.out, Fr.ofBelow HB2.out, Stay.of_below HB2.out _⟩
end
end Go.Proofs.Ytnegcjgolaakcaa

/- (*disk.Disk).make: a work of a name. -/
namespace Go.Proofs.Ytnegcjgolaakcaa
open Go.RowKit Go.Maps
open Go.Proofs.YtnegcjgolaakcaaW.PrintWords Go.Proofs.YtnegcjgolaakcaaW.PrintLast Go.Proofs.YtnegcjgolaakcaaW.PrintMore
set_option linter.unusedVariables false
set_option linter.unusedSimpArgs false
section
variable {w w' : World} {g : Nat} {s s' : DS} {base : Nat} {ok : Nat → Prop} {nb fb : Nat} {v v1 : Value} {ad ad' : List Nat} {T : Nat}
theorem wpList_eql71 {ops : Array Oper} {rest : List Oper} {o : Oper} {a : Act} {Q : Exit → Act → World → Prop} (hg : o.guard = none) (x y : Operand) (t' : TypeId) (hop : o.op = Op.binOp .eql 71 x y t') (V W : Option Addr) (b : Bool) (hx : a.eval x = .pointer V) (hy : a.eval y = .pointer W)
    (hrun : (binOp .eql 71 (.pointer V) (.pointer W)).run Try.prog w = .ok (.bool b) w) (hK : wpList Try.prog ops Q rest (a.put o.dst (.bool b)) w) : wpList Try.prog ops Q (o :: rest) a w := by
  refine wpList_plain hg fun K' hK' => ?_
  unfold Oper.wp
  rw [eql_exec hop hx hy hrun]
  exact hK' _ _ hK
/-- the map as it is, one key gone or not -/
theorem tells_gone {D : DU} {k : Nat} {get : ByteArray → Option Nat} (hT : Tidy D) (hD : Tells D k get) (n0 : ByteArray) (b : Bool) : ∃ k' get', Tells (if b = true then D.del (key n0) else D) k' get' ∧ ∀ n c, get' n = some c → get n = some c ∧ ¬ (b = true ∧ n = n0) := by
  cases b with
  | false => exact ⟨k, get, hD, fun n c h => ⟨h, fun h => by cases h.1⟩⟩
  | true =>
    refine ⟨_, _, hD.del hT n0, fun n c h => ?_⟩
    have h : (if n = n0 then none else get n) = some c := h
    split at h
    · cases h
    · rename_i hn
      exact ⟨h, fun hb => hn hb.2⟩
theorem size_gone {D : DU} (n0 : ByteArray) (b : Bool) : True := trivial
set_option maxHeartbeats 4000000 in
set_option maxRecDepth 100000 in
theorem make_name (p : PW) (n : Nat) (B : Option Addr) (cb : Nat) (q : Nat) (h : DiskAt w g s base ok nb fb v ad) (hI : UL s.fsL) (hl : s.files.length ≤ 1073741824) (hfresh : ∀ k, w.heap.size ≤ k → ok k) (hq : ad[p.file]? = some q) (hpf : p.file < s.files.length)
    (hcb : p.b.length ≤ cb) (hB : bK.C w B p.b.length p.b) (hn : n ≤ 9223372036854775807) (hk : p.kind = 3) (hs : p.tgt.size ≤ maxLen) (hne : p.tgt ≠ nameless) :
    Calls Try.prog 52 #[ptrV g, .agg (cW (⟨p.kind, p.nm, p.tgt, p.len, q, p.b⟩ : MW) (.slice B p.b.length cb)), .int .i64 n] w (MakePost w g base ok nb fb v ad (s.work p n)) := by
  have HR0 := Aside0.mk (work3 hI hk hne n)
  have HKIN := Aside0.mk hk
  have HS := Aside0.mk hs
  have HNE := Aside0.mk hne
  rw [hk]
  clear hk hs hne
  have H := Aside0.mk h
  have HI := Aside0.mk hI
  have HL := Aside0.mk hl
  have HF := Aside0.mk hfresh
  have HQ := Aside0.mk (And.intro hq hpf)
  have HB := Aside0.mk (And.intro hcb hB)
  have HN := Aside0.mk hn
  generalize hr : s.work p n = r
  have HR := Aside0.mk hr
  clear h hI hl hfresh hq hpf hcb hB hn hr
  have HR2 : Aside0 (r = (s.setFast p.file nameless).giveF p.file p.tgt) := ⟨by rw [← HR.out]; exact HR0.out⟩
  clear HR HR0
  go_enter Try.func52, Try.ntmps52
  go_upto_region 1 with fail
  have H1 := Aside0.mk (H.out.below (w' := w.alloc (.cells #[.int .i64 3, .string p.nm, .string p.tgt, .int .i64 p.len, ptrV q, .slice B p.b.length cb] 76)) (below_alloc (Below.refl _ _) _))
  have HB1 := Aside0.mk (show Below w.heap.size w (w.alloc (.cells #[.int .i64 3, .string p.nm, .string p.tgt, .int .i64 p.len, ptrV q, .slice B p.b.length cb] 76)) from below_alloc (Below.refl _ _) _)
  have HW1 := Aside0.mk (blk_new w (.cells #[.int .i64 3, .string p.nm, .string p.tgt, .int .i64 p.len, ptrV q, .slice B p.b.length cb] 76))
  generalize w.alloc (.cells #[.int .i64 3, .string p.nm, .string p.tgt, .int .i64 p.len, ptrV q, .slice B p.b.length cb] 76) = w1 at *
  obtain ⟨gb, hgb⟩ : ∃ gb, gb = w.heap.size := ⟨_, rfl⟩
  rw [← hgb] at HW1 ⊢
  have HGB := Aside0.mk hgb
  clear hgb
  have k0 : w1.cell? ⟨gb, 0, none⟩ = some (.int .i64 3) := (blk_cell HW1.out 0).trans rfl
  have k1 : w1.cell? ⟨gb, 1, none⟩ = some (.string p.nm) := (blk_cell HW1.out 1).trans rfl
  have k2 : w1.cell? ⟨gb, 2, none⟩ = some (.string p.tgt) := (blk_cell HW1.out 2).trans rfl
  have k3 : w1.cell? ⟨gb, 3, none⟩ = some (.int .i64 p.len) := (blk_cell HW1.out 3).trans rfl
  have k4 : w1.cell? ⟨gb, 4, none⟩ = some (ptrV q) := (blk_cell HW1.out 4).trans rfl
  have k5 : w1.cell? ⟨gb, 5, none⟩ = some (.slice B p.b.length cb) := (blk_cell HW1.out 5).trans rfl
  have y3 : w1.cell? ⟨g, 3, none⟩ = some (.map (some fb)) := (blk_cell H1.out.blk 3).trans rfl
  have hgs := blk_lt H1.out.blk
  have hgl := blk_lt HW1.out
  obtain ⟨D, hown, hD⟩ := H1.out.fst.open
  have HO := Aside0.mk hown
  have HD := Aside0.mk hD
  obtain ⟨n0, hn0⟩ : ∃ n0, s.fsL[p.file]? = some n0 := ⟨_, List.getElem?_eq_getElem (by have := HQ.out.2; simp [DS.fsL]; exact this)⟩
  have HN0 := Aside0.mk hn0
  clear hown hD hn0
  go_wp2_with (first | (at_range; refine wpList_range_own _ rfl _ 65 rfl 9 71 keyLaw Try.underlying65 filE fb _ D rfl HO.out ?_; intro w2 hrg2 hg2 hs2) | fail)
  have HR2' := Aside0.mk hrg2
  have HS2 := Aside0.mk hs2
  have HF2 : Aside0 (Fr (fun k => k = fb) w1 w2) := ⟨(Fr.refl _ _).grown hg2 (fun k e _ => by cases e)⟩
  have HL2 : Aside0 (n0 ≠ nameless → Maps.has D (key n0) = true) := ⟨fun h => by rw [(HD.out.2 n0).2, fast_is H1.out HI.out HQ.out.1 HN0.out h]; rfl⟩
  clear hrg2 hg2 hs2
  go_frame
  go_loopg [] (Maps.size D) (fun kq w' => ∃ (D' : DU) (left : Lit → Bool) (b : Bool), Aside0 (w'.ranges Try.prog 9 filE fb w1.heap.size (Maps.size D) D' left kq) ∧ Aside0 (D' = if b = true then D.del (key n0) else D) ∧ Aside0 ((b = false → n0 ≠ nameless → left (key n0) = true) ∧ (b = true → n0 ≠ nameless)) ∧ Aside0 (Fr (fun k => k = fb) w1 w'))
  case atStart => exact ⟨D, _, false, HR2', ⟨rfl⟩, ⟨fun _ h => HL2.out h, fun h => by cases h⟩, HF2⟩
  case round =>
    clear HR2' HS2 HF2 HL2 k0 k1 k2 k3 k4 k5 y3 hgs hgl
    obtain ⟨D', left, b, HR, HD1, HL1, HFr⟩ := hrel
    go_wp2_with (first | (at_next; refine wpList_next_ranges _ rfl _ rfl 9 keyLaw filE encStr filV key_shape filE_shape fb w1.heap.size _ D' left _ rfl HR.out ?_ ?_) | fail)
    case refine_1 =>
      intro hc0 hl0
      have hDD : D' = if n0 = nameless then D else D.del (key n0) := by
        rw [HD1.out]
        cases b with
        | false =>
          by_cases hn : n0 = nameless
          · rw [if_pos hn]; rfl
          · have h1 := HL1.out.1 rfl hn
            rw [hl0] at h1
            cases h1
        | true => rw [if_neg (HL1.out.2 rfl)]; rfl
      have H2 := Aside0.mk (H1.out.unfast HI.out HN0.out (HO.out.tidy keyLaw) HD.out hDD HR.out.owns (fun k hk hlt => HFr.out.block k hlt hk))
      clear hc0 hl0 hDD HD1 HL1 HR HO HD
      have HW2 : Aside0 (IsB wr gb (#[.int .i64 3, .string p.nm, .string p.tgt, .int .i64 p.len, ptrV q, .slice B p.b.length cb]) 76) := ⟨(HFr.out.block gb (blk_lt HW1.out) (fun e => H1.out.fst.noCells (e ▸ HW1.out))).trans HW1.out⟩
      obtain ⟨D2, ho2, hD2⟩ := H2.out.fst.open
      have hM2 : Maps.size D2 < maxLen := by
        have h1 : Maps.size D2 = (s.setFast p.file nameless).countF := hD2.1
        have h2 : (s.setFast p.file nameless).countF ≤ (s.setFast p.file nameless).files.length := by unfold DS.countF; exact List.length_filter_le _ _
        have h3 : (s.setFast p.file nameless).files.length = s.files.length := List.length_modify _ _ _
        have h4 := HL.out
        simp only [maxLen]
        omega
      obtain ⟨w5, hrun5, hown5, hturn5⟩ := ho2.drew.store keyLaw Try.underlying65 hM2 (key_of HS.out) (filE_ptr q)
      have HRUN := Aside0.mk hrun5
      have HL0 : Aside0 ((s.setFast p.file nameless).fsL[p.file]? = some nameless) := ⟨by rw [DS.setFast_fs, List.getElem?_set, if_pos rfl, if_pos (List.getElem?_eq_some_iff.1 HN0.out).1]⟩
      have hU : UL (s.setFast p.file nameless).fsL := by rw [DS.setFast_fs]; exact UL_set HI.out _ nameless (.inl rfl)
      have hS5 : Stay (fun _ => True) wr.drew w5 := Stay.of_turned hturn5 _
      have HW5 := Aside0.mk ((hS5 gb _ 76 trivial (blk_drew HW2.out)).trans (blk_drew HW2.out))
      have H5 := Aside0.mk ((H2.out.below (w' := wr.drew) (below_drew (Below.refl _ _))).giveF hU HNE.out HL0.out HQ.out.1 (ho2.tidy keyLaw) hD2 hown5 (fun k hk hlt => hturn5.grown.block k hlt (fun e => hk (by injection e))))
      have HSt : Aside0 (Stay (fun t => t ≠ 79) w w5) := ⟨((Stay.of_below HB1.out _).trans (fun k c t _ hc => HFr.out.block k (blk_lt hc) (fun e => H1.out.fst.noCells (e ▸ hc)))).trans (fun k c t _ hc => hS5 k c t trivial hc)⟩
      have HFr5 : Aside0 (Fr ok w w5) := ⟨(((Fr.ofBelow HB1.out : Fr ok w w1).trans HFr.out (fun k h _ => by subst h; exact H1.out.okf.1)).trans (Fr.ofBelow (S := ok) (below_drew (Below.refl _ wr))) (fun k h _ => h)).grown hturn5.grown (fun k e _ => by injection e with e; subst e; exact H1.out.okf.1)⟩
      have y3 : wr.cell? ⟨g, 3, none⟩ = some (.map (some fb)) := (blk_cell H2.out.blk 3).trans rfl
      have k2 : wr.cell? ⟨gb, 2, none⟩ = some (.string p.tgt) := (blk_cell HW2.out 2).trans rfl
      have k4 : wr.cell? ⟨gb, 4, none⟩ = some (ptrV q) := (blk_cell HW2.out 4).trans rfl
      have hgs := blk_lt H2.out.blk
      have hgl := blk_lt HW2.out
      clear ho2 hD2 hM2 hrun5 hown5 hturn5 hU hS5 HL0
      go_upto_region 9 with fail
      refine start_ (n := 10) (S := fun w' => w'.cell? ⟨g, 3, none⟩ = some (.map (some fb)) ∧ w'.cell? ⟨gb, 2, none⟩ = some (.string p.tgt) ∧ w'.cell? ⟨gb, 4, none⟩ = some (ptrV q)) (ds := []) #[false, false, false, false, false, false, false, false, false, false] (by kernel_rfl) rfl rfl ⟨y3, k2, k4⟩ (fun hHeld => ?_)
      refine with_tabW F52Rtab9 F52Rbits9 (fun HT_ HW_ => ?_)
      refine pure_ (i := 0) (N := some 44) (v := ?_) (a' := ?_) #[true, false, false, false, false, false, false, false, false, false] rfl rfl (any_of HT_.out (by kernel_rfl)) (fun _ _ _ h => h) (Or.inl ⟨by rfl, ?_⟩) ?_ ?_
      rotate_left
      · intro w'
        go_simp
        with_reducible rfl
      rotate_left
      · simp only [Act.put, List.setIfInBounds_toArray, List.set_cons_zero, List.set_cons_succ, i64_w, i32_w]
        rfl
      refine pure_ (i := 1) (N := some 45) (v := ?_) (a' := ?_) #[true, true, false, false, false, false, false, false, false, false] rfl rfl (any_of HT_.out (by kernel_rfl)) (fun _ _ _ h => h) (Or.inl ⟨by rfl, ?_⟩) ?_ ?_
      rotate_left
      · intro w'
        go_simp
        with_reducible rfl
      rotate_left
      · simp only [Act.put, List.setIfInBounds_toArray, List.set_cons_zero, List.set_cons_succ, i64_w, i32_w]
        rfl
      refine pure_ (i := 2) (N := some 46) (v := ?_) (a' := ?_) #[true, true, true, false, false, false, false, false, false, false] rfl rfl (any_of HT_.out (by kernel_rfl)) (fun _ _ _ h => h) (Or.inl ⟨by rfl, ?_⟩) ?_ ?_
      rotate_left
      · intro w'
        go_simp
        with_reducible rfl
      rotate_left
      · simp only [Act.put, List.setIfInBounds_toArray, List.set_cons_zero, List.set_cons_succ, i64_w, i32_w]
        rfl
      refine pure_ (i := 4) (N := some 48) (v := ?_) (a' := ?_) #[true, true, true, false, true, false, false, false, false, false] rfl rfl (any_of HT_.out (by kernel_rfl)) (fun _ _ _ h => h) (Or.inl ⟨by rfl, ?_⟩) ?_ ?_
      rotate_left
      · intro w'
        go_simp
        with_reducible rfl
      rotate_left
      · simp only [Act.put, List.setIfInBounds_toArray, List.set_cons_zero, List.set_cons_succ, i64_w, i32_w]
        rfl
      refine pure_ (i := 5) (N := some 49) (v := ?_) (a' := ?_) #[true, true, true, false, true, true, false, false, false, false] rfl rfl (any_of HT_.out (by kernel_rfl)) (fun _ _ _ h => h) (Or.inl ⟨by rfl, ?_⟩) ?_ ?_
      rotate_left
      · intro w'
        go_simp
        with_reducible rfl
      rotate_left
      · simp only [Act.put, List.setIfInBounds_toArray, List.set_cons_zero, List.set_cons_succ, i64_w, i32_w]
        rfl
      refine pure_ (i := 7) (N := some 51) (v := ?_) (a' := ?_) #[true, true, true, false, true, true, false, true, false, false] rfl rfl (any_of HT_.out (by kernel_rfl)) (fun _ _ _ h => h) (Or.inl ⟨by rfl, ?_⟩) ?_ ?_
      rotate_left
      · intro w'
        go_simp
        with_reducible rfl
      rotate_left
      · simp only [Act.put, List.setIfInBounds_toArray, List.set_cons_zero, List.set_cons_succ, i64_w, i32_w]
        rfl
      refine take_ (i := 3) (N := some 47) (v := ?_) (a' := ?_) #[true, true, true, true, true, true, false, true, false, false] rfl rfl (take_ofW HT_.out HW_.out (by kernel_rfl)) (fun _ _ _ h => h) (Or.inl ⟨by rfl, ?_⟩) hHeld ?_ ?_
      rotate_left
      · rintro w' ⟨s0, s1, s2⟩
        go_simp
        with_reducible rfl
      rotate_left
      · simp only [Act.put, List.setIfInBounds_toArray, List.set_cons_zero, List.set_cons_succ, i64_w, i32_w]
        rfl
      refine take_ (i := 6) (N := some 50) (v := ?_) (a' := ?_) #[true, true, true, true, true, true, true, true, false, false] rfl rfl (take_ofW HT_.out HW_.out (by kernel_rfl)) (fun _ _ _ h => h) (Or.inl ⟨by rfl, ?_⟩) hHeld ?_ ?_
      rotate_left
      · rintro w' ⟨s0, s1, s2⟩
        go_simp
        with_reducible rfl
      rotate_left
      · simp only [Act.put, List.setIfInBounds_toArray, List.set_cons_zero, List.set_cons_succ, i64_w, i32_w]
        rfl
      refine take_ (i := 8) (N := some 52) (v := ?_) (a' := ?_) #[true, true, true, true, true, true, true, true, true, false] rfl rfl (take_ofW HT_.out HW_.out (by kernel_rfl)) (fun _ _ _ h => h) (Or.inl ⟨by rfl, ?_⟩) hHeld ?_ ?_
      rotate_left
      · rintro w' ⟨s0, s1, s2⟩
        go_simp
        with_reducible rfl
      rotate_left
      · simp only [Act.put, List.setIfInBounds_toArray, List.set_cons_zero, List.set_cons_succ, i64_w, i32_w]
        rfl
      refine one_ (i := 9) (N := none) #[true, true, true, true, true, true, true, true, true, true] rfl rfl (one_of HT_.out (by kernel_rfl)) (by decide) (fun K hK => ?_)
      refine skip_ (w1 := w5) (by rfl) rfl ?hr ?_
      case hr => exact upd_exec rfl rfl rfl rfl HRUN.out
      refine hK.out _ _ ⟨(blk_cell H5.out.blk 3).trans rfl, (blk_cell HW5.out 2).trans rfl, (blk_cell HW5.out 4).trans rfl⟩ (fun hHeld => ?_)
      clear hK K
      refine done_ (done_of HT_.out (by kernel_rfl)) ?_
      go_wp2_with fail
      go_end0
      rw [HR2.out]
      exact ⟨rfl, H5.out, HFr5.out, HSt.out⟩
    case refine_2 =>
      intro x c kl a b' w3 cnt3 hk hl hy hat hrg3 hlt hg3 hs3 hen
      obtain ⟨l, hxl, rfl, _⟩ := Maps.keyOf_str Try.underlying9 hk
      rw [hxl] at hk hen ⊢
      clear hxl
      obtain ⟨m, hm⟩ : ∃ m : ByteArray, Lit.string l = key m := ⟨⟨l.toArray⟩, rfl⟩
      obtain ⟨k', get', hD', hget⟩ := tells_gone (HO.out.tidy keyLaw) HD.out n0 b
      rw [← HD1.out] at hD'
      rw [hm] at hl hat hrg3 hk
      have hsm := (hD'.2 m).2
      rw [Maps.has_true_of_atKey hat] at hsm
      obtain ⟨c', hc'⟩ := Option.isSome_iff_exists.1 hsm.symm
      have ha := (hD'.2 m).1
      rw [hc', hat] at ha
      obtain rfl : c = some c' := by
        cases c with
        | none => simp [filV, filE, ha, atD, ptrD] at hy
        | some c => simp [filV, filE, ha, atD, ptrD] at hy; have := hy.1; congr 1; omega
      have ef : filV (some c') = ptrV c' := rfl
      rw [ef] at hen ⊢
      clear ef
      have hgm := hget m c' hc'
      have HFr3 : Aside0 (Fr (fun k => k = fb) w1 w3) := ⟨HFr.out.grown hg3 (fun k e hlt => by injection e with e; omega)⟩
      have HW3 := Aside0.mk ((HFr3.out.block gb (blk_lt HW1.out) (fun e => H1.out.fst.noCells (e ▸ HW1.out))).trans HW1.out)
      have hIq : ∀ {c0 : Nat} {cc : Array Value}, IsB w1 c0 cc 79 → IsB w3 c0 cc 79 := fun h => (HFr3.out.block _ (blk_lt h) (fun e => H1.out.fst.noCells (e ▸ h))).trans h
      have HRG := Aside0.mk hrg3
      have HLT := Aside0.mk hlt
      have HKM := Aside0.mk hk
      have k4 : w3.cell? ⟨gb, 4, none⟩ = some (ptrV q) := (blk_cell HW3.out 4).trans rfl
      have hgl := blk_lt HW3.out
      have HEQ : Aside0 ((binOp .eql 71 (ptrV c') (ptrV q)).run Try.prog w3 = .ok (.bool (decide (c' = q))) w3) := ⟨by
        obtain ⟨cc, hcc⟩ := file_blk H1.out HQ.out.1
        obtain ⟨cd, hcd⟩ := fast_blk H1.out hgm.1
        have h := eql_run (c := some c') (hIq hcc) (fun c'' e => by cases e; exact ⟨_, hIq hcd⟩)
        rw [show decide (some c' = some q) = decide (c' = q) by simp] at h
        exact h⟩
      clear hsm ha hat hy hrg3 hlt hg3 hs3 hIq hk hD'
      by_cases hcq : c' = q
      · subst hcq
        rw [decide_eq_true rfl] at HEQ
        have hwho := fast_who H1.out HQ.out.1 hgm.1
        obtain rfl : m = n0 := by have h := hwho.1; rw [HN0.out] at h; exact (Option.some.inj h).symm
        have hb : b = false := by cases b with
          | false => rfl
          | true => exact absurd ⟨rfl, rfl⟩ hgm.2
        subst hb
        have HNM := Aside0.mk hwho.2
        have hB3 := (HFr3.out.block g (blk_lt H1.out.blk) (fun e => H1.out.fst.noCells (e ▸ H1.out.blk))).trans H1.out.blk
        have y3 : w3.cell? ⟨g, 3, none⟩ = some (.map (some fb)) := (blk_cell hB3 3).trans rfl
        have hgs3 := blk_lt hB3
        clear hB3 hwho hget hc' hgm
        go_wp2_with (first | (refine wpList_eql71 rfl _ _ _ rfl _ _ true rfl rfl HEQ.out ?_) | (at_delete; refine wpList_delete_ranges _ rfl _ _ 65 9 rfl 71 keyLaw Try.underlying65 filE fb w1.heap.size _ D' _ _ rfl HRG.out _ _ rfl HKM.out ?_; intro w4 cnt4 hrg4 hle4 hturn4; have HRG4 := Aside0.mk hrg4; have HLE4 := Aside0.mk hle4; have HFr4 := Aside0.mk (HFr3.out.grown hturn4.grown (fun k e _ => by injection e with e; exact e.symm)); clear hrg4 hle4 hturn4) | fail)
        go_roundg cnt4
        case measure => exact Nat.lt_of_le_of_lt HLE4.out HLT.out
        case rel => exact ⟨_, _, true, HRG4, ⟨by rw [HD1.out]; rfl⟩, ⟨(fun h => by cases h), fun _ => HNM.out⟩, HFr4⟩
      · rw [decide_eq_false hcq] at HEQ
        have HLL : Aside0 (b = false → n0 ≠ nameless → (left (key n0) && !(key n0).sameKey (key m)) = true) := ⟨fun hb hn => by
          rw [HL1.out.1 hb hn, key_same]
          have hne : ¬ n0 = m := by
            rintro rfl
            have h1 := fast_is H1.out HI.out HQ.out.1 HN0.out hn
            rw [hgm.1] at h1
            exact hcq (Option.some.inj h1)
          rw [decide_eq_false hne]
          rfl⟩
        clear hget hc' hgm
        go_wp2_with (first | (refine wpList_eql71 rfl _ _ _ rfl _ _ false rfl rfl HEQ.out ?_) | fail)
        go_roundg cnt3
        case measure => exact HLT.out
        case rel => exact ⟨_, _, b, HRG, HD1, ⟨HLL.out, HL1.out.2⟩, HFr3⟩
end
end Go.Proofs.Ytnegcjgolaakcaa

/- Plain: what works keep. -/
namespace Go.Proofs.Ytnegcjgolaakcaa
set_option linter.unusedVariables false
set_option linter.unusedSimpArgs false
def oldN (s : DS) : Nat := (s.files.map (fun f => f.old.length)).sum
def nowN (s : DS) : Nat := (s.files.map (fun f => f.now.length)).sum
def wkN (ws : List PW) : Nat := (ws.map (fun w => w.b.length)).sum
/-- a work that may be -/
def WOk (n : Nat) (p : PW) : Prop := p.file < n ∧ (p.kind = 1 ∨ p.kind = 2 ∨ (p.kind = 3 ∧ namedV p.tgt = true) ∨ (p.kind = 4 ∧ namedV p.nm = true))
/-- what is kept of files -/
structure FI (T : Nat) (s : DS) (e : Nat) : Prop where
  nm : UL s.nmL
  fs : UL s.fsL
  okn : ∀ x ∈ s.nmL, x = nameless ∨ namedV x = true
  okf : ∀ x ∈ s.fsL, x = nameless ∨ namedV x = true
  lf : s.files.length ≤ T
  now : nowN s ≤ T
  old : oldN s + e ≤ T
theorem wkN_cons (w : PW) (ws : List PW) : wkN (w :: ws) = w.b.length + wkN ws := by simp [wkN]
theorem wkN_append (a b : List PW) : wkN (a ++ b) = wkN a + wkN b := by simp [wkN]
theorem Inv_FI {T : Nat} {s : DS} : s.Inv T ↔ FI T s (wkN s.works) ∧ (∀ w ∈ s.works, WOk s.files.length w) ∧ s.works.length ≤ T ∧ (-1 ≤ s.left ∧ s.left ≤ 9223372036854775807) ∧ (1 ≤ s.names ∧ s.names ≤ 64) ∧ (0 ≤ s.room ∧ s.room ≤ 4194304) := by
  constructor
  · intro h
    refine ⟨⟨h.nmU, h.fsU, ?_, ?_, h.lf, h.now, h.old⟩, fun w hw => ⟨h.wf w hw, h.kinds w hw⟩, h.lw, h.left, h.names, h.room⟩
    · intro x hx
      obtain ⟨f, hf, rfl⟩ := List.mem_map.1 hx
      exact h.okn f hf
    · intro x hx
      obtain ⟨f, hf, rfl⟩ := List.mem_map.1 hx
      exact h.okf f hf
  · rintro ⟨h, hw, h1, h2, h3, h4⟩
    refine ⟨?_, ?_, fun w hm => (hw w hm).1, fun w hm => (hw w hm).2, fun f hf => h.okn _ (List.mem_map_of_mem hf), fun f hf => h.okf _ (List.mem_map_of_mem hf), h.lf, h1, h.now, h.old, h2, h3, h4⟩
    · have := h.nm
      unfold UL DS.nmL at this
      rwa [List.pairwise_map] at this
    · have := h.fs
      unfold UL DS.fsL at this
      rwa [List.pairwise_map] at this
theorem sum_set {l : List Nat} {i x y : Nat} (h : l[i]? = some x) : (l.set i y).sum + x = l.sum + y := by
  induction l generalizing i with
  | nil => simp at h
  | cons z l ih =>
    cases i with
    | zero =>
      obtain rfl : z = x := by simpa using h
      simp only [List.set_cons_zero, List.sum_cons]
      omega
    | succ i =>
      have := ih (i := i) (by simpa using h)
      simp only [List.set_cons_succ, List.sum_cons]
      omega
theorem setOld_nm (s : DS) (i : Nat) (b : List Int) : (s.setOld i b).nmL = s.nmL := map_modify_same s.files i (fun f => { f with old := b }) _ (fun _ => rfl)
theorem setOld_fs (s : DS) (i : Nat) (b : List Int) : (s.setOld i b).fsL = s.fsL := map_modify_same s.files i (fun f => { f with old := b }) _ (fun _ => rfl)
theorem setOld_now (s : DS) (i : Nat) (b : List Int) : nowN (s.setOld i b) = nowN s := by
  unfold nowN
  rw [show (s.setOld i b).files.map (fun f => f.now.length) = s.files.map (fun f => f.now.length) from map_modify_same s.files i (fun f => { f with old := b }) _ (fun _ => rfl)]
theorem setOld_old {s : DS} {i : Nat} {f : PF} (h : s.files[i]? = some f) (b : List Int) : oldN (s.setOld i b) + f.old.length = oldN s + b.length := by
  unfold oldN
  rw [show (s.setOld i b).files.map (fun f => f.old.length) = (s.files.map (fun f => f.old.length)).set i b.length from map_modify_set s.files i (fun f => { f with old := b }) _ _ (fun _ => rfl)]
  exact sum_set (by rw [List.getElem?_map, h]; rfl)
theorem setFast_now (s : DS) (i : Nat) (b : ByteArray) : nowN (s.setFast i b) = nowN s := by
  unfold nowN
  rw [show (s.setFast i b).files.map (fun f => f.now.length) = s.files.map (fun f => f.now.length) from map_modify_same s.files i (fun f => { f with fast := b }) _ (fun _ => rfl)]
theorem setFast_old (s : DS) (i : Nat) (b : ByteArray) : oldN (s.setFast i b) = oldN s := by
  unfold oldN
  rw [show (s.setFast i b).files.map (fun f => f.old.length) = s.files.map (fun f => f.old.length) from map_modify_same s.files i (fun f => { f with fast := b }) _ (fun _ => rfl)]
theorem setFast_len (s : DS) (i : Nat) (b : ByteArray) : (s.setFast i b).files.length = s.files.length := List.length_modify _ _ _
theorem mem_set {L : List ByteArray} {i : Nat} {n x : ByteArray} (h : x ∈ L.set i n) : x = n ∨ x ∈ L := by
  rcases List.mem_or_eq_of_mem_set h with h | h
  · exact .inr h
  · exact .inl h
theorem FI.setFast {T : Nat} {s : DS} {e : Nat} (h : FI T s e) (i : Nat) {n : ByteArray} (hn : n = nameless ∨ (namedV n = true ∧ ∀ j : Nat, j ≠ i → s.fsL[j]? ≠ some n)) : FI T (s.setFast i n) e := by
  refine ⟨?_, ?_, ?_, ?_, ?_, ?_, ?_⟩
  · rw [DS.setFast_nm]; exact h.nm
  · rw [DS.setFast_fs]; exact UL_set h.fs i n (hn.imp id (·.2))
  · rw [DS.setFast_nm]; exact h.okn
  · rw [DS.setFast_fs]
    intro x hx
    rcases mem_set hx with rfl | hx
    · exact hn.imp id (·.1)
    · exact h.okf x hx
  · rw [setFast_len]; exact h.lf
  · rw [setFast_now]; exact h.now
  · rw [setFast_old]; exact h.old
theorem FI.giveF {T : Nat} {s : DS} {e : Nat} (h : FI T s e) (i : Nat) {n : ByteArray} (hn : namedV n = true) : FI T (s.giveF i n) e := by
  unfold DS.giveF
  have hF := freed h.fs (not_nameless hn)
  cases hf : s.findF n with
  | none =>
    rw [DS.findF_L] at hf
    exact h.setFast i (.inr ⟨hn, fun j _ hj => idxL_none.1 hf (List.mem_of_getElem? hj)⟩)
  | some k =>
    have h1 := h.setFast k (.inl (rfl : nameless = nameless))
    refine FI.setFast h1 i (.inr ⟨hn, fun j _ hj => ?_⟩)
    rw [DS.findF_L] at hf
    rw [hf] at hF
    rw [DS.setFast_fs] at hj
    exact hF.2 j hj
theorem work_head (s : DS) (p : PW) (n : Nat) : s.work p n = { s with files := (s.work p n).files } := by
  unfold DS.work
  split
  · rfl
  · split
    · split <;> rfl
    · rfl
theorem work_works (s : DS) (p : PW) (n : Nat) : (s.work p n).works = s.works := by rw [work_head]
theorem giveF_len (s : DS) (i : Nat) (b : ByteArray) : (s.giveF i b).files.length = s.files.length := by
  have := congrArg List.length (DS.giveF_rest s i b)
  simpa using this
theorem work_len {s : DS} (p : PW) (n : Nat) : (s.work p n).files.length = s.files.length := by
  unfold DS.work
  split
  · simp
  · split
    · split
      · exact setFast_len _ _ _
      · rfl
    · exact List.length_modify _ _ _
/-- a work keeps what is kept -/
theorem FI.work {T : Nat} {s : DS} {e : Nat} {p : PW} (h : FI T s (p.b.length + e)) (hp : WOk s.files.length p) (n : Nat) : FI T (s.work p n) e := by
  have h' : FI T s e := ⟨h.nm, h.fs, h.okn, h.okf, h.lf, h.now, by have := h.old; omega⟩
  rcases hp.2 with hk | hk | ⟨hk, ht⟩ | ⟨hk, ht⟩
  · obtain ⟨f, hfi⟩ : ∃ f, s.files[p.file]? = some f := ⟨_, List.getElem?_eq_getElem hp.1⟩
    have e1 : s.work p n = s.setOld p.file ((if p.kind = 1 then [] else s.oldAt p.file) ++ p.b.take n) := by unfold DS.work; rw [if_neg (by rw [hk]; decide), if_neg (by rw [hk]; decide)]
    rw [e1, if_pos hk, List.nil_append]
    have ho := setOld_old hfi (p.b.take n)
    refine ⟨by rw [setOld_nm]; exact h.nm, by rw [setOld_fs]; exact h.fs, by rw [setOld_nm]; exact h.okn, by rw [setOld_fs]; exact h.okf, by rw [show (s.setOld p.file (p.b.take n)).files.length = s.files.length from List.length_modify _ _ _]; exact h.lf, by rw [setOld_now]; exact h.now, ?_⟩
    have := h.old
    have h2 : (p.b.take n).length ≤ p.b.length := by rw [List.length_take]; omega
    omega
  · obtain ⟨f, hfi⟩ : ∃ f, s.files[p.file]? = some f := ⟨_, List.getElem?_eq_getElem hp.1⟩
    have e1 : s.work p n = s.setOld p.file ((if p.kind = 1 then [] else s.oldAt p.file) ++ p.b.take n) := by unfold DS.work; rw [if_neg (by rw [hk]; decide), if_neg (by rw [hk]; decide)]
    rw [e1, if_neg (by rw [hk]; decide)]
    have e2 : s.oldAt p.file = f.old := by unfold DS.oldAt; rw [hfi]; rfl
    rw [e2]
    have ho := setOld_old hfi (f.old ++ p.b.take n)
    refine ⟨by rw [setOld_nm]; exact h.nm, by rw [setOld_fs]; exact h.fs, by rw [setOld_nm]; exact h.okn, by rw [setOld_fs]; exact h.okf, by rw [show (s.setOld p.file (f.old ++ p.b.take n)).files.length = s.files.length from List.length_modify _ _ _]; exact h.lf, by rw [setOld_now]; exact h.now, ?_⟩
    have := h.old
    have h2 : (p.b.take n).length ≤ p.b.length := by rw [List.length_take]; omega
    rw [List.length_append] at ho
    omega
  · rw [work3 h.fs hk (not_nameless ht)]
    exact (h'.setFast p.file (.inl rfl)).giveF p.file ht
  · have e1 : s.work p n = if s.fastAt p.file = p.nm then s.setFast p.file nameless else s := by unfold DS.work; rw [if_neg (by rw [hk]; decide), if_pos hk]
    rw [e1]
    split
    · exact h'.setFast p.file (.inl rfl)
    · exact h'
end Go.Proofs.Ytnegcjgolaakcaa

/- make, any work; a disk's blocks are those that there are; a work in the works' row. -/
namespace Go.Proofs.Ytnegcjgolaakcaa
open Go.RowKit Go.Maps
open Go.Proofs.YtnegcjgolaakcaaW.PrintWords Go.Proofs.YtnegcjgolaakcaaW.PrintLast Go.Proofs.YtnegcjgolaakcaaW.PrintMore
set_option linter.unusedVariables false
set_option linter.unusedSimpArgs false
section
variable {w w' : World} {g : Nat} {s s' : DS} {base : Nat} {ok : Nat → Prop} {nb fb : Nat} {v v1 : Value} {ad ad' : List Nat} {T e : Nat}
theorem named_le {n : ByteArray} (h : namedV n = true) : n.size ≤ maxLen := by
  have h2 : n.size ≤ 32 := by
    unfold namedV at h
    simp only [Bool.and_eq_true, decide_eq_true_eq] at h
    exact h.2.2
  simp only [maxLen]
  omega
theorem make_calls (p : PW) (n : Nat) (B : Option Addr) (cb : Nat) (q : Nat) (h : DiskAt w g s base ok nb fb v ad) (hI : FI T s (p.b.length + e)) (hT : T ≤ 1073741824) (hfresh : ∀ k, w.heap.size ≤ k → ok k) (hq : ad[p.file]? = some q) (hp : WOk s.files.length p)
    (hcb : p.b.length ≤ cb) (hB : bK.C w B p.b.length p.b) (hn : n ≤ 9223372036854775807) :
    Calls Try.prog 52 #[ptrV g, .agg (cW (⟨p.kind, p.nm, p.tgt, p.len, q, p.b⟩ : MW) (.slice B p.b.length cb)), .int .i64 n] w (MakePost w g base ok nb fb v ad (s.work p n)) := by
  have hl : s.files.length ≤ 1073741824 := Nat.le_trans hI.lf hT
  have hs : p.b.length ≤ 1073741824 := by have := hI.old; omega
  have ho : ∀ f, s.files[p.file]? = some f → f.old.length ≤ 1073741824 := fun f hf => by
    have h1 : f.old.length ≤ oldN s := sum_ge (List.mem_map_of_mem (f := fun f : PF => f.old.length) (List.mem_of_getElem? hf))
    have := hI.old
    omega
  rcases hp.2 with hk | hk | ⟨hk, ht⟩ | ⟨hk, ht⟩
  · exact make_bytes1 p n B cb q h hI.fs hl hfresh hq hp.1 hcb hB hn hk hs ho
  · exact make_bytes2 p n B cb q h hI.fs hl hfresh hq hp.1 hcb hB hn hk hs ho
  · exact make_name p n B cb q h hI.fs hl hfresh hq hp.1 hcb hB hn hk (named_le ht) (not_nameless ht)
  · exact make_gone p n B cb q h hI.fs hl hfresh hq hp.1 hcb hB hn hk (named_le ht) (not_nameless ht)
theorem FileAt.bound {f : PF} {c : Nat} (h : FileAt w base ok c f) : FileAt w base (fun k => ok k ∧ base ≤ k ∧ k < w.heap.size) c f := by
  obtain ⟨o1, o2, vn, vo, h3, h4, h5⟩ := h
  exact ⟨⟨o1, o2, blk_lt h3⟩, o2, vn, vo, h3, Kd.R_mono (Kd.R_bound h4) (fun k hk => ⟨hk.1, hk.2.1, hk.2.2.1⟩), Kd.R_mono (Kd.R_bound h5) (fun k hk => ⟨hk.1, hk.2.1, hk.2.2.1⟩)⟩
/-- a disk's blocks are those that there are -/
theorem DiskAt.bound (h : DiskAt w g s base ok nb fb v ad) : DiskAt w g s base (fun k => ok k ∧ base ≤ k ∧ k < w.heap.size) nb fb v ad where
  blk := h.blk
  okg := ⟨⟨h.okg.1, h.okg.2, blk_lt h.blk⟩, h.okg.2⟩
  okn := ⟨⟨h.okn.1, h.okn.2, h.nms.lt⟩, h.okn.2⟩
  okf := ⟨⟨h.okf.1, h.okf.2, h.fst.lt⟩, h.okf.2⟩
  ne := h.ne
  nms := h.nms
  fst := h.fst
  wks := Kd.R_mono (Kd.R_bound h.wks) (fun k hk => ⟨hk.1, hk.2.1, hk.2.2.1⟩)
  fls := fun i f hf => by
    obtain ⟨g', e, hF⟩ := h.fls i f hf
    exact ⟨g', e, hF.bound⟩
  len := h.len
  nd := h.nd
/-- a new row of works -/
theorem DiskAt.newRow (h : DiskAt w g s base ok nb fb v ad) {ws : List PW} (hR : workK.R 76 w base ok v1 (ws.map (mwOf ad))) : DiskAt (w.setCell ⟨g, 4, none⟩ v1) g { s with works := ws } base ok nb fb v1 ad :=
  h.row hR (World.grownBy.refl w _) rfl
/-- a work in a row -/
theorem at_W {A : Option Addr} {n : Nat} {xs : List MW} (h : workK.C w A n xs) (i : Nat) (h1 : i < n) : ∃ (ad : Addr) (x : MW) (B : Option Addr) (cb : Nat), A = some ad ∧ xs[i]? = some x ∧ w.cell? (ad.add (i * 6)) = some (.int .i64 x.kind) ∧ w.cell? (ad.add (i * 6 + 1)) = some (.string x.nm) ∧ w.cell? (ad.add (i * 6 + 2)) = some (.string x.tgt) ∧ w.cell? (ad.add (i * 6 + 3)) = some (.int .i64 x.len) ∧ w.cell? (ad.add (i * 6 + 4)) = some (ptrV x.f) ∧ w.cell? (ad.add (i * 6 + 5)) = some (.slice B x.b.length cb) ∧ x.b.length ≤ cb ∧ bK.C w B x.b.length x.b := by
  have hl : i < xs.length := by have := h.1; omega
  obtain ⟨ad, c, e, _, hK, hc0⟩ := Kd.C_get h xs[i] (i : Int) (by omega) (by omega)
  have hx : xs.getD ((i : Int)).toNat xs[i] = xs[i] := by
    rw [List.getD_eq_getElem?_getD, Int.toNat_natCast, List.getElem?_eq_getElem hl]
    rfl
  rw [hx] at hK
  have hc : ∀ j u, c[j]? = some u → w.cell? (ad.add (i * 6 + j)) = some u := hc0
  obtain ⟨B, cb, rfl, hcb, hB⟩ := workK_open hK
  exact ⟨ad, xs[i], B, cb, e, List.getElem?_eq_getElem hl, hc 0 _ rfl, hc 1 _ rfl, hc 2 _ rfl, hc 3 _ rfl, hc 4 _ rfl, hc 5 _ rfl, hcb, hB⟩
end
end Go.Proofs.Ytnegcjgolaakcaa
