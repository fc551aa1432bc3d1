/- Bytes cut off, bytes too many, a byte turned: what reading comes to, plainly. -/
import Derived.Test.YtmiljlbbacbbpaaSbP
namespace Go.Proofs.Ytmiljlbbacbbpaa
open Go.RowKit PBase
open Go.Proofs.YtmiljlbbacbbpaaW.PrintWords Go.Proofs.YtmiljlbbacbbpaaW.PrintLast Go.Proofs.YtmiljlbbacbbpaaW.PrintMore
set_option linter.unusedVariables false
set_option linter.unusedSimpArgs false

theorem within_bind (b : List Int) (n : Nat) (lo hi : Int) (a : Nat) : withinP b n lo hi a = (numberP b n a).bind fun x a' => if x < lo ∨ hi < x then .stop 51 a else .ok x a' := by
  unfold withinP
  cases numberP b n a <;> rfl
theorem bits_bind (b : List Int) (w : Int) (k a : Nat) (acc : List Int) : bitsP b w (k + 1) a acc = (numberP b (w / 8).toNat a).bind fun x a' => if finV x w = true then bitsP b w k a' (acc ++ [x]) else .stop 51 a := by
  rw [bitsP]
  cases numberP b (w / 8).toNat a <;> rfl
theorem matrix_bind (b : List Int) (a : Nat) : matrixP b a = (numberP b 1 a).bind fun w a1 => if w ≠ 32 ∧ w ≠ 64 then .stop 51 a else (withinP b 2 1 65535 a1).bind fun r a2 => (withinP b 2 1 (4096 / r) a2).bind fun c a3 => (bitsP b w (r * c).toNat a3 []).bind fun l a4 => .ok ⟨r, c, w, l⟩ a4 := by
  unfold matrixP
  cases numberP b 1 a with
  | stop e p => rfl
  | ok w a1 =>
    simp only [PR.bind_ok]
    unfold matrix1
    split
    · rfl
    · cases withinP b 2 1 65535 a1 with
      | stop e p => rfl
      | ok r a2 =>
        simp only [PR.bind_ok]
        unfold matrix2
        cases withinP b 2 1 (4096 / r) a2 with
        | stop e p => rfl
        | ok c a3 =>
          simp only [PR.bind_ok]
          unfold matrix3
          cases bitsP b w (r * c).toNat a3 [] <;> rfl

/-! cut off at place n -/
/-- with the bytes cut off at n: the same, or an end too early, if the whole reads at all -/
def Cut {α : Type} (n : Nat) (p q : PR α) : Prop := (∃ v a, p = .ok v a ∧ a ≤ n ∧ q = .ok v a) ∨ q = .stop 50 n ∨ ∃ e l, p = .stop e l
theorem Cut.ok {α : Type} {n : Nat} (v : α) {a : Nat} (h : a ≤ n) : Cut n (.ok v a) (.ok v a) := .inl ⟨v, a, rfl, h, rfl⟩
theorem Cut.stop {α : Type} {n : Nat} (e l : Int) (q : PR α) : Cut n (.stop e l) q := .inr (.inr ⟨e, l, rfl⟩)
theorem Cut.bind {α β : Type} {n : Nat} {p q : PR α} {f g : α → Nat → PR β} (h : Cut n p q) (hf : ∀ v a, a ≤ n → Cut n (f v a) (g v a)) : Cut n (p.bind f) (q.bind g) := by
  rcases h with ⟨v, a, rfl, ha, rfl⟩ | rfl | ⟨e, l, rfl⟩
  · exact hf v a ha
  · exact .inr (.inl rfl)
  · exact .inr (.inr ⟨e, l, rfl⟩)
theorem getD_take {b : List Int} {n i : Nat} (h : i < n) : (b.take n).getD i 0 = b.getD i 0 := by
  rw [List.getD_eq_getElem?_getD, List.getD_eq_getElem?_getD, List.getElem?_take, if_pos h]
theorem numU_take {b : List Int} {n a : Nat} : ∀ m, a + m ≤ n → numU (b.take n) a m = numU b a m
  | 0, _ => rfl
  | m + 1, h => by
    unfold numU
    rw [numU_take m (by omega), getD_take (by omega)]
section
variable {b : List Int} {n : Nat} (hn : n ≤ b.length)
include hn
theorem number_cut (m a : Nat) : Cut n (numberP b m a) (numberP (b.take n) m a) := by
  have hl : (b.take n).length = n := by rw [List.length_take]; omega
  unfold numberP
  rw [hl]
  by_cases h : n < a + m
  · rw [if_pos h]
    exact .inr (.inl rfl)
  · rw [if_neg h, if_neg (by omega), numU_take m (by omega)]
    exact Cut.ok _ (by omega)
theorem within_cut (m : Nat) (lo hi : Int) (a : Nat) : Cut n (withinP b m lo hi a) (withinP (b.take n) m lo hi a) := by
  rw [within_bind, within_bind]
  refine (number_cut hn m a).bind fun x a' ha => ?_
  split
  · exact Cut.stop _ _ _
  · exact Cut.ok _ ha
theorem bits_cut (w : Int) : ∀ (k a : Nat) (acc : List Int), a ≤ n → Cut n (bitsP b w k a acc) (bitsP (b.take n) w k a acc)
  | 0, a, acc, ha => Cut.ok _ ha
  | k + 1, a, acc, ha => by
    rw [bits_bind, bits_bind]
    refine (number_cut hn _ a).bind fun x a' ha' => ?_
    split
    · exact bits_cut w k a' _ ha'
    · exact Cut.stop _ _ _
theorem matrix_cut (a : Nat) : Cut n (matrixP b a) (matrixP (b.take n) a) := by
  rw [matrix_bind, matrix_bind]
  refine (number_cut hn 1 a).bind fun w a1 h1 => ?_
  split
  · exact Cut.stop _ _ _
  · exact (within_cut hn _ _ _ _).bind fun r a2 h2 => (within_cut hn _ _ _ _).bind fun c a3 h3 => (bits_cut hn _ _ _ _ h3).bind fun l a4 h4 => Cut.ok _ h4
theorem mats_cut : ∀ (k a : Nat) (acc : List S56), a ≤ n → Cut n (matsP b k a acc) (matsP (b.take n) k a acc)
  | 0, a, acc, ha => Cut.ok _ ha
  | k + 1, a, acc, ha => by
    unfold matsP
    exact (matrix_cut hn a).bind fun m a' h' => mats_cut k a' _ h'
theorem slots_cut : ∀ (k a : Nat) (acc : List (List S56)), a ≤ n → Cut n (slotsP b k a acc) (slotsP (b.take n) k a acc)
  | 0, a, acc, ha => Cut.ok _ ha
  | k + 1, a, acc, ha => by
    unfold slotsP
    exact (within_cut hn _ _ _ _).bind fun m a' h' => (mats_cut hn _ _ _ h').bind fun s a2 h2 => slots_cut k a2 _ h2
theorem head_cut : ∀ (l : List Int) (a : Nat), a ≤ n → Cut n (headP b l a) (headP (b.take n) l a)
  | [], a, ha => Cut.ok _ ha
  | x :: l, a, ha => by
    unfold headP
    exact (within_cut hn _ _ _ _).bind fun _ a' h' => head_cut l a' h'
end
theorem number_end_le {b : List Int} {m a a' : Nat} {x : Int} (h : numberP b m a = .ok x a') : a' ≤ b.length ∧ a' = a + m := by
  unfold numberP at h
  split at h
  · cases h
  · injection h with h1 h2
    omega
/-- a reading that comes to its end has read all -/
theorem read_end {b : List Int} {x : Row} {a : Nat} (h : readP b = .ok x a) : a = b.length := by
  unfold readP at h
  split at h
  · cases h
  · obtain ⟨_, a0, _, h⟩ := bind_some_ok h
    unfold read1 at h
    obtain ⟨_, a0, _, h⟩ := bind_some_ok h
    obtain ⟨_, a0, _, h⟩ := bind_some_ok h
    obtain ⟨_, a0, _, h⟩ := bind_some_ok h
    unfold read2 at h
    obtain ⟨_, a0, _, h⟩ := bind_some_ok h
    obtain ⟨_, a0, _, h⟩ := bind_some_ok h
    obtain ⟨_, a0, _, h⟩ := bind_some_ok h
    obtain ⟨_, a0, _, h⟩ := bind_some_ok h
    unfold read3 at h
    obtain ⟨_, a0, _, h⟩ := bind_some_ok h
    obtain ⟨_, a0, _, h⟩ := bind_some_ok h
    unfold read4 at h
    obtain ⟨_, a0, h0, h⟩ := bind_some_ok h
    split at h
    · cases h
    · split at h
      · cases h
      · injection h with h1 h2
        have := number_end_le h0
        omega
theorem read_cut {b : List Int} {n : Nat} {x : Row} {a : Nat} (h : readP b = .ok x a) (hn : n < b.length) : readP (b.take n) = .stop 50 n := by
  have hl : (b.take n).length = n := by rw [List.length_take]; omega
  have hn' : n ≤ b.length := by omega
  have hlen : b.length ≤ 16777216 := by
    unfold readP at h
    split at h
    · cases h
    · omega
  have key : Cut n (readP b) (readP (b.take n)) := by
    unfold readP
    rw [if_neg (by omega), if_neg (by omega)]
    refine (head_cut hn' _ _ (by omega)).bind fun _ a0 h0 => ?_
    unfold read1
    refine (within_cut hn' _ _ _ _).bind fun s0 a1 h1 => (within_cut hn' _ _ _ _).bind fun s1 a2 h2 => (within_cut hn' _ _ _ _).bind fun s2 a3 h3 => ?_
    unfold read2
    refine (number_cut hn' _ _).bind fun lo a4 h4 => (number_cut hn' _ _).bind fun ra a5 h5 => (within_cut hn' _ _ _ _).bind fun m a6 h6 => (mats_cut hn' _ _ _ h6).bind fun ps a7 h7 => ?_
    unfold read3
    refine (within_cut hn' _ _ _ _).bind fun m a8 h8 => (slots_cut hn' _ _ _ h8).bind fun ss a9 h9 => ?_
    unfold read4
    rcases number_cut hn' 4 a9 with ⟨s, a10, e1, h10, e2⟩ | e | ⟨e, l, e1⟩
    · rw [e1, e2, PR.bind_ok, PR.bind_ok]
      split
      · exact Cut.stop _ _ _
      · rw [if_pos (by omega)]
        exact Cut.stop _ _ _
    · rw [e, PR.bind_stop]
      exact .inr (.inl rfl)
    · rw [e1, PR.bind_stop]
      exact Cut.stop _ _ _
  rcases key with ⟨v, a', e1, ha, e2⟩ | e | ⟨e, l, e1⟩
  · exfalso
    have h3 : a' = b.length := by
      have := read_end e1
      omega
    omega
  · exact e
  · rw [h] at e1; cases e1

/-! with more behind -/
def Ext {α : Type} (p q : PR α) : Prop := ∀ v a, p = .ok v a → q = .ok v a
theorem Ext.refl {α : Type} (p : PR α) : Ext p p := fun _ _ h => h
theorem Ext.bind {α β : Type} {p q : PR α} {f g : α → Nat → PR β} (h : Ext p q) (hf : ∀ v a, Ext (f v a) (g v a)) : Ext (p.bind f) (q.bind g) := by
  intro v a e
  obtain ⟨x, a1, e1, e2⟩ := bind_some_ok e
  rw [h x a1 e1, PR.bind_ok]
  exact hf x a1 v a e2
theorem getD_left {b e : List Int} {i : Nat} (h : i < b.length) : (b ++ e).getD i 0 = b.getD i 0 := by
  rw [List.getD_eq_getElem?_getD, List.getD_eq_getElem?_getD, List.getElem?_append_left h]
theorem numU_left {b e : List Int} {a : Nat} : ∀ m, a + m ≤ b.length → numU (b ++ e) a m = numU b a m
  | 0, _ => rfl
  | m + 1, h => by
    unfold numU
    rw [numU_left m (by omega), getD_left (by omega)]
section
variable (b e : List Int)
theorem number_ext (m a : Nat) : Ext (numberP b m a) (numberP (b ++ e) m a) := by
  intro v a' h
  unfold numberP at h ⊢
  split at h
  · cases h
  · rw [if_neg (by rw [List.length_append]; omega), numU_left m (by omega)]
    exact h
theorem within_ext (m : Nat) (lo hi : Int) (a : Nat) : Ext (withinP b m lo hi a) (withinP (b ++ e) m lo hi a) := by
  rw [within_bind, within_bind]
  exact (number_ext b e m a).bind fun x a' => Ext.refl _
theorem bits_ext (w : Int) : ∀ (k a : Nat) (acc : List Int), Ext (bitsP b w k a acc) (bitsP (b ++ e) w k a acc)
  | 0, a, acc => Ext.refl _
  | k + 1, a, acc => by
    rw [bits_bind, bits_bind]
    refine (number_ext b e _ a).bind fun x a' => ?_
    split
    · exact bits_ext w k a' _
    · exact Ext.refl _
theorem matrix_ext (a : Nat) : Ext (matrixP b a) (matrixP (b ++ e) a) := by
  rw [matrix_bind, matrix_bind]
  refine (number_ext b e 1 a).bind fun w a1 => ?_
  split
  · exact Ext.refl _
  · exact (within_ext b e _ _ _ _).bind fun r a2 => (within_ext b e _ _ _ _).bind fun c a3 => (bits_ext b e _ _ _ _).bind fun l a4 => Ext.refl _
theorem mats_ext : ∀ (k a : Nat) (acc : List S56), Ext (matsP b k a acc) (matsP (b ++ e) k a acc)
  | 0, a, acc => Ext.refl _
  | k + 1, a, acc => by
    unfold matsP
    exact (matrix_ext b e a).bind fun m a' => mats_ext k a' _
theorem slots_ext : ∀ (k a : Nat) (acc : List (List S56)), Ext (slotsP b k a acc) (slotsP (b ++ e) k a acc)
  | 0, a, acc => Ext.refl _
  | k + 1, a, acc => by
    unfold slotsP
    exact (within_ext b e _ _ _ _).bind fun m a' => (mats_ext b e _ _ _).bind fun s a2 => slots_ext k a2 _
theorem head_ext : ∀ (l : List Int) (a : Nat), Ext (headP b l a) (headP (b ++ e) l a)
  | [], a => Ext.refl _
  | x :: l, a => by
    unfold headP
    exact (within_ext b e _ _ _ _).bind fun _ a' => head_ext l a'
end
theorem read_more {b : List Int} {x : Row} {a : Nat} (y : Int) (h : readP b = .ok x a) (hl : b.length < 16777216) : readP (b ++ [y]) = .stop 51 b.length := by
  have hll : (b ++ [y]).length = b.length + 1 := by simp
  unfold readP at h ⊢
  rw [if_neg (by omega)] at h
  rw [if_neg (by omega)]
  obtain ⟨_, a0, e0, h⟩ := bind_some_ok h
  rw [head_ext b [y] _ _ _ _ e0, PR.bind_ok]
  unfold read1 at h ⊢
  obtain ⟨_, a1, e1, h⟩ := bind_some_ok h
  rw [within_ext b [y] _ _ _ _ _ _ e1, PR.bind_ok]
  obtain ⟨_, a2, e2, h⟩ := bind_some_ok h
  rw [within_ext b [y] _ _ _ _ _ _ e2, PR.bind_ok]
  obtain ⟨_, a3, e3, h⟩ := bind_some_ok h
  rw [within_ext b [y] _ _ _ _ _ _ e3, PR.bind_ok]
  unfold read2 at h ⊢
  obtain ⟨_, a4, e4, h⟩ := bind_some_ok h
  rw [number_ext b [y] _ _ _ _ e4, PR.bind_ok]
  obtain ⟨_, a5, e5, h⟩ := bind_some_ok h
  rw [number_ext b [y] _ _ _ _ e5, PR.bind_ok]
  obtain ⟨_, a6, e6, h⟩ := bind_some_ok h
  rw [within_ext b [y] _ _ _ _ _ _ e6, PR.bind_ok]
  obtain ⟨_, a7, e7, h⟩ := bind_some_ok h
  rw [mats_ext b [y] _ _ _ _ _ e7, PR.bind_ok]
  unfold read3 at h ⊢
  obtain ⟨_, a8, e8, h⟩ := bind_some_ok h
  rw [within_ext b [y] _ _ _ _ _ _ e8, PR.bind_ok]
  obtain ⟨_, a9, e9, h⟩ := bind_some_ok h
  rw [slots_ext b [y] _ _ _ _ _ e9, PR.bind_ok]
  unfold read4 at h ⊢
  obtain ⟨s, a10, e10, h⟩ := bind_some_ok h
  rw [number_ext b [y] _ _ _ _ e10, PR.bind_ok]
  have hle := number_end_le e10
  split at h
  · cases h
  · rename_i hs
    split at h
    · cases h
    · rw [List.take_append_of_le_length (by omega), if_neg hs, if_pos (by omega)]
      congr 1
      omega
/-- what is written is far from the greatest length -/
theorem mats_le' {s : List S56} (h : ∀ m ∈ s, fitsV m = true) : (matsB s).length ≤ s.length * 32773 := matsB_le s h
theorem slots_le : ∀ (ss : List (List S56)), (∀ s ∈ ss, s.length ≤ 4 ∧ ∀ m ∈ s, fitsV m = true) → (slotsB ss).length ≤ ss.length * 131093
  | [], _ => by simp [slotsB]
  | s :: ss, h => by
    have h1 := slots_le ss (fun x hx => h x (List.mem_cons_of_mem _ hx))
    obtain ⟨h4, hm⟩ := h s List.mem_cons_self
    have h2 := matsB_le s hm
    unfold slotsB at h1 ⊢
    rw [List.flatMap_cons, List.length_append, slotB, List.length_append, leB_length, List.length_cons]
    omega
theorem write_far {s0 s1 s2 : Int} {ps : List S56} {ss : List (List S56)} (h : Whole s0 s1 s2 ps ss) (lo ra : Int) : (writeP s0 s1 s2 ps ss lo ra).length ≤ 10500000 := by
  have h1 := mats_le' h.fp
  have h2 := slots_le ss h.fs
  have h3 := h.lp
  have h4 := h.ls
  unfold writeP
  rw [List.length_append, leB_length, body_length]
  omega
theorem write_pos (s0 s1 s2 : Int) (ps : List S56) (ss : List (List S56)) (lo ra : Int) : 52 ≤ (writeP s0 s1 s2 ps ss lo ra).length := by
  unfold writeP
  rw [List.length_append, leB_length, body_length]
  omega
end Go.Proofs.Ytmiljlbbacbbpaa
