/- A byte turned, plainly: it is always told, and where. -/
import Derived.Test.YtmiljlbbacbbpaaCutP
import Derived.Test.YtmiljlbbacbbpaaStP
namespace Go.Proofs.Ytmiljlbbacbbpaa
open Go.RowKit PBase
open Go.Proofs.YtmiljlbbacbbpaaW.PrintWords Go.Proofs.YtmiljlbbacbbpaaW.PrintLast Go.Proofs.YtmiljlbbacbbpaaW.PrintMore
set_option linter.unusedVariables false
set_option linter.unusedSimpArgs false

/-- from m on: what is read, or where it stops -/
def Low {α : Type} (m : Nat) (p : PR α) : Prop := (∀ v a, p = .ok v a → m ≤ a) ∧ ∀ e l, p = .stop e l → (m : Int) ≤ l
theorem Low.ok {α : Type} {m a : Nat} (v : α) (h : m ≤ a) : Low m (.ok v a) := ⟨fun _ _ e => (by injection e with _ e; omega), fun _ _ e => (by cases e)⟩
theorem Low.stop {α : Type} {m : Nat} (e : Int) {l : Int} (h : (m : Int) ≤ l) : Low m (.stop e l : PR α) := ⟨fun _ _ x => (by cases x), fun _ _ x => (by injection x with _ x; omega)⟩
theorem Low.bind {α β : Type} {m : Nat} {p : PR α} {f : α → Nat → PR β} (h : Low m p) (hf : ∀ v a, m ≤ a → Low m (f v a)) : Low m (p.bind f) := by
  cases p with
  | ok v a => exact hf v a (h.1 v a rfl)
  | stop e l => exact Low.stop e (h.2 e l rfl)
section
variable (c : List Int) {m : Nat} (hm : m ≤ c.length)
include hm
theorem number_low (n a : Nat) (h : m ≤ a) : Low m (numberP c n a) := by
  unfold numberP
  split
  · exact Low.stop _ (by omega)
  · exact Low.ok _ (by omega)
theorem within_low (n : Nat) (lo hi : Int) (a : Nat) (h : m ≤ a) : Low m (withinP c n lo hi a) := by
  rw [within_bind]
  refine (number_low c hm n a h).bind fun x a' ha => ?_
  split
  · exact Low.stop _ (by omega)
  · exact Low.ok _ ha
theorem bits_low (w : Int) : ∀ (k a : Nat) (acc : List Int), m ≤ a → Low m (bitsP c w k a acc)
  | 0, a, acc, h => Low.ok _ h
  | k + 1, a, acc, h => by
    rw [bits_bind]
    refine (number_low c hm _ a h).bind fun x a' ha => ?_
    split
    · exact bits_low w k a' _ ha
    · exact Low.stop _ (by omega)
theorem matrix_low (a : Nat) (h : m ≤ a) : Low m (matrixP c a) := by
  rw [matrix_bind]
  refine (number_low c hm 1 a h).bind fun w a1 h1 => ?_
  split
  · exact Low.stop _ (by omega)
  · exact (within_low c hm _ _ _ _ h1).bind fun r a2 h2 => (within_low c hm _ _ _ _ h2).bind fun c a3 h3 => (bits_low _ hm _ _ _ _ h3).bind fun l a4 h4 => Low.ok _ h4
theorem mats_low : ∀ (k a : Nat) (acc : List S56), m ≤ a → Low m (matsP c k a acc)
  | 0, a, acc, h => Low.ok _ h
  | k + 1, a, acc, h => by
    unfold matsP
    exact (matrix_low c hm a h).bind fun x a' h' => mats_low k a' _ h'
theorem slots_low : ∀ (k a : Nat) (acc : List (List S56)), m ≤ a → Low m (slotsP c k a acc)
  | 0, a, acc, h => Low.ok _ h
  | k + 1, a, acc, h => by
    unfold slotsP
    exact (within_low c hm _ _ _ _ h).bind fun x a' h' => (mats_low c hm _ _ _ h').bind fun s a2 h2 => slots_low k a2 _ h2
theorem head_low : ∀ (l : List Int) (a : Nat), m ≤ a → Low m (headP c l a)
  | [], a, h => Low.ok _ h
  | x :: l, a, h => by
    unfold headP
    exact (within_low c hm _ _ _ _ h).bind fun _ a' h' => head_low l a' h'
end
/-- up to place k they read the same, from there on (but for seven bytes) whatever -/
def Sim {α : Type} (k : Nat) (p q : PR α) : Prop := (∃ v a, p = .ok v a ∧ a ≤ k ∧ q = .ok v a) ∨ Low (k - 7) q ∨ ∃ e l, p = .stop e l
theorem Sim.ok {α : Type} {k : Nat} (v : α) {a : Nat} (h : a ≤ k) : Sim k (.ok v a) (.ok v a) := .inl ⟨v, a, rfl, h, rfl⟩
theorem Sim.stop {α : Type} {k : Nat} (e l : Int) (q : PR α) : Sim k (.stop e l) q := .inr (.inr ⟨e, l, rfl⟩)
theorem Sim.low {α : Type} {k : Nat} {p q : PR α} (h : Low (k - 7) q) : Sim k p q := .inr (.inl h)
theorem Sim.bind {α β : Type} {k : Nat} {p q : PR α} {f g : α → Nat → PR β} (h : Sim k p q) (hl : ∀ v a, k - 7 ≤ a → Low (k - 7) (g v a)) (hf : ∀ v a, a ≤ k → Sim k (f v a) (g v a)) : Sim k (p.bind f) (q.bind g) := by
  rcases h with ⟨v, a, rfl, ha, rfl⟩ | h | ⟨e, l, rfl⟩
  · exact hf v a ha
  · exact .inr (.inl (h.bind hl))
  · exact .inr (.inr ⟨e, l, rfl⟩)
/-- two rows of bytes that are the same below k -/
structure Alike (b c : List Int) (k : Nat) : Prop where
  len : c.length = b.length
  at_ : ∀ i, i < k → c.getD i 0 = b.getD i 0
  lt : k < b.length
theorem numU_alike {b c : List Int} {k a : Nat} (h : Alike b c k) : ∀ m, a + m ≤ k → numU c a m = numU b a m
  | 0, _ => rfl
  | m + 1, hm => by
    unfold numU
    rw [numU_alike h m (by omega), h.at_ _ (by omega)]
theorem number_alike {b c : List Int} {k a n : Nat} (h : Alike b c k) (hk : a + n ≤ k) : numberP c n a = numberP b n a := by
  unfold numberP
  rw [h.len, numU_alike h n hk]
section
variable {b c : List Int} {k : Nat} (h : Alike b c k)
include h
theorem hm_ : k - 7 ≤ c.length := by have := h.len; have := h.lt; omega
theorem number_sim (n a : Nat) (hn : n ≤ 8) : Sim k (numberP b n a) (numberP c n a) := by
  by_cases hk : a + n ≤ k
  · rw [number_alike h hk]
    cases hr : numberP b n a with
    | ok v a' => exact Sim.ok v (by have := number_end_le hr; omega)
    | stop e l => exact Sim.stop _ _ _
  · exact Sim.low (number_low c (hm_ h) n a (by omega))
theorem within_sim (n : Nat) (lo hi : Int) (a : Nat) (hn : n ≤ 8) : Sim k (withinP b n lo hi a) (withinP c n lo hi a) := by
  by_cases hk : a + n ≤ k
  · have e : withinP c n lo hi a = withinP b n lo hi a := by rw [within_bind, within_bind, number_alike h hk]
    rw [e]
    cases hr : withinP b n lo hi a with
    | ok v a' =>
      rw [within_bind] at hr
      obtain ⟨x, a1, e1, e2⟩ := bind_some_ok hr
      have := number_end_le e1
      split at e2
      · cases e2
      · injection e2 with e3 e4
        exact Sim.ok v (by omega)
    | stop e l => exact Sim.stop _ _ _
  · exact Sim.low (within_low c (hm_ h) n lo hi a (by omega))
theorem bits_sim (w : Int) (hw : w = 32 ∨ w = 64) : ∀ (j a : Nat) (acc : List Int), a ≤ k → Sim k (bitsP b w j a acc) (bitsP c w j a acc)
  | 0, a, acc, ha => Sim.ok _ ha
  | j + 1, a, acc, ha => by
    by_cases hk : a + (w / 8).toNat ≤ k
    · rw [bits_bind, bits_bind, number_alike h hk]
      cases hr : numberP b (w / 8).toNat a with
      | stop e l => exact Sim.stop _ _ _
      | ok x a' =>
        rw [PR.bind_ok, PR.bind_ok]
        have := number_end_le hr
        split
        · exact bits_sim w hw j a' _ (by omega)
        · exact Sim.stop _ _ _
    · exact Sim.low (bits_low c (hm_ h) w (j + 1) a acc (by omega))
theorem matrix_sim (a : Nat) (ha : a ≤ k) : Sim k (matrixP b a) (matrixP c a) := by
  by_cases hk : a + 1 ≤ k
  · rw [matrix_bind, matrix_bind, number_alike h hk]
    cases hr : numberP b 1 a with
    | stop e l => exact Sim.stop _ _ _
    | ok w a1 =>
      rw [PR.bind_ok, PR.bind_ok]
      have h1 := number_end_le hr
      split
      · exact Sim.stop _ _ _
      · rename_i hw
        refine (within_sim h 2 _ _ a1 (by decide)).bind (fun r a2 h2 => ?_) fun r a2 h2 => ?_
        · exact (within_low c (hm_ h) _ _ _ _ h2).bind fun c a3 h3 => (bits_low _ (hm_ h) _ _ _ _ h3).bind fun l a4 h4 => Low.ok _ h4
        · refine (within_sim h 2 _ _ a2 (by decide)).bind (fun c a3 h3 => ?_) fun c a3 h3 => ?_
          · exact (bits_low _ (hm_ h) _ _ _ _ h3).bind fun l a4 h4 => Low.ok _ h4
          · exact (bits_sim h w (by omega) _ _ _ h3).bind (fun l a4 h4 => Low.ok _ h4) fun l a4 h4 => Sim.ok _ h4
  · exact Sim.low (matrix_low c (hm_ h) a (by omega))
theorem mats_sim : ∀ (j a : Nat) (acc : List S56), a ≤ k → Sim k (matsP b j a acc) (matsP c j a acc)
  | 0, a, acc, ha => Sim.ok _ ha
  | j + 1, a, acc, ha => by
    unfold matsP
    exact (matrix_sim h a ha).bind (fun m a' h' => mats_low c (hm_ h) _ _ _ h') fun m a' h' => mats_sim j a' _ h'
theorem slots_sim : ∀ (j a : Nat) (acc : List (List S56)), a ≤ k → Sim k (slotsP b j a acc) (slotsP c j a acc)
  | 0, a, acc, ha => Sim.ok _ ha
  | j + 1, a, acc, ha => by
    unfold slotsP
    exact (within_sim h _ _ _ _ (by decide)).bind (fun m a' h' => (mats_low c (hm_ h) _ _ _ h').bind fun s a2 h2 => slots_low c (hm_ h) _ _ _ h2) fun m a' h' => (mats_sim h _ _ _ h').bind (fun s a2 h2 => slots_low c (hm_ h) _ _ _ h2) fun s a2 h2 => slots_sim j a2 _ h2
theorem head_sim : ∀ (l : List Int) (a : Nat), a ≤ k → Sim k (headP b l a) (headP c l a)
  | [], a, ha => Sim.ok _ ha
  | x :: l, a, ha => by
    unfold headP
    exact (within_sim h _ _ _ _ (by decide)).bind (fun _ a' h' => head_low c (hm_ h) _ _ h') fun _ a' h' => head_sim l a' h'
theorem read4_low (x : Row) (a : Nat) (ha : k - 7 ≤ a) : Low (k - 7) (read4 c x a) := by
  unfold read4
  refine (number_low c (hm_ h) 4 a ha).bind fun s a' h' => ?_
  split
  · exact Low.stop _ (by omega)
  · split
    · exact Low.stop _ (by omega)
    · exact Low.ok _ h'
theorem read3_low (s0 s1 s2 l r : Int) (ps : List S56) (a : Nat) (ha : k - 7 ≤ a) : Low (k - 7) (read3 c s0 s1 s2 l r ps a) := by
  unfold read3
  exact (within_low c (hm_ h) _ _ _ _ ha).bind fun n a h1 => (slots_low c (hm_ h) _ _ _ h1).bind fun ss a h2 => read4_low h _ _ h2
theorem read2_low (s0 s1 s2 : Int) (a : Nat) (ha : k - 7 ≤ a) : Low (k - 7) (read2 c s0 s1 s2 a) := by
  unfold read2
  exact (number_low c (hm_ h) _ _ ha).bind fun l a h1 => (number_low c (hm_ h) _ _ h1).bind fun r a h2 => (within_low c (hm_ h) _ _ _ _ h2).bind fun n a h3 => (mats_low c (hm_ h) _ _ _ h3).bind fun ps a h4 => read3_low h _ _ _ _ _ _ _ h4
theorem read1_low (a : Nat) (ha : k - 7 ≤ a) : Low (k - 7) (read1 c a) := by
  unfold read1
  exact (within_low c (hm_ h) _ _ _ _ ha).bind fun _ a h1 => (within_low c (hm_ h) _ _ _ _ h1).bind fun _ a h2 => (within_low c (hm_ h) _ _ _ _ h2).bind fun _ a h3 => read2_low h _ _ _ _ h3
theorem read4_sim (x : Row) (a : Nat) (ha : a ≤ k) : Sim k (read4 b x a) (read4 c x a) := by
  by_cases hk : a + 4 ≤ k
  · unfold read4
    rw [number_alike h hk]
    cases hr : numberP b 4 a with
    | stop e l => exact Sim.stop _ _ _
    | ok s a' =>
      rw [PR.bind_ok, PR.bind_ok]
      have h1 := number_end_le hr
      split
      · exact Sim.stop _ _ _
      · rw [if_pos (by have := h.lt; omega)]
        exact Sim.stop _ _ _
  · by_cases h0 : k - 7 ≤ a
    · exact Sim.low (read4_low h x a h0)
    · omega
theorem read_sim (hl : b.length ≤ 16777216) : Sim k (readP b) (readP c) := by
  unfold readP
  rw [if_neg (by omega), if_neg (by rw [h.len]; omega)]
  refine (head_sim h _ _ (by omega)).bind (fun _ a h1 => read1_low h a h1) fun _ a h1 => ?_
  unfold read1
  refine (within_sim h _ _ _ _ (by decide)).bind (fun _ a h2 => ?_) fun s0 a h2 => ?_
  · exact (within_low c (hm_ h) _ _ _ _ h2).bind fun _ a h3 => (within_low c (hm_ h) _ _ _ _ h3).bind fun _ a h4 => read2_low h _ _ _ _ h4
  refine (within_sim h _ _ _ _ (by decide)).bind (fun _ a h3 => ?_) fun s1 a h3 => ?_
  · exact (within_low c (hm_ h) _ _ _ _ h3).bind fun _ a h4 => read2_low h _ _ _ _ h4
  refine (within_sim h _ _ _ _ (by decide)).bind (fun _ a h4 => read2_low h _ _ _ _ h4) fun s2 a h4 => ?_
  unfold read2
  refine (number_sim h _ _ (by decide)).bind (fun _ a h5 => ?_) fun lo a h5 => ?_
  · exact (number_low c (hm_ h) _ _ h5).bind fun r a h2 => (within_low c (hm_ h) _ _ _ _ h2).bind fun n a h3 => (mats_low c (hm_ h) _ _ _ h3).bind fun ps a h4 => read3_low h _ _ _ _ _ _ _ h4
  refine (number_sim h _ _ (by decide)).bind (fun _ a h5 => ?_) fun ra a h6 => ?_
  · exact (within_low c (hm_ h) _ _ _ _ h5).bind fun n a h3 => (mats_low c (hm_ h) _ _ _ h3).bind fun ps a h4 => read3_low h _ _ _ _ _ _ _ h4
  refine (within_sim h _ _ _ _ (by decide)).bind (fun _ a h5 => ?_) fun n a h7 => ?_
  · exact (mats_low c (hm_ h) _ _ _ h5).bind fun ps a h4 => read3_low h _ _ _ _ _ _ _ h4
  refine (mats_sim h _ _ _ h7).bind (fun _ a h5 => read3_low h _ _ _ _ _ _ _ h5) fun ps a h8 => ?_
  unfold read3
  refine (within_sim h _ _ _ _ (by decide)).bind (fun _ a h5 => ?_) fun n a h9 => ?_
  · exact (slots_low c (hm_ h) _ _ _ h5).bind fun ss a h2 => read4_low h _ _ h2
  exact (slots_sim h _ _ _ h9).bind (fun ss a h2 => read4_low h _ _ h2) fun ss a h10 => read4_sim h _ _ h10
end
end Go.Proofs.Ytmiljlbbacbbpaa
