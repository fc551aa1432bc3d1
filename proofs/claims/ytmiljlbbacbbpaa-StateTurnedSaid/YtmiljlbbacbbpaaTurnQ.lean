/- A byte turned: it is never read as another state. -/
import Derived.Test.YtmiljlbbacbbpaaTurnP
namespace Go.Proofs.Ytmiljlbbacbbpaa
open Go.RowKit PBase
open Go.Proofs.YtmiljlbbacbbpaaW.PrintWords Go.Proofs.YtmiljlbbacbbpaaW.PrintLast Go.Proofs.YtmiljlbbacbbpaaW.PrintMore
set_option linter.unusedVariables false
set_option linter.unusedSimpArgs false

def wsum : List Int → Nat → Int
  | [], _ => 0
  | y :: l, i => y * ((i : Int) + 1) + wsum l (i + 1)
theorem sumF_wsum : ∀ (l : List Int) (i : Nat) (x : Int), 0 ≤ x ∧ x < 4294967296 → sumF l i x = (x + wsum l i) % 4294967296
  | [], i, x, h => by
    unfold sumF wsum
    omega
  | y :: l, i, x, h => by
    unfold sumF wsum
    rw [sumF_wsum l (i + 1) _ (by omega), Int.emod_add_emod, Int.add_assoc]
theorem wsum_set (t : Int) : ∀ (l : List Int) (i k : Nat), k < l.length → wsum (l.set k t) i = wsum l i + (t - l.getD k 0) * ((i : Int) + (k : Int) + 1)
  | y :: l, i, 0, h => by
    simp only [List.set_cons_zero, wsum, List.getD_cons_zero]
    rw [Int.sub_mul]
    simp only [Int.natCast_zero, Int.add_zero]
    omega
  | y :: l, i, k + 1, h => by
    simp only [List.set_cons_succ, wsum, List.getD_cons_succ]
    rw [wsum_set t l (i + 1) k (by simpa using h)]
    have e : ((i + 1 : Nat) : Int) + (k : Int) + 1 = (i : Int) + ((k + 1 : Nat) : Int) + 1 := by omega
    rw [e]
    omega
theorem no_wrap {d n : Int} (hd : d ≠ 0) (h1 : -255 ≤ d) (h2 : d ≤ 255) (hn : 1 ≤ n) (hm : n ≤ 16777216) : (d * n) % 4294967296 ≠ 0 := by
  have hu : d * n ≤ 255 * 16777216 := by
    have h3 : d * n ≤ 255 * n := Int.mul_le_mul_of_nonneg_right h2 (by omega)
    omega
  have hl : -(255 * 16777216) ≤ d * n := by
    have h3 : -255 * n ≤ d * n := Int.mul_le_mul_of_nonneg_right h1 (by omega)
    omega
  have h0 : d * n ≠ 0 := Int.mul_ne_zero hd (by omega)
  omega
theorem leB4_inj {x y : Int} (hx : 0 ≤ x ∧ x < 4294967296) (hy : 0 ≤ y ∧ y < 4294967296) (h : leB x 4 = leB y 4) : x = y := by
  have h1 := number_small [] [] x 4 (by decide) (by rw [show (256 : Int) ^ 4 = 4294967296 from rfl]; omega)
  have h2 := number_small [] [] y 4 (by decide) (by rw [show (256 : Int) ^ 4 = 4294967296 from rfl]; omega)
  rw [h, h2] at h1
  injection h1 with h3 _
  exact h3.symm
/-- two rows that end with their own sums, one byte turned: they are one -/
theorem sums_apart {B C : List Int} {k : Nat} {t : Int} (hl : B.length ≤ 16777216) (hB : Bytes B) (ht : 0 ≤ t ∧ t < 256) (hlen : C.length = B.length) (hk : k < B.length + 4) (h : C ++ leB (sumV C) 4 = (B ++ leB (sumV B) 4).set k t) : (B ++ leB (sumV B) 4).getD k 0 = t := by
  by_cases hkb : k < B.length
  · rw [List.set_append_left _ _ hkb] at h
    obtain ⟨h1, h2⟩ := List.append_inj h (by rw [List.length_set]; exact hlen)
    have hs := leB4_inj (sumV_range C (by omega)) (sumV_range B (by omega)) h2
    rw [sumV_eq C (by omega), sumV_eq B (by omega), sumF_wsum C 0 0 (by decide), sumF_wsum B 0 0 (by decide), h1, wsum_set t B 0 k hkb] at hs
    rw [getD_left hkb]
    have hby := byte_at hB k
    by_cases hd : t - B.getD k 0 = 0
    · omega
    · exfalso
      refine no_wrap hd (by omega) (by omega) (n := ((0 : Nat) : Int) + (k : Int) + 1) (by omega) (by omega) ?_
      obtain ⟨w, hw⟩ : ∃ w, w = (t - B.getD k 0) * (((0 : Nat) : Int) + (k : Int) + 1) := ⟨_, rfl⟩
      rw [← hw] at hs ⊢
      omega
  · have h3 : (C ++ leB (sumV C) 4).take B.length = ((B ++ leB (sumV B) 4).set k t).take B.length := congrArg (fun l : List Int => l.take B.length) h
    rw [List.set_append_right _ _ (by omega), List.take_left' hlen, List.take_left] at h3
    rw [h3] at h
    rw [List.getD_eq_getElem?_getD, h, List.getElem?_set_self (by rw [List.length_append, leB_length]; exact hk)]
    rfl
theorem read_turned {s0 s1 s2 : Int} {ps : List S56} {ss : List (List S56)} {lo ra : Int} (h : Whole s0 s1 s2 ps ss) (hw : Words s0 s1 s2 ps ss lo ra) {k : Nat} {t : Int} (hk : k < (writeP s0 s1 s2 ps ss lo ra).length) (ht : 0 ≤ t ∧ t < 256) (hne : (writeP s0 s1 s2 ps ss lo ra).getD k 0 ≠ t) :
    ∃ q p, readP ((writeP s0 s1 s2 ps ss lo ra).set k t) = .stop q p ∧ 50 ≤ q ∧ q ≤ 52 ∧ (k : Int) - 7 ≤ p := by
  have hr := write_read h hw
  have hB := write_bytes s0 s1 s2 ps ss lo ra
  have hlen := write_length h lo ra
  obtain ⟨b, hb⟩ : ∃ b, b = writeP s0 s1 s2 ps ss lo ra := ⟨_, rfl⟩
  have hbw : b = bodyB s0 s1 s2 ps ss lo ra ++ leB (sumV (bodyB s0 s1 s2 ps ss lo ra)) 4 := hb
  rw [← hb] at hr hB hlen hk hne ⊢
  have hal : Alike b (b.set k t) k := ⟨List.length_set .., fun i hi => by rw [List.getD_eq_getElem?_getD, List.getD_eq_getElem?_getD, List.getElem?_set_ne (by omega)], hk⟩
  have hBc : Bytes (b.set k t) := fun x hx => (List.mem_or_eq_of_mem_set hx).elim (hB x) (fun e => e ▸ ht)
  rcases read_sim hal hlen with ⟨v, a, e1, ha, e2⟩ | hlow | ⟨e, l, e1⟩
  · exfalso
    have := read_end e1
    omega
  · cases hc : readP (b.set k t) with
    | ok x a =>
      exfalso
      obtain ⟨hck, hwx, _⟩ := read_write hBc hc
      have hx : bodyB x.step x.epoch x.batch x.params x.slots x.loss x.rate ++ leB (sumV (bodyB x.step x.epoch x.batch x.params x.slots x.loss x.rate)) 4 = b.set k t := hwx
      rw [hbw] at hx
      have hbl : (bodyB s0 s1 s2 ps ss lo ra).length + 4 = b.length := by rw [hbw, List.length_append, leB_length]
      have hl2 : (bodyB x.step x.epoch x.batch x.params x.slots x.loss x.rate).length = (bodyB s0 s1 s2 ps ss lo ra).length := by
        have := congrArg List.length hx
        simp only [List.length_set, List.length_append, leB_length] at this
        omega
      have := sums_apart (by omega) (fun y hy => hB y (by rw [hbw]; exact List.mem_append_left _ hy)) ht hl2 (by omega) hx
      rw [← hbw] at this
      exact hne this
    | stop q p =>
      have hs := read_stops (b.set k t) (by rw [List.length_set]; exact hlen) q p hc
      have hp := hlow.2 q p hc
      exact ⟨q, p, rfl, hs.1, hs.2, by omega⟩
  · rw [hr] at e1
    cases e1
end Go.Proofs.Ytmiljlbbacbbpaa
