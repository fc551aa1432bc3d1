/- tensor.Rows: the iterator's contract. -/
import Derived.Test.YtklomikdihlcgaaStays
import Derived.RangeFuncWrites
import Derived.RangeFuncNested
import Derived.RangeFuncBound
import Derived.RangeFuncCalls
import Derived.RangeFuncLeaves
import Derived.Shelf.Abstract
import Derived.WalkKit
import Derived.OwnWalkIn
import Derived.TacticsInMore
import Derived.LoopNIn
import Derived.LoopIn
namespace Go.Proofs.Ytklomikdihlcgaa
open Go.RowKit Go.Shelf PBase
open Go.Proofs.YtklomikdihlcgaaW.PrintWords Go.Proofs.YtklomikdihlcgaaW.PrintLast Go.Proofs.YtklomikdihlcgaaW.PrintMore
set_option linter.unusedVariables false
set_option linter.unusedSimpArgs false
attribute [local go_sem] Oper.semAt_some

/-- the first k rows -/
def firstR (R k : Nat) : List (Fin R) := (List.finRange R).take k
theorem firstR_succ (R k : Nat) (h : k < R) : firstR R (k + 1) = firstR R k ++ [⟨k, h⟩] := by
  unfold firstR
  rw [List.take_succ_eq_append_getElem (by rw [List.length_finRange]; exact h), List.getElem_finRange]
  rfl
theorem firstR_length (R k : Nat) (h : k ≤ R) : (firstR R k).length = k := by
  unfold firstR
  rw [List.length_take, List.length_finRange]; omega
theorem mem_firstR {R k : Nat} (h : k ≤ R) (x : Fin R) : x ∈ firstR R k ↔ x.1 < k := by
  unfold firstR
  rw [List.mem_take_iff_getElem]
  constructor
  · rintro ⟨i, hi, rfl⟩
    rw [List.getElem_finRange]
    have := hi
    simp at this ⊢
    omega
  · intro hx
    exact ⟨x.1, by rw [List.length_finRange]; omega, by rw [List.getElem_finRange]; rfl⟩

theorem row_nums {k R C cA : Nat} (hlt : k < R) (hRR : R ≤ 4096) (hC : 1 ≤ C) (hC2 : C ≤ 4096) (hle : R * C ≤ cA) : ∃ o q : Nat, k * C = o ∧ wrap64 ((k : Int) * (C : Int)) = (o : Int) ∧ wrap64 ((o : Int) + (C : Int)) = (q : Int) ∧ C = q - o ∧ (q = o) = False ∧ (o ≤ q) = True ∧ (q ≤ cA) = True := by
  have hm : (k + 1) * C ≤ R * C := Nat.mul_le_mul_right _ hlt
  have hm2 : R * C ≤ 4096 * 4096 := Nat.mul_le_mul hRR hC2
  have hm3 : (k + 1) * C = k * C + C := by rw [Nat.add_mul, Nat.one_mul]
  refine ⟨k * C, k * C + C, rfl, ?_, ?_, by omega, eq_false (by omega), eq_true (by omega), eq_true (by omega)⟩
  · rw [← Int.natCast_mul]
    generalize k * C = o at hm3
    exact IntWalk.wrap64_in (o : Int) (by omega)
  · generalize k * C = o at hm3
    rw [IntWalk.wrap64_in ((o : Int) + (C : Int)) (by omega)]; rfl

set_option maxRecDepth 100000 in
set_option maxHeartbeats 2000000 in
theorem rows1_in (F : Fence) (n : Nat) (h84 : F.fn 84) (hro : F.round = none) (hn : 1 ≤ n) (l Bs n₀ : Nat) (R C : Nat) (wd : Int) (ad : Addr) (ln cA : Nat) (hC : 1 ≤ C) (hRR : R ≤ 4096) (hC2 : C ≤ 4096) (hle : R * C ≤ cA) (hcA : cA ≤ 9223372036854775807) (hb : Bs < n₀) (J Jx : List (Fin R) → World → Prop)
    (hY : ∀ pre (x : Fin R) W, J pre W → pre.length < R → YieldAt F (n - 1) Try.prog l #[.int .i64 (x.1 : Int), .slice (some (ad.add (x.1 * C))) C C] W fun e W' =>
      (e = .returned (.bool true) ∧ J (pre ++ [x]) W' ∧ Below n₀ W W') ∨ (e = .returned (.bool false) ∧ Jx (pre ++ [x]) W'))
    (W : World) (hI : IsB W Bs (row4 R C wd (.slice (some ad) ln cA)) 25) (h0 : J [] W) :
    CallsIn F n Try.prog 84 #[.func (.yield l) #[] #[], .pointer (some ⟨Bs, 0, none⟩)] W fun e W' => (∃ v, e = .returned v) ∧
      ((∃ ys, ys = firstR R R ∧ J ys W') ∨ (∃ pre, (∃ k, k ≤ R ∧ pre = firstR R k) ∧ Jx pre W')) := by
  refine callsIn_of_wp Try.func84 rfl h84 ?_ hro
  simp only [Try.ntmps84, List.size_toArray, List.length_cons, List.length_nil, Nat.reduceAdd, Nat.reduceSub, Array.replicate_succ, Array.replicate_zero, List.push_toArray, List.append_toArray, List.nil_append, List.cons_append]
  have a0 := blk_cell hI 0
  simp only [List.getElem?_toArray, List.getElem?_cons_zero, List.getElem?_cons_succ] at a0
  gi_wp2
  gi_loopw [7] (fun i wr => ∃ k : Nat, k ≤ R ∧ i = .int .i64 k ∧ J (firstR R k) wr ∧ Below n₀ W wr)
    (fun i _ => R - (intOf i).toNat)
  case atStart => exact ⟨0, Nat.zero_le _, rfl, by simpa [firstR] using h0, Below.refl _ _⟩
  case round =>
    obtain ⟨k, hk, rfl, hJs, hnx⟩ := hrel
    have hIk : IsB wr Bs (row4 R C wd (.slice (some ad) ln cA)) 25 := (hnx.block Bs hb).trans hI
    have b1 := blk_cell hIk 1
    have b3 := blk_cell hIk 3
    simp only [List.getElem?_toArray, List.getElem?_cons_zero, List.getElem?_cons_succ] at b1 b3
    by_cases hlt : k < R
    · obtain ⟨fn, tmps, assign, body, hy, hR⟩ := hY _ (⟨k, hlt⟩ : Fin R) wr hJs (by rw [firstR_length _ _ hk]; exact hlt)
      dsimp only at hy
      obtain ⟨o, q, ho, hw1, hw2, hCq, hqo, hb1, hb2⟩ := row_nums hlt hRR hC hC2 hle
      have d1 : decide (k < R) = true := decide_eq_true hlt
      rw [ho, hCq] at hy
      have HCQ := Aside0.mk hCq
      have HN := Aside0.mk (And.intro hRR (And.intro hC (And.intro hC2 (And.intro hle hk))))
      clear ho hCq hRR hC hC2 hle hk hY
      gi_wp2_with fail
      refine hR.mono ?_
      rintro e W3 (⟨rfl, hJ3, hk3⟩ | ⟨rfl, hJx3⟩)
      · gi_wp2
        go_roundw
        case rel => exact ⟨k + 1, hlt, by rw [IntWalk.wrap64_in ((k : Int) + 1) (by have := HN.out.1; omega)]; rfl, by rw [firstR_succ R k hlt]; exact hJ3, hnx.trans hk3⟩
        case measure => rw [IntWalk.wrap64_in ((k : Int) + 1) (by have := HN.out.1; omega)]; simp [intOf]; omega
      · gi_wp2
        refine bodyPost_ret (results_none rfl _ _ _) rfl ?_
        exact ⟨⟨_, rfl⟩, .inr ⟨_, ⟨k + 1, hlt, (firstR_succ R k hlt).symm⟩, hJx3⟩⟩
    · obtain rfl : k = R := by omega
      have d1 : decide (k < k) = false := decide_eq_false (by omega)
      gi_wp2
      go_end0
      exact ⟨⟨_, rfl⟩, .inl ⟨_, rfl, hJs⟩⟩

end Go.Proofs.Ytklomikdihlcgaa
