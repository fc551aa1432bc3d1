/- state.Write, plainly: the bytes that it answers. -/
import Derived.Test.YtmiljlbbacbbpaaRdW
import Derived.Test.YtmiljlbbacbbpaaPBasestateput
import Derived.Test.YtmiljlbbacbbpaaChkW
import Derived.Test.YtmiljlbbacbbpaaPBasestateputMatrix
import Derived.Test.YtmiljlbbacbbpaaPBasestateWrite
import Derived.Test.YtmiljlbbacbbpaaRd
namespace Go.Proofs.Ytmiljlbbacbbpaa
open Go.RowKit PBase
open Go.Proofs.YtmiljlbbacbbpaaW.PrintWords Go.Proofs.YtmiljlbbacbbpaaW.PrintLast Go.Proofs.YtmiljlbbacbbpaaW.PrintMore
set_option linter.unusedVariables false
set_option linter.unusedSimpArgs false

/-- byte i of x -/
def byteI (x : Int) (i : Nat) : Int := (IntKind.u64.wrap x) / 2 ^ (8 * i) % 256
def leB (x : Int) (m : Nat) : List Int := (List.range m).map (byteI x)
theorem leB_length (x : Int) (m : Nat) : (leB x m).length = m := by simp [leB]
theorem shr_byte (x : Int) (i : Nat) (hi : i < 8) : shr .u64 (IntKind.u64.wrap x) (wrap64 (8 * (i : Int))) % 256 = byteI x i := by
  have h1 : wrap64 (8 * (i : Int)) = ((8 * i : Nat) : Int) := by unfold wrap64; omega
  have h2 : min (8 * i) IntKind.u64.bits = 8 * i := by have : IntKind.u64.bits = 64 := rfl; omega
  unfold shr byteI
  rw [h1, Int.toNat_natCast, h2]
theorem put_go (x : Int) (m : Nat) (hm : m ≤ 8) : ∀ (n i k : Nat) (acc : List Int), i + n = m → n < k → acc.length + n < 140737488355328 →
    state_put.l0 k acc x (m : Int) (i : Int) = some (acc ++ ((List.range n).map fun j => byteI x (i + j)))
  | 0, i, k + 1, acc, h, hk, hl => by
    unfold state_put.l0
    rw [if_neg (by omega)]
    simp
  | n + 1, i, k + 1, acc, h, hk, hl => by
    unfold state_put.l0
    rw [if_pos (by omega), if_pos (by unfold wrap64; omega), if_pos (by omega), shr_byte x i (by omega), show wrap64 ((i : Int) + 1) = ((i + 1 : Nat) : Int) by unfold wrap64; omega, put_go x m hm n (i + 1) k _ (by omega) (by omega) (by simp; omega)]
    congr 1
    rw [List.range_succ_eq_map, List.map_cons, List.map_map, List.append_assoc]
    congr 1
    simp only [List.singleton_append, Nat.add_zero, List.cons.injEq, true_and]
    apply List.map_congr_left
    intro a _
    show byteI x (i + 1 + a) = byteI x (i + (a + 1))
    rw [show i + 1 + a = i + (a + 1) by omega]
theorem put_all (acc : List Int) (x : Int) (m k : Nat) (hm : m ≤ 8) (hk : m < k) (hl : acc.length + m < 140737488355328) : state_put.f k acc x (m : Int) = some (acc ++ leB x m) := by
  have := put_go x m hm m 0 k acc (by omega) hk hl
  unfold state_put.f leB
  rw [show (0 : Int) = ((0 : Nat) : Int) from rfl, this]
  simp
theorem leB_bytes (x : Int) (m : Nat) : Bytes (leB x m) := by
  intro b hb
  obtain ⟨i, _, rfl⟩ := List.mem_map.1 hb
  unfold byteI
  omega
end Go.Proofs.Ytmiljlbbacbbpaa

/- state.putMatrix, plainly. -/
namespace Go.Proofs.Ytmiljlbbacbbpaa
open Go.RowKit PBase
open Go.Proofs.YtmiljlbbacbbpaaW.PrintWords Go.Proofs.YtmiljlbbacbbpaaW.PrintLast Go.Proofs.YtmiljlbbacbbpaaW.PrintMore
set_option linter.unusedVariables false
set_option linter.unusedSimpArgs false

def bitsB (w : Nat) (l : List Int) : List Int := l.flatMap fun x => leB x w
def matB (m : S56) : List Int := leB m.f2 1 ++ leB m.f0 2 ++ leB m.f1 2 ++ bitsB (m.f2 / 8).toNat m.f3
theorem bitsB_length (w : Nat) : ∀ l : List Int, (bitsB w l).length = l.length * w
  | [] => by simp [bitsB]
  | x :: l => by
    have := bitsB_length w l
    unfold bitsB at this ⊢
    rw [List.flatMap_cons, List.length_append, leB_length, this, List.length_cons, Nat.succ_mul, Nat.add_comm]
theorem pm_go (l : List Int) (a b w : Int) (d : List Int) (nb : Nat) (hnb : nb ≤ 8) (hw : wrap64 (Int.tdiv w 8) = (nb : Int)) (hl : l.length ≤ 100000) : ∀ (n i k : Nat) (acc : List Int), i + n = l.length → n + 9 < k → acc.length + n * 8 < 140737488355328 →
    state_putMatrix.l0 k acc l (l.length : Int) (i : Int) a b w d = some (acc ++ bitsB nb (l.drop i))
  | 0, i, k + 1, acc, h, hk, hc => by
    unfold state_putMatrix.l0
    rw [if_neg (by omega), List.drop_eq_nil_of_le (by omega)]
    simp [bitsB]
  | n + 1, i, k + 1, acc, h, hk, hc => by
    unfold state_putMatrix.l0
    rw [if_pos (by omega), if_pos (by omega), if_pos (by omega), hw, rd_at l i (by omega), put_all acc _ nb k hnb (by omega) (by omega), Option.bind_some,
      show wrap64 ((i : Int) + 1) = ((i + 1 : Nat) : Int) by unfold wrap64; omega, pm_go l a b w d nb hnb hw hl n (i + 1) k _ (by omega) (by omega) (by rw [List.length_append, leB_length]; omega),
      List.drop_eq_getElem_cons (show i < l.length by omega)]
    unfold bitsB
    rw [List.flatMap_cons, List.append_assoc]
theorem pm_all (m : S56) (hf : fitsV m = true) (acc : List Int) (k : Nat) (hk : 5000 < k) (hc : acc.length ≤ 1000000000) :
    state_putMatrix.f k acc m.f0 m.f1 m.f2 m.f3 = some (acc ++ matB m) := by
  obtain ⟨hw, hl⟩ := fits_size hf
  obtain ⟨nb, h8, htd, _⟩ := size_arith (u := 0) hf (by decide) (by decide)
  have hnb : nb ≤ 8 := by omega
  have hn8 : (m.f2 / 8).toNat = nb := by omega
  unfold state_putMatrix.f matB
  rw [hn8]
  have e4 := pm_go m.f3 m.f0 m.f1 m.f2 m.f3 nb hnb htd (by omega) m.f3.length 0 k (acc ++ leB m.f2 1 ++ leB m.f0 2 ++ leB m.f1 2) (by omega) (by omega) (by simp only [List.length_append, leB_length]; omega)
  rw [show (1 : Int) = ((1 : Nat) : Int) from rfl, put_all acc m.f2 1 k (by decide) (by omega) (by omega), Option.bind_some, show (2 : Int) = ((2 : Nat) : Int) from rfl, put_all (acc ++ leB m.f2 1) m.f0 2 k (by decide) (by omega) (by rw [List.length_append, leB_length]; omega), Option.bind_some, put_all (acc ++ leB m.f2 1 ++ leB m.f0 2) m.f1 2 k (by decide) (by omega) (by rw [List.length_append, List.length_append, leB_length, leB_length]; omega), Option.bind_some]
  rw [show (0 : Int) = ((0 : Nat) : Int) from rfl, e4, List.drop_zero]
  simp only [List.append_assoc]
end Go.Proofs.Ytmiljlbbacbbpaa

/- state.Write, plainly: what it answers where Check finds nothing. -/
namespace Go.Proofs.Ytmiljlbbacbbpaa
open Go.RowKit PBase
open Go.Proofs.YtmiljlbbacbbpaaW.PrintWords Go.Proofs.YtmiljlbbacbbpaaW.PrintLast Go.Proofs.YtmiljlbbacbbpaaW.PrintMore
set_option linter.unusedVariables false
set_option linter.unusedSimpArgs false

def matsB (l : List S56) : List Int := l.flatMap matB
def slotB (s : List S56) : List Int := leB (s.length : Int) 1 ++ matsB s
def slotsB (l : List (List S56)) : List Int := l.flatMap slotB
theorem matB_le {m : S56} (h : fitsV m = true) : (matB m).length ≤ 32773 := by
  obtain ⟨hw, hl⟩ := fits_size h
  unfold matB
  simp only [List.length_append, leB_length, bitsB_length]
  have : (m.f2 / 8).toNat ≤ 8 := by omega
  have := Nat.mul_le_mul hl this
  omega
theorem rd56 (s : List S56) (j : Nat) (h : j < s.length) : rd_T56 s (j : Int) = s[j] := by simp [rd_T56, List.getD_eq_getElem?_getD, h]
theorem rdL4 (s : List (List S56)) (j : Nat) (h : j < s.length) : rd_L4 s (j : Int) = s[j] := by simp [rd_L4, List.getD_eq_getElem?_getD, h]
/-- the last list's matrices, then what comes behind them -/
theorem w3_go (x62 : List (List S56)) (x63 x64 : Int) (s : List S56) (hf : ∀ m ∈ s, fitsV m = true) (hs : s.length ≤ 64) : ∀ (n j k : Nat) (acc : List Int), j + n = s.length → n + 5001 < k → acc.length + n * 32773 ≤ 1000000000 →
    state_Write.l3 k acc x62 x63 x64 s (s.length : Int) (j : Int) = state_Write.l2 (k - n - 1) (acc ++ matsB (s.drop j)) x62 x63 (wrap64 (x64 + 1))
  | 0, j, k + 1, acc, h, hk, hc => by
    unfold state_Write.l3
    rw [if_neg (by omega), List.drop_eq_nil_of_le (by omega)]
    simp [matsB]
  | n + 1, j, k + 1, acc, h, hk, hc => by
    have hm : fitsV s[j] = true := hf _ (List.getElem_mem (by omega))
    unfold state_Write.l3
    rw [if_pos (by omega), if_pos (by omega), if_pos (by omega), rd56 s j (by omega), pm_all s[j] hm acc k (by omega) (by omega), Option.bind_some,
      show wrap64 ((j : Int) + 1) = ((j + 1 : Nat) : Int) by unfold wrap64; omega, w3_go x62 x63 x64 s hf hs n (j + 1) k _ (by omega) (by omega) (by have := matB_le hm; rw [List.length_append]; omega),
      List.drop_eq_getElem_cons (show j < s.length by omega), show k + 1 - (n + 1) - 1 = k - n - 1 by omega]
    unfold matsB
    rw [List.flatMap_cons, List.append_assoc]
theorem sum_at (l : List Int) (hl : l.length ≤ 100000000) : ∀ d : Nat, state_Sum.f (l.length + 1 + d) l = some (sumV l)
  | 0 => sum_some l hl
  | d + 1 => state_Sum.mono l (l.length + 1 + d) _ (sum_at l hl d)
theorem sum_k (l : List Int) (hl : l.length ≤ 100000000) (k : Nat) (h : l.length < k) : state_Sum.f k l = some (sumV l) := by
  have := sum_at l hl (k - (l.length + 1))
  rwa [show l.length + 1 + (k - (l.length + 1)) = k by omega] at this
theorem matsB_le : ∀ (s : List S56), (∀ m ∈ s, fitsV m = true) → (matsB s).length ≤ s.length * 32773
  | [], _ => by simp [matsB]
  | m :: s, h => by
    have h1 := matsB_le s (fun x hx => h x (List.mem_cons_of_mem _ hx))
    have h2 := matB_le (h m List.mem_cons_self)
    unfold matsB at h1 ⊢
    rw [List.flatMap_cons, List.length_append, List.length_cons]
    omega
/-- the slots, then the sum -/
theorem w2_go (ss : List (List S56)) (hf : ∀ s ∈ ss, s.length ≤ 4 ∧ ∀ m ∈ s, fitsV m = true) (hs : ss.length ≤ 64) : ∀ (n i k : Nat) (acc : List Int), i + n = ss.length → 100000000 + n * 10 < k → acc.length + n * 132000 ≤ 90000000 →
    state_Write.l2 k acc ss (ss.length : Int) (i : Int) = some ((acc ++ slotsB (ss.drop i)) ++ leB (sumV (acc ++ slotsB (ss.drop i))) 4, 0)
  | 0, i, k + 1, acc, h, hk, hc => by
    unfold state_Write.l2
    rw [if_neg (by omega), List.drop_eq_nil_of_le (by omega)]
    simp only [slotsB, List.flatMap_nil, List.append_nil]
    rw [sum_k acc (by omega) k (by omega), Option.bind_some, show (4 : Int) = ((4 : Nat) : Int) from rfl, put_all acc _ 4 k (by decide) (by omega) (by omega)]
    rfl
  | n + 1, i, k + 1, acc, h, hk, hc => by
    obtain ⟨h4, hm⟩ := hf ss[i] (List.getElem_mem (by omega))
    have h5 := matsB_le ss[i] hm
    unfold state_Write.l2
    rw [if_pos (by omega), if_pos (by omega), if_pos (by omega), rdL4 ss i (by omega), show (1 : Int) = ((1 : Nat) : Int) from rfl, put_all acc _ 1 k (by decide) (by omega) (by omega), Option.bind_some,
      show (0 : Int) = ((0 : Nat) : Int) from rfl, w3_go ss (ss.length : Int) (i : Int) ss[i] hm (by omega) ss[i].length 0 k _ (by omega) (by omega) (by rw [List.length_append, leB_length]; omega), List.drop_zero,
      show wrap64 ((i : Int) + 1) = ((i + 1 : Nat) : Int) by unfold wrap64; omega,
      w2_go ss hf hs n (i + 1) (k - ss[i].length - 1) _ (by omega) (by omega) (by rw [List.length_append, List.length_append, leB_length]; omega),
      List.drop_eq_getElem_cons (show i < ss.length by omega)]
    unfold slotsB
    rw [List.flatMap_cons]
    simp only [slotB, List.append_assoc]
    rfl
end Go.Proofs.Ytmiljlbbacbbpaa

/- state.Write, plainly: the whole. -/
namespace Go.Proofs.Ytmiljlbbacbbpaa
open Go.RowKit PBase
open Go.Proofs.YtmiljlbbacbbpaaW.PrintWords Go.Proofs.YtmiljlbbacbbpaaW.PrintLast Go.Proofs.YtmiljlbbacbbpaaW.PrintMore
set_option linter.unusedVariables false
set_option linter.unusedSimpArgs false

def numsB (l : List Int) : List Int := l.flatMap fun x => leB x 8
/-- what stands ahead of the sum -/
def bodyB (s0 s1 s2 : Int) (ps : List S56) (ss : List (List S56)) (lo ra : Int) : List Int :=
  [112, 115, 116, 1] ++ numsB [s0, s1, s2, lo, ra] ++ leB (ps.length : Int) 2 ++ matsB ps ++ leB (ss.length : Int) 2 ++ slotsB ss
def writeP (s0 s1 s2 : Int) (ps : List S56) (ss : List (List S56)) (lo ra : Int) : List Int :=
  bodyB s0 s1 s2 ps ss lo ra ++ leB (sumV (bodyB s0 s1 s2 ps ss lo ra)) 4
theorem w1_go (a b c : Int) (ps : List S56) (ss : List (List S56)) (lo ra : Int) (hf : ∀ s ∈ ss, s.length ≤ 4 ∧ ∀ m ∈ s, fitsV m = true) (hs : ss.length ≤ 64) (hp : ∀ m ∈ ps, fitsV m = true) (hps : ps.length ≤ 64) : ∀ (n j k : Nat) (acc : List Int), j + n = ps.length → 100000700 + n < k → acc.length + n * 32773 ≤ 80000000 →
    state_Write.l1 k acc ps (ps.length : Int) (j : Int) a b c ps ss lo ra = some ((acc ++ matsB (ps.drop j) ++ leB (ss.length : Int) 2 ++ slotsB ss) ++ leB (sumV (acc ++ matsB (ps.drop j) ++ leB (ss.length : Int) 2 ++ slotsB ss)) 4, 0)
  | 0, j, k + 1, acc, h, hk, hc => by
    unfold state_Write.l1
    rw [if_neg (by omega), List.drop_eq_nil_of_le (by omega), show (2 : Int) = ((2 : Nat) : Int) from rfl, put_all acc _ 2 k (by decide) (by omega) (by omega), Option.bind_some,
      show (0 : Int) = ((0 : Nat) : Int) from rfl, w2_go ss hf hs ss.length 0 k _ (by omega) (by omega) (by rw [List.length_append, leB_length]; omega), List.drop_zero]
    simp only [matsB, List.flatMap_nil, List.append_nil]
    rfl
  | n + 1, j, k + 1, acc, h, hk, hc => by
    have hm : fitsV ps[j] = true := hp _ (List.getElem_mem (by omega))
    unfold state_Write.l1
    rw [if_pos (by omega), if_pos (by omega), if_pos (by omega), rd56 ps j (by omega), pm_all ps[j] hm acc k (by omega) (by omega), Option.bind_some,
      show wrap64 ((j : Int) + 1) = ((j + 1 : Nat) : Int) by unfold wrap64; omega, w1_go a b c ps ss lo ra hf hs hp hps n (j + 1) k _ (by omega) (by omega) (by have := matB_le hm; rw [List.length_append]; omega),
      List.drop_eq_getElem_cons (show j < ps.length by omega)]
    unfold matsB
    rw [List.flatMap_cons]
    simp only [List.append_assoc]
theorem rdI (l : List Int) (j : Nat) (h : j < l.length) : rd l (j : Int) = l[j] := rd_at l j h
theorem w0_go (a b c : Int) (xs : List Int) (hx : xs.length ≤ 5) (ps : List S56) (ss : List (List S56)) (lo ra : Int) (hf : ∀ s ∈ ss, s.length ≤ 4 ∧ ∀ m ∈ s, fitsV m = true) (hs : ss.length ≤ 64) (hp : ∀ m ∈ ps, fitsV m = true) (hps : ps.length ≤ 64) : ∀ (n j k : Nat) (acc : List Int), j + n = xs.length → 100001000 + n < k → acc.length + n * 8 ≤ 1000 →
    state_Write.l0 k acc xs (xs.length : Int) (j : Int) a b c ps ss lo ra = some ((acc ++ numsB (xs.drop j) ++ leB (ps.length : Int) 2 ++ matsB ps ++ leB (ss.length : Int) 2 ++ slotsB ss) ++ leB (sumV (acc ++ numsB (xs.drop j) ++ leB (ps.length : Int) 2 ++ matsB ps ++ leB (ss.length : Int) 2 ++ slotsB ss)) 4, 0)
  | 0, j, k + 1, acc, h, hk, hc => by
    unfold state_Write.l0
    rw [if_neg (by omega), List.drop_eq_nil_of_le (by omega), show (2 : Int) = ((2 : Nat) : Int) from rfl, put_all acc _ 2 k (by decide) (by omega) (by omega), Option.bind_some,
      show (0 : Int) = ((0 : Nat) : Int) from rfl, w1_go a b c ps ss lo ra hf hs hp hps ps.length 0 k _ (by omega) (by omega) (by rw [List.length_append, leB_length]; omega), List.drop_zero]
    simp only [numsB, List.flatMap_nil, List.append_nil]
    rfl
  | n + 1, j, k + 1, acc, h, hk, hc => by
    unfold state_Write.l0
    rw [if_pos (by omega), if_pos (by omega), if_pos (by omega), rdI xs j (by omega), show (8 : Int) = ((8 : Nat) : Int) from rfl, put_all acc _ 8 k (by decide) (by omega) (by omega), Option.bind_some,
      show wrap64 ((j : Int) + 1) = ((j + 1 : Nat) : Int) by unfold wrap64; omega, w0_go a b c xs hx ps ss lo ra hf hs hp hps n (j + 1) k _ (by omega) (by omega) (by rw [List.length_append, leB_length]; omega),
      List.drop_eq_getElem_cons (show j < xs.length by omega)]
    unfold numsB
    rw [List.flatMap_cons]
    simp only [List.append_assoc]
end Go.Proofs.Ytmiljlbbacbbpaa

/- state.Write's answer, whole. -/
namespace Go.Proofs.Ytmiljlbbacbbpaa
open Go.RowKit PBase
open Go.Proofs.YtmiljlbbacbbpaaW.PrintWords Go.Proofs.YtmiljlbbacbbpaaW.PrintLast Go.Proofs.YtmiljlbbacbbpaaW.PrintMore
set_option linter.unusedVariables false
set_option linter.unusedSimpArgs false

theorem matsC_some : ∀ (s : List S56) (t u : Int), matsC s t = some u → ∀ m ∈ s, fitsV m = true
  | [], t, u, h => by simp
  | m :: s, t, u, h => by
    unfold matsC at h
    split at h
    · rename_i hm
      intro x hx
      rcases List.mem_cons.1 hx with rfl | hx
      · exact hm
      · exact matsC_some s _ u h x hx
    · cases h
theorem listsC_some : ∀ (L : List (List S56)) (i : Nat) (t u : Int), listsC i L t = some u → ∀ s ∈ L, ∀ m ∈ s, fitsV m = true
  | [], i, t, u, h => by simp
  | s :: L, i, t, u, h => by
    unfold listsC at h
    split at h
    · cases h
    · obtain ⟨v, hv, hr⟩ := Option.bind_eq_some_iff.1 h
      intro x hx
      rcases List.mem_cons.1 hx with rfl | hx
      · exact matsC_some _ _ _ hv
      · exact listsC_some L (i + 1) v u hr x hx
theorem listsC_four : ∀ (L : List (List S56)) (i : Nat) (t u : Int), 0 < i → listsC i L t = some u → ∀ s ∈ L, s.length ≤ 4
  | [], i, t, u, hi, h => by simp
  | s :: L, i, t, u, hi, h => by
    unfold listsC at h
    split at h
    · cases h
    · rename_i h4
      obtain ⟨v, hv, hr⟩ := Option.bind_eq_some_iff.1 h
      intro x hx
      rcases List.mem_cons.1 hx with rfl | hx
      · omega
      · exact listsC_four L (i + 1) v u (by omega) hr x hx
structure Whole (s0 s1 s2 : Int) (ps : List S56) (ss : List (List S56)) : Prop where
  p0 : place s0
  p1 : place s1
  p2 : place s2
  lp : ps.length ≤ 64
  ls : ss.length ≤ 64
  fp : ∀ m ∈ ps, fitsV m = true
  fs : ∀ s ∈ ss, s.length ≤ 4 ∧ ∀ m ∈ s, fitsV m = true
  sz : ∃ t, listsC 0 (ps :: ss) 52 = some t ∧ t ≤ 16777216
theorem whole_of {s0 s1 s2 : Int} {ps : List S56} {ss : List (List S56)} (h : checkV s0 s1 s2 ps ss = 0) : Whole s0 s1 s2 ps ss := by
  unfold checkV at h
  split at h
  · cases h
  · rename_i hc
    split at h
    · cases h
    · rename_i hl
      have hc' : checkL [s0, s1, s2] = true := by simpa using hc
      simp only [checkL, List.all_cons, List.all_nil, Bool.and_true, Bool.and_eq_true, decide_eq_true_eq] at hc'
      cases hr : listsC 0 (ps :: ss) 52 with
      | none => rw [hr] at h; cases h
      | some t =>
        rw [hr] at h
        have ht : t ≤ 16777216 := by
          unfold endC at h
          simp only at h
          split at h
          · cases h
          · omega
        have hall := listsC_some _ _ _ _ hr
        have hr2 := hr
        unfold listsC at hr2
        rw [if_neg (by omega)] at hr2
        obtain ⟨v, hv, hr3⟩ := Option.bind_eq_some_iff.1 hr2
        have h4 := listsC_four ss (0 + 1) v t (by decide) hr3
        exact ⟨hc'.1, hc'.2.1, hc'.2.2, by omega, by omega, hall ps List.mem_cons_self, fun s hs => ⟨h4 s hs, hall s (List.mem_cons_of_mem _ hs)⟩, t, hr, ht⟩
theorem write_all (s0 s1 s2 : Int) (ps : List S56) (ss : List (List S56)) (lo ra : Int) :
    state_Write.f 200000000 s0 s1 s2 ps ss lo ra = some (if checkV s0 s1 s2 ps ss = 0 then (writeP s0 s1 s2 ps ss lo ra, 0) else ([], checkV s0 s1 s2 ps ss)) := by
  unfold state_Write.f state_Check.f
  rw [Option.bind_some]
  by_cases h : checkV s0 s1 s2 ps ss = 0
  · rw [if_pos h, if_pos h]
    have w := whole_of h
    have := w0_go s0 s1 s2 [s0, s1, s2, lo, ra] (Nat.le_refl 5) ps ss lo ra w.fs w.ls w.fp w.lp 5 0 200000000 [112, 115, 116, 1] rfl (by decide) (by decide)
    unfold state_head.f
    rw [Option.bind_some, Option.bind_some]
    exact this
  · rw [if_neg h, if_neg h]
end Go.Proofs.Ytmiljlbbacbbpaa

/- The round trip, plainly: what is read of what was written. -/
namespace Go.Proofs.Ytmiljlbbacbbpaa
open Go.RowKit PBase
open Go.Proofs.YtmiljlbbacbbpaaW.PrintWords Go.Proofs.YtmiljlbbacbbpaaW.PrintLast Go.Proofs.YtmiljlbbacbbpaaW.PrintMore
set_option linter.unusedVariables false
set_option linter.unusedSimpArgs false

theorem getD_mid (pre mid post : List Int) (i : Nat) (h : i < mid.length) : (pre ++ mid ++ post).getD (pre.length + i) 0 = mid.getD i 0 := by
  simp only [List.getD_eq_getElem?_getD]
  rw [List.append_assoc, List.getElem?_append_right (by omega), Nat.add_sub_cancel_left, List.getElem?_append_left h]
theorem leB_get (x : Int) (m i : Nat) (h : i < m) : (leB x m).getD i 0 = byteI x i := by
  simp [leB, List.getD_eq_getElem?_getD, h]
theorem wrap_nonneg (x : Int) : 0 ≤ IntKind.u64.wrap x := by
  have : IntKind.u64.wrap x = x % 18446744073709551616 := by simp [IntKind.wrap, IntKind.bits, IntKind.signed]
  omega
theorem numU_mid (pre post : List Int) (x : Int) (m : Nat) : ∀ n, n ≤ m → ((numU (pre ++ leB x m ++ post) pre.length n : Nat) : Int) = IntKind.u64.wrap x % 256 ^ n
  | 0, _ => by simp [numU]
  | n + 1, h => by
    unfold numU
    rw [getD_mid pre (leB x m) post n (by rw [leB_length]; omega), leB_get x m n (by omega)]
    have ih := numU_mid pre post x m n (by omega)
    have hb : 0 ≤ byteI x n := by unfold byteI; omega
    rw [Int.natCast_add, ih, Int.natCast_mul, Int.toNat_of_nonneg hb, Int.natCast_pow]
    unfold byteI
    have hp : (2 : Int) ^ (8 * n) = 256 ^ n := by rw [Int.pow_mul]; rfl
    rw [hp, Int.pow_succ]
    show IntKind.u64.wrap x % 256 ^ n + IntKind.u64.wrap x / 256 ^ n % 256 * 256 ^ n = _
    obtain ⟨N, hN⟩ : ∃ N : Nat, IntKind.u64.wrap x = (N : Int) := ⟨(IntKind.u64.wrap x).toNat, by rw [Int.toNat_of_nonneg (wrap_nonneg x)]⟩
    rw [hN]
    have key := Nat.mod_mul (x := N) (a := 256 ^ n) (b := 256)
    rw [Nat.mul_comm (256 ^ n) (N / 256 ^ n % 256)] at key
    have key2 : ((N % (256 ^ n * 256) : Nat) : Int) = ((N % 256 ^ n + N / 256 ^ n % 256 * 256 ^ n : Nat) : Int) := congrArg _ key
    simp only [Int.natCast_emod, Int.natCast_mul, Int.natCast_add, Int.natCast_ediv, Int.natCast_pow] at key2
    exact key2.symm
theorem number_mid (pre post : List Int) (x : Int) (m : Nat) : numberP (pre ++ leB x m ++ post) m pre.length = .ok (wrap64 (IntKind.u64.wrap x % 256 ^ m)) (pre.length + m) := by
  unfold numberP
  rw [if_neg (by simp only [List.length_append, leB_length]; omega), numU_mid pre post x m m (Nat.le_refl m)]
theorem u64_wrap (x : Int) : IntKind.u64.wrap x = x % 18446744073709551616 := by simp [IntKind.wrap, IntKind.bits, IntKind.signed]
theorem number_8 (pre post : List Int) (x : Int) (h : -9223372036854775808 ≤ x ∧ x < 9223372036854775808) : numberP (pre ++ leB x 8 ++ post) 8 pre.length = .ok x (pre.length + 8) := by
  rw [number_mid, u64_wrap]
  have : wrap64 (x % 18446744073709551616 % 256 ^ 8) = x := by
    rw [show (256 : Int) ^ 8 = 18446744073709551616 from rfl]
    unfold wrap64
    omega
  rw [this]
theorem number_small (pre post : List Int) (x : Int) (m : Nat) (hm : m ≤ 7) (h : 0 ≤ x ∧ x < 256 ^ m) : numberP (pre ++ leB x m ++ post) m pre.length = .ok x (pre.length + m) := by
  have h2 : (256 : Int) ^ m ≤ 256 ^ 7 := by
    have := Nat.pow_le_pow_right (show 256 > 0 by decide) hm
    have h3 : ((256 ^ m : Nat) : Int) ≤ ((256 ^ 7 : Nat) : Int) := by exact_mod_cast this
    simpa using h3
  have h7 : (256 : Int) ^ 7 = 72057594037927936 := rfl
  rw [number_mid, u64_wrap, Int.emod_eq_of_lt (show 0 ≤ x from h.1) (by omega), Int.emod_eq_of_lt h.1 h.2]
  have : wrap64 x = x := by unfold wrap64; omega
  rw [this]
end Go.Proofs.Ytmiljlbbacbbpaa

/- The round trip: matrices, slots. -/
namespace Go.Proofs.Ytmiljlbbacbbpaa
open Go.RowKit PBase
open Go.Proofs.YtmiljlbbacbbpaaW.PrintWords Go.Proofs.YtmiljlbbacbbpaaW.PrintLast Go.Proofs.YtmiljlbbacbbpaaW.PrintMore
set_option linter.unusedVariables false
set_option linter.unusedSimpArgs false

theorem within_small (pre post : List Int) (x lo hi : Int) (m : Nat) (hm : m ≤ 7) (h : 0 ≤ x ∧ x < 256 ^ m) (hl : lo ≤ x) (hh : x ≤ hi) : withinP (pre ++ leB x m ++ post) m lo hi pre.length = .ok x (pre.length + m) := by
  unfold withinP
  rw [number_small pre post x m hm h]
  simp only
  rw [if_neg (by omega)]
theorem within_8 (pre post : List Int) (x lo hi : Int) (h : -9223372036854775808 ≤ x ∧ x < 9223372036854775808) (hl : lo ≤ x) (hh : x ≤ hi) : withinP (pre ++ leB x 8 ++ post) 8 lo hi pre.length = .ok x (pre.length + 8) := by
  unfold withinP
  rw [number_8 pre post x h]
  simp only
  rw [if_neg (by omega)]
/-- a pattern that a matrix of this width may hold as bytes -/
def patOk (w x : Int) : Prop := (w = 32 → 0 ≤ x ∧ x < 4294967296) ∧ (w = 64 → -9223372036854775808 ≤ x ∧ x < 9223372036854775808)
theorem bits_read (w : Int) (nb : Nat) (hw : (w = 32 ∧ nb = 4) ∨ (w = 64 ∧ nb = 8)) : ∀ (l : List Int) (pre post acc : List Int), (∀ x ∈ l, finV x w = true ∧ patOk w x) →
    bitsP (pre ++ bitsB nb l ++ post) w l.length pre.length acc = .ok (acc ++ l) (pre.length + (bitsB nb l).length)
  | [], pre, post, acc, h => by simp [bitsP, bitsB]
  | x :: l, pre, post, acc, h => by
    obtain ⟨hf, hp⟩ := h x List.mem_cons_self
    have hn : (w / 8).toNat = nb := by omega
    have e : pre ++ bitsB nb (x :: l) ++ post = pre ++ leB x nb ++ (bitsB nb l ++ post) := by unfold bitsB; rw [List.flatMap_cons]; simp only [List.append_assoc]
    have hnum : numberP (pre ++ leB x nb ++ (bitsB nb l ++ post)) nb pre.length = .ok x (pre.length + nb) := by
      rcases hw with ⟨h1, rfl⟩ | ⟨h1, rfl⟩
      · exact number_small _ _ _ 4 (by decide) (by have := hp.1 h1; exact ⟨this.1, by rw [show (256 : Int) ^ 4 = 4294967296 from rfl]; exact this.2⟩)
      · exact number_8 _ _ _ (hp.2 h1)
    rw [List.length_cons]
    unfold bitsP
    rw [hn, e, hnum]
    simp only
    rw [if_pos hf]
    have ih := bits_read w nb hw l (pre ++ leB x nb) post (acc ++ [x]) (fun y hy => h y (List.mem_cons_of_mem _ hy))
    rw [List.length_append, leB_length] at ih
    rw [show pre ++ leB x nb ++ (bitsB nb l ++ post) = pre ++ leB x nb ++ bitsB nb l ++ post by simp only [List.append_assoc], ih]
    have e2 : (bitsB nb (x :: l)).length = nb + (bitsB nb l).length := by unfold bitsB; rw [List.flatMap_cons, List.length_append, leB_length]
    rw [e2, List.append_assoc, List.singleton_append, Nat.add_assoc]
end Go.Proofs.Ytmiljlbbacbbpaa

/- The round trip: a matrix, the matrices, the slots. -/
namespace Go.Proofs.Ytmiljlbbacbbpaa
open Go.RowKit PBase
open Go.Proofs.YtmiljlbbacbbpaaW.PrintWords Go.Proofs.YtmiljlbbacbbpaaW.PrintLast Go.Proofs.YtmiljlbbacbbpaaW.PrintMore
set_option linter.unusedVariables false
set_option linter.unusedSimpArgs false

/-- a matrix of machine words that fits -/
def Good (m : S56) : Prop := fitsV m = true ∧ ∀ x ∈ m.f3, -9223372036854775808 ≤ x ∧ x < 9223372036854775808
theorem Good.parts {m : S56} (h : Good m) : (m.f2 = 32 ∨ m.f2 = 64) ∧ 1 ≤ m.f0 ∧ 1 ≤ m.f1 ∧ m.f0 ≤ 4096 ∧ m.f1 ≤ 4096 / m.f0 ∧ (m.f3.length : Int) = m.f0 * m.f1 ∧ ∀ x ∈ m.f3, finV x m.f2 = true ∧ patOk m.f2 x := by
  obtain ⟨h, hx⟩ := h
  unfold fitsV at h
  simp only [Bool.and_eq_true, decide_eq_true_eq, List.all_eq_true] at h
  obtain ⟨⟨⟨⟨⟨⟨h1, h2⟩, h3⟩, h4⟩, h5⟩, h6⟩, h7⟩ := h
  refine ⟨h1, h2, h3, h4, h5, h6, fun x hm => ⟨h7 x hm, fun hw => ?_, fun _ => hx x hm⟩⟩
  have := h7 x hm
  rw [hw] at this
  unfold finV at this
  rw [if_neg (by decide), if_pos rfl] at this
  have := of_decide_eq_true this
  exact ⟨this.1, this.2.1⟩
theorem matrix_read (m : S56) (h : Good m) (pre post : List Int) : matrixP (pre ++ matB m ++ post) pre.length = .ok m (pre.length + (matB m).length) := by
  obtain ⟨h1, h2, h3, h4, h5, h6, h7⟩ := h.parts
  have hc : m.f1 ≤ 4096 := Int.le_trans h5 (Int.ediv_le_self _ (by decide))
  have e0 : pre ++ matB m ++ post = pre ++ leB m.f2 1 ++ (leB m.f0 2 ++ leB m.f1 2 ++ bitsB (m.f2 / 8).toNat m.f3 ++ post) := by unfold matB; simp only [List.append_assoc]
  have e1 : pre ++ matB m ++ post = (pre ++ leB m.f2 1) ++ leB m.f0 2 ++ (leB m.f1 2 ++ bitsB (m.f2 / 8).toNat m.f3 ++ post) := by unfold matB; simp only [List.append_assoc]
  have e2 : pre ++ matB m ++ post = (pre ++ leB m.f2 1 ++ leB m.f0 2) ++ leB m.f1 2 ++ (bitsB (m.f2 / 8).toNat m.f3 ++ post) := by unfold matB; simp only [List.append_assoc]
  have e3 : pre ++ matB m ++ post = (pre ++ leB m.f2 1 ++ leB m.f0 2 ++ leB m.f1 2) ++ bitsB (m.f2 / 8).toNat m.f3 ++ post := by unfold matB; simp only [List.append_assoc]
  have l1 : (pre ++ leB m.f2 1).length = pre.length + 1 := by rw [List.length_append, leB_length]
  have l2 : (pre ++ leB m.f2 1 ++ leB m.f0 2).length = pre.length + 1 + 2 := by rw [List.length_append, l1, leB_length]
  have l3 : (pre ++ leB m.f2 1 ++ leB m.f0 2 ++ leB m.f1 2).length = pre.length + 1 + 2 + 2 := by rw [List.length_append, l2, leB_length]
  have n0 := number_small pre (leB m.f0 2 ++ leB m.f1 2 ++ bitsB (m.f2 / 8).toNat m.f3 ++ post) m.f2 1 (by decide) (by rw [show (256 : Int) ^ 1 = 256 from rfl]; omega)
  have n1 := within_small (pre ++ leB m.f2 1) (leB m.f1 2 ++ bitsB (m.f2 / 8).toNat m.f3 ++ post) m.f0 1 65535 2 (by decide) (by rw [show (256 : Int) ^ 2 = 65536 from rfl]; omega) h2 (by omega)
  have n2 := within_small (pre ++ leB m.f2 1 ++ leB m.f0 2) (bitsB (m.f2 / 8).toNat m.f3 ++ post) m.f1 1 (4096 / m.f0) 2 (by decide) (by rw [show (256 : Int) ^ 2 = 65536 from rfl]; omega) h3 h5
  have n3 := bits_read m.f2 (m.f2 / 8).toNat (by omega) m.f3 (pre ++ leB m.f2 1 ++ leB m.f0 2 ++ leB m.f1 2) post [] h7
  rw [← e0] at n0
  rw [← e1, l1] at n1
  rw [← e2, l2] at n2
  rw [← e3, l3, List.nil_append] at n3
  have hlen : (m.f0 * m.f1).toNat = m.f3.length := by omega
  unfold matrixP
  rw [n0]
  simp only
  unfold matrix1
  rw [if_neg (by omega), n1]
  simp only
  unfold matrix2
  rw [n2]
  simp only
  unfold matrix3
  rw [hlen, n3]
  simp only
  have : (matB m).length = 1 + 2 + 2 + (bitsB (m.f2 / 8).toNat m.f3).length := by unfold matB; simp only [List.length_append, leB_length]
  rw [this]
  congr 1
  omega
theorem mats_read : ∀ (s : List S56) (hs : ∀ m ∈ s, Good m) (pre post : List Int) (acc : List S56), matsP (pre ++ matsB s ++ post) s.length pre.length acc = .ok (acc ++ s) (pre.length + (matsB s).length)
  | [], hs, pre, post, acc => by simp [matsP, matsB]
  | m :: s, hs, pre, post, acc => by
    have e : pre ++ matsB (m :: s) ++ post = pre ++ matB m ++ (matsB s ++ post) := by unfold matsB; rw [List.flatMap_cons]; simp only [List.append_assoc]
    have ih := mats_read s (fun x hx => hs x (List.mem_cons_of_mem _ hx)) (pre ++ matB m) post (acc ++ [m])
    rw [List.length_cons]
    unfold matsP
    rw [e, matrix_read m (hs m List.mem_cons_self) pre _, PR.bind_ok]
    rw [List.length_append] at ih
    rw [show pre ++ matB m ++ (matsB s ++ post) = pre ++ matB m ++ matsB s ++ post by simp only [List.append_assoc], ih]
    have e2 : (matsB (m :: s)).length = (matB m).length + (matsB s).length := by unfold matsB; rw [List.flatMap_cons, List.length_append]
    rw [e2, List.append_assoc, List.singleton_append, Nat.add_assoc]
theorem slots_read : ∀ (ss : List (List S56)) (hs : ∀ s ∈ ss, s.length ≤ 4 ∧ ∀ m ∈ s, Good m) (pre post : List Int) (acc : List (List S56)), slotsP (pre ++ slotsB ss ++ post) ss.length pre.length acc = .ok (acc ++ ss) (pre.length + (slotsB ss).length)
  | [], hs, pre, post, acc => by simp [slotsP, slotsB]
  | s :: ss, hs, pre, post, acc => by
    obtain ⟨h4, hg⟩ := hs s List.mem_cons_self
    have e : pre ++ slotsB (s :: ss) ++ post = pre ++ leB (s.length : Int) 1 ++ (matsB s ++ (slotsB ss ++ post)) := by unfold slotsB; rw [List.flatMap_cons]; simp only [slotB, List.append_assoc]
    have ih := slots_read ss (fun x hx => hs x (List.mem_cons_of_mem _ hx)) (pre ++ leB (s.length : Int) 1 ++ matsB s) post (acc ++ [s])
    have n1 := within_small pre (matsB s ++ (slotsB ss ++ post)) (s.length : Int) 0 4 1 (by decide) (by rw [show (256 : Int) ^ 1 = 256 from rfl]; omega) (by omega) (by omega)
    have n2 := mats_read s hg (pre ++ leB (s.length : Int) 1) (slotsB ss ++ post) []
    rw [List.length_append, leB_length, List.nil_append] at n2
    rw [List.length_cons]
    unfold slotsP
    rw [e, n1, PR.bind_ok, Int.toNat_natCast, show pre ++ leB (s.length : Int) 1 ++ (matsB s ++ (slotsB ss ++ post)) = pre ++ leB (s.length : Int) 1 ++ matsB s ++ (slotsB ss ++ post) by simp only [List.append_assoc], n2, PR.bind_ok]
    rw [List.length_append, List.length_append, leB_length] at ih
    rw [show pre ++ leB (s.length : Int) 1 ++ matsB s ++ (slotsB ss ++ post) = pre ++ leB (s.length : Int) 1 ++ matsB s ++ slotsB ss ++ post by simp only [List.append_assoc], ih]
    have e2 : (slotsB (s :: ss)).length = 1 + (matsB s).length + (slotsB ss).length := by unfold slotsB; rw [List.flatMap_cons, List.length_append, slotB, List.length_append, leB_length]
    rw [e2, List.append_assoc, List.singleton_append]
    congr 1
    omega
end Go.Proofs.Ytmiljlbbacbbpaa

/- The round trip: the whole. -/
namespace Go.Proofs.Ytmiljlbbacbbpaa
open Go.RowKit PBase
open Go.Proofs.YtmiljlbbacbbpaaW.PrintWords Go.Proofs.YtmiljlbbacbbpaaW.PrintLast Go.Proofs.YtmiljlbbacbbpaaW.PrintMore
set_option linter.unusedVariables false
set_option linter.unusedSimpArgs false

theorem matB_size {m : S56} (h : fitsV m = true) : ((matB m).length : Int) = sizeM m := by
  obtain ⟨nb, h8, _, hs, _⟩ := size_arith (u := 0) h (by decide) (by decide)
  have hn : (m.f2 / 8).toNat = nb := by omega
  unfold matB
  simp only [List.length_append, leB_length, bitsB_length]
  rw [hs, hn, Int.natCast_add, Int.natCast_mul]
  omega
theorem matsC_size : ∀ (s : List S56) (t u : Int), matsC s t = some u → u = t + ((matsB s).length : Int)
  | [], t, u, h => by
    injection h with h
    simp [matsB, h]
  | m :: s, t, u, h => by
    unfold matsC at h
    split at h
    · rename_i hm
      have := matsC_size s _ u h
      have h2 := matB_size hm
      unfold matsB at this ⊢
      rw [List.flatMap_cons, List.length_append, Int.natCast_add]
      omega
    · cases h
theorem listsC_size : ∀ (L : List (List S56)) (i : Nat) (t u : Int), 0 < i → listsC i L t = some u → u = t + ((slotsB L).length : Int)
  | [], i, t, u, hi, h => by
    injection h with h
    simp [slotsB, h]
  | s :: L, i, t, u, hi, h => by
    unfold listsC at h
    split at h
    · cases h
    · obtain ⟨v, hv, hr⟩ := Option.bind_eq_some_iff.1 h
      have h1 := matsC_size s _ v hv
      have h2 := listsC_size L (i + 1) v u (by omega) hr
      unfold slotsB at h2 ⊢
      rw [List.flatMap_cons, List.length_append, slotB, List.length_append, leB_length]
      omega
theorem body_length (s0 s1 s2 : Int) (ps : List S56) (ss : List (List S56)) (lo ra : Int) : (bodyB s0 s1 s2 ps ss lo ra).length = 48 + (matsB ps).length + (slotsB ss).length := by
  unfold bodyB
  simp only [List.length_append, leB_length, numsB, List.flatMap_cons, List.flatMap_nil, List.length_cons, List.length_nil]
  omega
theorem write_length {s0 s1 s2 : Int} {ps : List S56} {ss : List (List S56)} (h : Whole s0 s1 s2 ps ss) (lo ra : Int) : (writeP s0 s1 s2 ps ss lo ra).length ≤ 16777216 := by
  obtain ⟨t, ht, hl⟩ := h.sz
  unfold listsC at ht
  rw [if_neg (by omega)] at ht
  obtain ⟨v, hv, hr⟩ := Option.bind_eq_some_iff.1 ht
  rw [if_neg (by decide)] at hv
  have h1 := matsC_size ps _ v hv
  have h2 := listsC_size ss (0 + 1) v t (by decide) hr
  unfold writeP
  rw [List.length_append, leB_length, body_length]
  omega
theorem bytes_append {a b : List Int} (ha : Bytes a) (hb : Bytes b) : Bytes (a ++ b) := fun x hx => (List.mem_append.1 hx).elim (ha x) (hb x)
theorem bytes_flat {α : Type} (f : α → List Int) (hf : ∀ x, Bytes (f x)) (l : List α) : Bytes (l.flatMap f) := fun x hx => by
  obtain ⟨y, _, hy⟩ := List.mem_flatMap.1 hx
  exact hf y x hy
theorem matB_bytes (m : S56) : Bytes (matB m) := bytes_append (bytes_append (bytes_append (leB_bytes _ _) (leB_bytes _ _)) (leB_bytes _ _)) (bytes_flat _ (fun x => leB_bytes x _) _)
theorem write_bytes (s0 s1 s2 : Int) (ps : List S56) (ss : List (List S56)) (lo ra : Int) : Bytes (writeP s0 s1 s2 ps ss lo ra) := by
  refine bytes_append ?_ (leB_bytes _ _)
  refine bytes_append (bytes_append (bytes_append (bytes_append (bytes_append ?_ (bytes_flat _ (fun x => leB_bytes x _) _)) (leB_bytes _ _)) (bytes_flat _ matB_bytes _)) (leB_bytes _ _)) (bytes_flat _ (fun s => bytes_append (leB_bytes _ _) (bytes_flat _ matB_bytes _)) _)
  intro x hx
  simp at hx
  omega
end Go.Proofs.Ytmiljlbbacbbpaa

/- The round trip: the sum; what was written reads as it was. -/
namespace Go.Proofs.Ytmiljlbbacbbpaa
open Go.RowKit PBase
open Go.Proofs.YtmiljlbbacbbpaaW.PrintWords Go.Proofs.YtmiljlbbacbbpaaW.PrintLast Go.Proofs.YtmiljlbbacbbpaaW.PrintMore
set_option linter.unusedVariables false
set_option linter.unusedSimpArgs false

/-- the sum of bytes, from place i on -/
def sumF : List Int → Nat → Int → Int
  | [], _, x => x
  | y :: l, i, x => sumF l (i + 1) ((x + y * ((i : Int) + 1)) % 4294967296)
theorem sumF_range : ∀ (l : List Int) (i : Nat) (x : Int), 0 ≤ x ∧ x < 4294967296 → 0 ≤ sumF l i x ∧ sumF l i x < 4294967296
  | [], i, x, h => h
  | y :: l, i, x, h => sumF_range l (i + 1) _ (by omega)
theorem sum_step (x y : Int) (i : Nat) (hi : i ≤ 100000000) : (x + y % 4294967296 * (wrap64 ((i : Int) + 1) % 4294967296) % 4294967296) % 4294967296 = (x + y * ((i : Int) + 1)) % 4294967296 := by
  have h1 : wrap64 ((i : Int) + 1) = (i : Int) + 1 := by unfold wrap64; omega
  rw [h1, ← Int.mul_emod, Int.add_emod_emod]
theorem sum_eq (l : List Int) (hl : l.length ≤ 100000000) : ∀ (n i k : Nat) (x : Int), i + n = l.length → n < k → 0 ≤ x ∧ x < 4294967296 → state_Sum.l0 k l x (l.length : Int) (i : Int) = some (sumF (l.drop i) i x)
  | 0, i, k + 1, x, h, hk, hx => by
    unfold state_Sum.l0
    rw [if_neg (by omega), List.drop_eq_nil_of_le (by omega)]
    have : wrap64 x = x := by unfold wrap64; omega
    rw [this]
    rfl
  | n + 1, i, k + 1, x, h, hk, hx => by
    unfold state_Sum.l0
    rw [if_pos (by omega), if_pos (by omega), if_pos (by omega), sum_step x _ i (by omega), show wrap64 ((i : Int) + 1) = ((i + 1 : Nat) : Int) by unfold wrap64; omega]
    rw [sum_eq l hl n (i + 1) k _ (by omega) (by omega) (by omega), List.drop_eq_getElem_cons (show i < l.length by omega), rdI l i (by omega)]
    rfl
theorem sumV_eq (l : List Int) (hl : l.length ≤ 100000000) : sumV l = sumF l 0 0 := by
  have h := sum_eq l hl l.length 0 (l.length + 1) 0 (by omega) (by omega) (by omega)
  have h2 : state_Sum.f (l.length + 1) l = some (sumF (l.drop 0) 0 0) := h
  unfold sumV
  rw [h2]
  rfl
theorem sumV_range (l : List Int) (hl : l.length ≤ 100000000) : 0 ≤ sumV l ∧ sumV l < 4294967296 := by
  rw [sumV_eq l hl]
  exact sumF_range l 0 0 (by omega)

theorem head_read (post : List Int) : headP ([112, 115, 116, 1] ++ post) [112, 115, 116, 1] 0 = .ok () 4 := by
  have e : ∀ x : Int, 0 ≤ x ∧ x < 256 → leB x 1 = [x] := by
    intro x hx
    show [byteI x 0] = [x]
    unfold byteI
    rw [u64_wrap]
    simp
    omega
  have w0 := within_small [] ([115, 116, 1] ++ post) 112 112 112 1 (by decide) (by decide) (by decide) (by decide)
  have w1 := within_small [112] ([116, 1] ++ post) 115 115 115 1 (by decide) (by decide) (by decide) (by decide)
  have w2 := within_small [112, 115] ([1] ++ post) 116 116 116 1 (by decide) (by decide) (by decide) (by decide)
  have w3 := within_small [112, 115, 116] post 1 1 1 1 (by decide) (by decide) (by decide) (by decide)
  rw [e 112 (by decide)] at w0
  rw [e 115 (by decide)] at w1
  rw [e 116 (by decide)] at w2
  rw [e 1 (by decide)] at w3
  simp only [List.nil_append, List.cons_append, List.length_nil, List.length_cons, Nat.zero_add, Nat.reduceAdd] at w0 w1 w2 w3
  simp only [List.nil_append, List.cons_append]
  unfold headP
  rw [w0, PR.bind_ok]
  unfold headP
  rw [w1, PR.bind_ok]
  unfold headP
  rw [w2, PR.bind_ok]
  unfold headP
  rw [w3, PR.bind_ok]
  rfl
/-- machine words throughout -/
structure Words (s0 s1 s2 : Int) (ps : List S56) (ss : List (List S56)) (lo ra : Int) : Prop where
  hp : ∀ m ∈ ps, ∀ x ∈ m.f3, -9223372036854775808 ≤ x ∧ x < 9223372036854775808
  hs : ∀ s ∈ ss, ∀ m ∈ s, ∀ x ∈ m.f3, -9223372036854775808 ≤ x ∧ x < 9223372036854775808
  hl : -9223372036854775808 ≤ lo ∧ lo < 9223372036854775808
  hr : -9223372036854775808 ≤ ra ∧ ra < 9223372036854775808
theorem write_read {s0 s1 s2 : Int} {ps : List S56} {ss : List (List S56)} {lo ra : Int} (h : Whole s0 s1 s2 ps ss) (hw : Words s0 s1 s2 ps ss lo ra) :
    readP (writeP s0 s1 s2 ps ss lo ra) = .ok ⟨s0, s1, s2, ps, ss, lo, ra⟩ (writeP s0 s1 s2 ps ss lo ra).length := by
  have hlen := write_length h lo ra
  have hq0 : s0 ≥ 0 ∧ s0 ≤ 1099511627776 := h.p0
  have hq1 : s1 ≥ 0 ∧ s1 ≤ 1099511627776 := h.p1
  have hq2 : s2 ≥ 0 ∧ s2 ≤ 1099511627776 := h.p2
  have hbl := body_length s0 s1 s2 ps ss lo ra
  have hwl : (writeP s0 s1 s2 ps ss lo ra).length = (bodyB s0 s1 s2 ps ss lo ra).length + 4 := by unfold writeP; rw [List.length_append, leB_length]
  obtain ⟨sm, hsm⟩ : ∃ sm, sm = sumV (bodyB s0 s1 s2 ps ss lo ra) := ⟨_, rfl⟩
  have hsr : 0 ≤ sm ∧ sm < 4294967296 := hsm ▸ sumV_range _ (by omega)
  have hW : writeP s0 s1 s2 ps ss lo ra = bodyB s0 s1 s2 ps ss lo ra ++ leB sm 4 := by rw [hsm]; rfl
  have hb : bodyB s0 s1 s2 ps ss lo ra = [112, 115, 116, 1] ++ leB s0 8 ++ leB s1 8 ++ leB s2 8 ++ leB lo 8 ++ leB ra 8 ++ leB (ps.length : Int) 2 ++ matsB ps ++ leB (ss.length : Int) 2 ++ slotsB ss := by
    unfold bodyB numsB
    simp only [List.flatMap_cons, List.flatMap_nil, List.append_assoc, List.append_nil]
  unfold readP
  rw [if_neg (by omega)]
  obtain ⟨B, hB⟩ : ∃ B, B = writeP s0 s1 s2 ps ss lo ra := ⟨_, rfl⟩
  rw [← hB] at hlen hwl hW ⊢
  have e0 : B = [112, 115, 116, 1] ++ (leB s0 8 ++ leB s1 8 ++ leB s2 8 ++ leB lo 8 ++ leB ra 8 ++ leB (ps.length : Int) 2 ++ matsB ps ++ leB (ss.length : Int) 2 ++ slotsB ss ++ leB sm 4) := by rw [hW, hb]; simp only [List.append_assoc]
  have r0 : headP B [112, 115, 116, 1] 0 = .ok () 4 := by rw [e0]; exact head_read _
  have e1 : B = [112, 115, 116, 1] ++ leB s0 8 ++ (leB s1 8 ++ leB s2 8 ++ leB lo 8 ++ leB ra 8 ++ leB (ps.length : Int) 2 ++ matsB ps ++ leB (ss.length : Int) 2 ++ slotsB ss ++ leB sm 4) := by rw [hW, hb]; simp only [List.append_assoc]
  have r1 := within_8 [112, 115, 116, 1] (leB s1 8 ++ leB s2 8 ++ leB lo 8 ++ leB ra 8 ++ leB (ps.length : Int) 2 ++ matsB ps ++ leB (ss.length : Int) 2 ++ slotsB ss ++ leB sm 4) s0 0 1099511627776 (by omega) hq0.1 hq0.2
  rw [← e1] at r1
  have e2 : B = ([112, 115, 116, 1] ++ leB s0 8) ++ leB s1 8 ++ (leB s2 8 ++ leB lo 8 ++ leB ra 8 ++ leB (ps.length : Int) 2 ++ matsB ps ++ leB (ss.length : Int) 2 ++ slotsB ss ++ leB sm 4) := by rw [hW, hb]; simp only [List.append_assoc]
  have r2 := within_8 ([112, 115, 116, 1] ++ leB s0 8) (leB s2 8 ++ leB lo 8 ++ leB ra 8 ++ leB (ps.length : Int) 2 ++ matsB ps ++ leB (ss.length : Int) 2 ++ slotsB ss ++ leB sm 4) s1 0 1099511627776 (by omega) hq1.1 hq1.2
  rw [← e2] at r2
  have e3 : B = ([112, 115, 116, 1] ++ leB s0 8 ++ leB s1 8) ++ leB s2 8 ++ (leB lo 8 ++ leB ra 8 ++ leB (ps.length : Int) 2 ++ matsB ps ++ leB (ss.length : Int) 2 ++ slotsB ss ++ leB sm 4) := by rw [hW, hb]; simp only [List.append_assoc]
  have r3 := within_8 ([112, 115, 116, 1] ++ leB s0 8 ++ leB s1 8) (leB lo 8 ++ leB ra 8 ++ leB (ps.length : Int) 2 ++ matsB ps ++ leB (ss.length : Int) 2 ++ slotsB ss ++ leB sm 4) s2 0 1099511627776 (by omega) hq2.1 hq2.2
  rw [← e3] at r3
  have e4 : B = ([112, 115, 116, 1] ++ leB s0 8 ++ leB s1 8 ++ leB s2 8) ++ leB lo 8 ++ (leB ra 8 ++ leB (ps.length : Int) 2 ++ matsB ps ++ leB (ss.length : Int) 2 ++ slotsB ss ++ leB sm 4) := by rw [hW, hb]; simp only [List.append_assoc]
  have r4 := number_8 ([112, 115, 116, 1] ++ leB s0 8 ++ leB s1 8 ++ leB s2 8) (leB ra 8 ++ leB (ps.length : Int) 2 ++ matsB ps ++ leB (ss.length : Int) 2 ++ slotsB ss ++ leB sm 4) lo hw.hl
  rw [← e4] at r4
  have e5 : B = ([112, 115, 116, 1] ++ leB s0 8 ++ leB s1 8 ++ leB s2 8 ++ leB lo 8) ++ leB ra 8 ++ (leB (ps.length : Int) 2 ++ matsB ps ++ leB (ss.length : Int) 2 ++ slotsB ss ++ leB sm 4) := by rw [hW, hb]; simp only [List.append_assoc]
  have r5 := number_8 ([112, 115, 116, 1] ++ leB s0 8 ++ leB s1 8 ++ leB s2 8 ++ leB lo 8) (leB (ps.length : Int) 2 ++ matsB ps ++ leB (ss.length : Int) 2 ++ slotsB ss ++ leB sm 4) ra hw.hr
  rw [← e5] at r5
  have e6 : B = ([112, 115, 116, 1] ++ leB s0 8 ++ leB s1 8 ++ leB s2 8 ++ leB lo 8 ++ leB ra 8) ++ leB (ps.length : Int) 2 ++ (matsB ps ++ leB (ss.length : Int) 2 ++ slotsB ss ++ leB sm 4) := by rw [hW, hb]; simp only [List.append_assoc]
  have r6 := within_small ([112, 115, 116, 1] ++ leB s0 8 ++ leB s1 8 ++ leB s2 8 ++ leB lo 8 ++ leB ra 8) (matsB ps ++ leB (ss.length : Int) 2 ++ slotsB ss ++ leB sm 4) (ps.length : Int) 0 64 2 (by decide) (by have := h.lp; rw [show (256 : Int) ^ 2 = 65536 from rfl]; omega) (by omega) (by have := h.lp; omega)
  rw [← e6] at r6
  have e7 : B = ([112, 115, 116, 1] ++ leB s0 8 ++ leB s1 8 ++ leB s2 8 ++ leB lo 8 ++ leB ra 8 ++ leB (ps.length : Int) 2) ++ matsB ps ++ (leB (ss.length : Int) 2 ++ slotsB ss ++ leB sm 4) := by rw [hW, hb]; simp only [List.append_assoc]
  have r7 := mats_read ps (fun m hm => ⟨h.fp m hm, hw.hp m hm⟩) ([112, 115, 116, 1] ++ leB s0 8 ++ leB s1 8 ++ leB s2 8 ++ leB lo 8 ++ leB ra 8 ++ leB (ps.length : Int) 2) (leB (ss.length : Int) 2 ++ slotsB ss ++ leB sm 4) []
  rw [← e7] at r7
  have e8 : B = ([112, 115, 116, 1] ++ leB s0 8 ++ leB s1 8 ++ leB s2 8 ++ leB lo 8 ++ leB ra 8 ++ leB (ps.length : Int) 2 ++ matsB ps) ++ leB (ss.length : Int) 2 ++ (slotsB ss ++ leB sm 4) := by rw [hW, hb]; simp only [List.append_assoc]
  have r8 := within_small ([112, 115, 116, 1] ++ leB s0 8 ++ leB s1 8 ++ leB s2 8 ++ leB lo 8 ++ leB ra 8 ++ leB (ps.length : Int) 2 ++ matsB ps) (slotsB ss ++ leB sm 4) (ss.length : Int) 0 64 2 (by decide) (by have := h.ls; rw [show (256 : Int) ^ 2 = 65536 from rfl]; omega) (by omega) (by have := h.ls; omega)
  rw [← e8] at r8
  have e9 : B = ([112, 115, 116, 1] ++ leB s0 8 ++ leB s1 8 ++ leB s2 8 ++ leB lo 8 ++ leB ra 8 ++ leB (ps.length : Int) 2 ++ matsB ps ++ leB (ss.length : Int) 2) ++ slotsB ss ++ leB sm 4 := by rw [hW, hb]
  have r9 := slots_read ss (fun s hs => ⟨(h.fs s hs).1, fun m hm => ⟨(h.fs s hs).2 m hm, hw.hs s hs m hm⟩⟩) ([112, 115, 116, 1] ++ leB s0 8 ++ leB s1 8 ++ leB s2 8 ++ leB lo 8 ++ leB ra 8 ++ leB (ps.length : Int) 2 ++ matsB ps ++ leB (ss.length : Int) 2) (leB sm 4) []
  rw [← e9] at r9
  have e10 : B = (bodyB s0 s1 s2 ps ss lo ra) ++ leB sm 4 ++ [] := by rw [hW, List.append_nil]
  have r10 := number_small (bodyB s0 s1 s2 ps ss lo ra) [] sm 4 (by decide) (by rw [show (256 : Int) ^ 4 = 4294967296 from rfl]; omega)
  rw [← e10] at r10
  simp only [List.length_append, leB_length, List.length_cons, List.length_nil, List.nil_append, Nat.zero_add, Nat.reduceAdd] at r1 r2 r3 r4 r5 r6 r7 r8 r9
  rw [r0, PR.bind_ok]
  unfold read1
  rw [r1, PR.bind_ok, r2, PR.bind_ok, r3, PR.bind_ok]
  unfold read2
  rw [r4, PR.bind_ok, r5, PR.bind_ok, r6, PR.bind_ok, Int.toNat_natCast, r7, PR.bind_ok]
  unfold read3
  rw [r8, PR.bind_ok, Int.toNat_natCast, r9, PR.bind_ok]
  unfold read4
  have hat : 46 + (matsB ps).length + 2 + (slotsB ss).length = (bodyB s0 s1 s2 ps ss lo ra).length := by omega
  rw [hat, r10, PR.bind_ok]
  have htk : B.take (bodyB s0 s1 s2 ps ss lo ra).length = bodyB s0 s1 s2 ps ss lo ra := by rw [hW, List.take_left']; rfl
  rw [htk, if_neg (by rw [hsm]; simp), if_neg (by omega), hwl]
end Go.Proofs.Ytmiljlbbacbbpaa

/- The other way about: bytes that are read are written again as they were. -/
namespace Go.Proofs.Ytmiljlbbacbbpaa
open Go.RowKit PBase
open Go.Proofs.YtmiljlbbacbbpaaW.PrintWords Go.Proofs.YtmiljlbbacbbpaaW.PrintLast Go.Proofs.YtmiljlbbacbbpaaW.PrintMore
set_option linter.unusedVariables false
set_option linter.unusedSimpArgs false

/-- from place a to place a' stand the bytes L -/
def Rd (b : List Int) (a a' : Nat) (L : List Int) : Prop := b.drop a = L ++ b.drop a' ∧ a' = a + L.length
theorem Rd.nil (b : List Int) (a : Nat) : Rd b a a [] := ⟨rfl, rfl⟩
theorem Rd.app {b : List Int} {a a' a'' : Nat} {L M : List Int} (h : Rd b a a' L) (k : Rd b a' a'' M) : Rd b a a'' (L ++ M) :=
  ⟨by rw [h.1, k.1, List.append_assoc], by rw [k.2, h.2, List.length_append, Nat.add_assoc]⟩
theorem Rd.take {b : List Int} {a : Nat} {L : List Int} (h : Rd b 0 a L) : b.take a = L := by
  have h1 := h.1
  have h2 := h.2
  rw [Nat.zero_add] at h2
  rw [List.drop_zero] at h1
  conv => lhs; rw [h1]
  exact List.take_left' h2.symm
theorem numU_div {b : List Int} (hB : Bytes b) (a : Nat) : ∀ (n i : Nat), i < n → numU b a n / 256 ^ i % 256 = (b.getD (a + i) 0).toNat
  | n + 1, i, h => by
    have hlt := numU_lt hB a n
    have hy := byte_at hB (a + n)
    unfold numU
    by_cases e : i = n
    · subst e
      rw [Nat.add_mul_div_right _ _ (Nat.pow_pos (by decide)), Nat.div_eq_of_lt hlt]
      omega
    · have hi : i < n := by omega
      have ih := numU_div hB a n i hi
      obtain ⟨d, hd⟩ : ∃ d, n = i + (d + 1) := ⟨n - i - 1, by omega⟩
      have hp : (b.getD (a + n) 0).toNat * 256 ^ n = ((b.getD (a + n) 0).toNat * 256 ^ d * 256) * 256 ^ i := by
        rw [hd, Nat.pow_add, Nat.pow_succ]
        simp only [Nat.mul_assoc, Nat.mul_comm, Nat.mul_left_comm]
      rw [hp, Nat.add_mul_div_right _ _ (Nat.pow_pos (by decide)), Nat.add_mul_mod_self_right, ih]
theorem pow8 (i : Nat) : (2 : Int) ^ (8 * i) = 256 ^ i := by rw [Int.pow_mul]; rfl
theorem numU_64 {b : List Int} (hB : Bytes b) (a n : Nat) (hn : n ≤ 8) : numU b a n < 18446744073709551616 := by
  have hlt := numU_lt hB a n
  have h8 : (256 : Nat) ^ n ≤ 256 ^ 8 := Nat.pow_le_pow_right (by decide) hn
  exact Nat.lt_of_lt_of_le hlt h8
theorem wrap_back (N : Nat) (h : N < 18446744073709551616) : IntKind.u64.wrap (wrap64 (N : Int)) = (N : Int) := by rw [u64_wrap]; unfold wrap64; omega
theorem byteI_nat (N i : Nat) (h : N < 18446744073709551616) : byteI (wrap64 (N : Int)) i = ((N / 256 ^ i % 256 : Nat) : Int) := by
  unfold byteI
  rw [wrap_back N h, pow8, Int.natCast_emod, Int.natCast_ediv, Int.natCast_pow]
  rfl
theorem number_rd {b : List Int} (hB : Bytes b) {n a a' : Nat} {x : Int} (hn : n ≤ 8) (h : numberP b n a = .ok x a') : Rd b a a' (leB x n) := by
  unfold numberP at h
  split at h
  · cases h
  · rename_i hl
    injection h with h1 h2
    subst h1 h2
    refine ⟨?_, by rw [leB_length]⟩
    have hb : leB (wrap64 (numU b a n : Nat)) n = (b.drop a).take n := by
      apply List.ext_getElem?
      intro i
      by_cases hi : i < n
      · have hlen : i < ((b.drop a).take n).length := by rw [List.length_take, List.length_drop]; omega
        rw [List.getElem?_eq_getElem hlen, List.getElem_take, List.getElem_drop]
        have hk := numU_div hB a n i hi
        have hy := byte_at hB (a + i)
        have hbd := numU_64 hB a n hn
        have hg : b.getD (a + i) 0 = b[a + i]'(by omega) := by rw [List.getD_eq_getElem?_getD, List.getElem?_eq_getElem (by omega)]; rfl
        have hby := byteI_nat (numU b a n) i hbd
        unfold leB
        rw [List.getElem?_map, List.getElem?_range hi]
        simp only [Option.map_some]
        rw [hby, hk, Int.toNat_of_nonneg hy.1, hg]
      · rw [List.getElem?_eq_none (by rw [leB_length]; omega), List.getElem?_eq_none (by rw [List.length_take]; omega)]
    rw [hb, ← List.drop_drop, List.take_append_drop]
theorem within_rd {b : List Int} (hB : Bytes b) {n a a' : Nat} {lo hi x : Int} (hn : n ≤ 8) (h : withinP b n lo hi a = .ok x a') : Rd b a a' (leB x n) := by
  unfold withinP at h
  split at h
  · cases h
  · rename_i y c hy
    split at h
    · cases h
    · injection h with h1 h2
      subst h1 h2
      exact number_rd hB hn hy
theorem number_in {b : List Int} {n a a' : Nat} {x : Int} (h : numberP b n a = .ok x a') : -9223372036854775808 ≤ x ∧ x < 9223372036854775808 := by
  unfold numberP at h
  split at h
  · cases h
  · injection h with h1 h2
    subst h1
    unfold wrap64
    omega
theorem bits_rd {b : List Int} (hB : Bytes b) (w : Int) (nb : Nat) (hw : (w / 8).toNat = nb) (h8 : nb ≤ 8) : ∀ (k a : Nat) (acc l : List Int) (a' : Nat), bitsP b w k a acc = .ok l a' →
    ∃ l2, l = acc ++ l2 ∧ l2.length = k ∧ Rd b a a' (bitsB nb l2) ∧ (∀ x ∈ l2, finV x w = true ∧ -9223372036854775808 ≤ x ∧ x < 9223372036854775808)
  | 0, a, acc, l, a', h => by
    unfold bitsP at h
    injection h with h1 h2
    subst h1 h2
    exact ⟨[], by simp, rfl, Rd.nil b a, by simp⟩
  | k + 1, a, acc, l, a', h => by
    unfold bitsP at h
    split at h
    · cases h
    · rename_i x c hx
      split at h
      · rename_i hf
        obtain ⟨l2, rfl, hk, hr, hall⟩ := bits_rd hB w nb hw h8 k c _ l a' h
        refine ⟨x :: l2, by simp, by simp [hk], ?_, ?_⟩
        · unfold bitsB
          rw [List.flatMap_cons]
          rw [hw] at hx
          exact (number_rd hB h8 hx).app hr
        · intro y hy
          rcases List.mem_cons.1 hy with rfl | hy
          · exact ⟨hf, number_in hx⟩
          · exact hall y hy
      · cases h
theorem matrix_rd {b : List Int} (hB : Bytes b) {a a' : Nat} {m : S56} (h : matrixP b a = .ok m a') : Rd b a a' (matB m) ∧ Good m := by
  unfold matrixP at h
  split at h
  · cases h
  · rename_i w a1 hw
    unfold matrix1 at h
    split at h
    · cases h
    · rename_i hw2
      split at h
      · cases h
      · rename_i r a2 hr
        unfold matrix2 at h
        split at h
        · cases h
        · rename_i c a3 hc
          unfold matrix3 at h
          split at h
          · cases h
          · rename_i l a4 hl
            injection h with h1 h2
            subst h1 h2
            have hwv : w = 32 ∨ w = 64 := by omega
            have hnb : (w / 8).toNat ≤ 8 := by omega
            obtain ⟨l2, hl2, hk, hrd, hall⟩ := bits_rd hB w (w / 8).toNat rfl hnb _ _ _ _ _ hl
            rw [List.nil_append] at hl2
            subst hl2
            have r1 := within_range hr
            have r2 := within_range hc
            have hc0 : 0 ≤ r * c := Int.mul_nonneg (by omega) (by omega)
            have h4 : r ≤ 4096 := by
              by_cases hlt : r ≤ 4096
              · exact hlt
              · have : (4096 : Int) / r = 0 := Int.ediv_eq_zero_of_lt (by decide) (by omega)
                omega
            refine ⟨(((number_rd hB (by decide) hw).app (within_rd hB (by decide) hr)).app (within_rd hB (by decide) hc)).app hrd, ?_, fun x hx => (hall x hx).2⟩
            unfold fitsV
            simp only [Bool.and_eq_true, decide_eq_true_eq, List.all_eq_true]
            exact ⟨⟨⟨⟨⟨⟨hwv, r1.1⟩, r2.1⟩, h4⟩, r2.2⟩, by omega⟩, fun x hx => (hall x hx).1⟩
theorem bind_some_ok {α β : Type} {p : PR α} {f : α → Nat → PR β} {y : β} {a' : Nat} (h : p.bind f = .ok y a') : ∃ x a, p = .ok x a ∧ f x a = .ok y a' := by
  cases p with
  | ok x a => exact ⟨x, a, rfl, h⟩
  | stop q p => cases h
theorem mats_rd {b : List Int} (hB : Bytes b) : ∀ (k a : Nat) (acc l : List S56) (a' : Nat), matsP b k a acc = .ok l a' → ∃ l2, l = acc ++ l2 ∧ l2.length = k ∧ Rd b a a' (matsB l2) ∧ ∀ m ∈ l2, Good m
  | 0, a, acc, l, a', h => by
    unfold matsP at h
    injection h with h1 h2
    subst h1 h2
    exact ⟨[], by simp, rfl, Rd.nil b a, by simp⟩
  | k + 1, a, acc, l, a', h => by
    unfold matsP at h
    obtain ⟨m, c, hm, h⟩ := bind_some_ok h
    obtain ⟨hr, hg⟩ := matrix_rd hB hm
    obtain ⟨l2, rfl, hk, hr2, hall⟩ := mats_rd hB k c _ l a' h
    refine ⟨m :: l2, by simp, by simp [hk], ?_, ?_⟩
    · unfold matsB
      rw [List.flatMap_cons]
      exact hr.app hr2
    · intro y hy
      rcases List.mem_cons.1 hy with rfl | hy
      · exact hg
      · exact hall y hy
theorem slots_rd {b : List Int} (hB : Bytes b) : ∀ (k a : Nat) (acc l : List (List S56)) (a' : Nat), slotsP b k a acc = .ok l a' → ∃ l2, l = acc ++ l2 ∧ l2.length = k ∧ Rd b a a' (slotsB l2) ∧ ∀ s ∈ l2, s.length ≤ 4 ∧ ∀ m ∈ s, Good m
  | 0, a, acc, l, a', h => by
    unfold slotsP at h
    injection h with h1 h2
    subst h1 h2
    exact ⟨[], by simp, rfl, Rd.nil b a, by simp⟩
  | k + 1, a, acc, l, a', h => by
    unfold slotsP at h
    obtain ⟨n, c, hn, h⟩ := bind_some_ok h
    obtain ⟨s, c2, hs, h⟩ := bind_some_ok h
    have hr1 := within_rd hB (by decide) hn
    have hrg := within_range hn
    obtain ⟨s2, hs2, hk1, hr2, hg⟩ := mats_rd hB _ _ _ _ _ hs
    rw [List.nil_append] at hs2
    subst hs2
    obtain ⟨l2, rfl, hk, hr3, hall⟩ := slots_rd hB k c2 _ l a' h
    have hnl : (s.length : Int) = n := by omega
    refine ⟨s :: l2, by simp, by simp [hk], ?_, ?_⟩
    · unfold slotsB
      rw [List.flatMap_cons]
      refine Rd.app ?_ hr3
      unfold slotB
      rw [hnl]
      exact hr1.app hr2
    · intro y hy
      rcases List.mem_cons.1 hy with rfl | hy
      · exact ⟨by omega, hg⟩
      · exact hall y hy
theorem head_rd {b : List Int} (hB : Bytes b) : ∀ (l : List Int) (a a' : Nat), (∀ x ∈ l, 0 ≤ x ∧ x < 256) → headP b l a = .ok () a' → Rd b a a' l
  | [], a, a', hl, h => by
    unfold headP at h
    injection h with h1 h2
    subst h2
    exact Rd.nil b a
  | x :: l, a, a', hl, h => by
    unfold headP at h
    obtain ⟨y, c, hy, h'⟩ := bind_some_ok h
    have hrg := within_range hy
    obtain rfl : y = x := by omega
    have h1 := within_rd hB (by decide) hy
    have hx := hl y List.mem_cons_self
    have e : leB y 1 = [y] := by
      show [byteI y 0] = [y]
      unfold byteI
      rw [u64_wrap]
      simp
      omega
    rw [e] at h1
    exact h1.app (head_rd hB l c a' (fun z hz => hl z (List.mem_cons_of_mem _ hz)) h')

theorem matsC_good : ∀ (s : List S56) (t : Int), (∀ m ∈ s, fitsV m = true) → matsC s t = some (t + ((matsB s).length : Int))
  | [], t, _ => by simp [matsC, matsB]
  | m :: s, t, h => by
    have hm := h m List.mem_cons_self
    unfold matsC
    rw [if_pos hm, matsC_good s _ (fun x hx => h x (List.mem_cons_of_mem _ hx)), ← matB_size hm]
    have : ((matsB (m :: s)).length : Int) = ((matB m).length : Int) + ((matsB s).length : Int) := by unfold matsB; rw [List.flatMap_cons, List.length_append, Int.natCast_add]
    rw [this]
    congr 1
    omega
theorem listsC_good : ∀ (L : List (List S56)) (i : Nat) (t : Int), 0 < i → (∀ s ∈ L, s.length ≤ 4 ∧ ∀ m ∈ s, fitsV m = true) → listsC i L t = some (t + ((slotsB L).length : Int))
  | [], i, t, hi, _ => by simp [listsC, slotsB]
  | s :: L, i, t, hi, h => by
    obtain ⟨h4, hm⟩ := h s List.mem_cons_self
    unfold listsC
    rw [if_neg (by omega), if_pos hi, matsC_good s _ hm, Option.bind_some, listsC_good L (i + 1) _ (by omega) (fun x hx => h x (List.mem_cons_of_mem _ hx))]
    have : ((slotsB (s :: L)).length : Int) = 1 + ((matsB s).length : Int) + ((slotsB L).length : Int) := by unfold slotsB; rw [List.flatMap_cons, List.length_append, slotB, List.length_append, leB_length]; omega
    rw [this]
    congr 1
    omega
/-- what Check says of a state that is in form -/
theorem check_good {s0 s1 s2 : Int} {ps : List S56} {ss : List (List S56)} (h0 : place s0) (h1 : place s1) (h2 : place s2) (hlp : ps.length ≤ 64) (hls : ss.length ≤ 64) (hp : ∀ m ∈ ps, fitsV m = true) (hs : ∀ s ∈ ss, s.length ≤ 4 ∧ ∀ m ∈ s, fitsV m = true) :
    checkV s0 s1 s2 ps ss = if 16777216 < (52 + ((matsB ps).length : Int) + ((slotsB ss).length : Int)) then 2 else 0 := by
  unfold checkV
  have hc : checkL [s0, s1, s2] = true := by simp only [checkL, List.all_cons, List.all_nil, Bool.and_true, Bool.and_eq_true, decide_eq_true_eq]; exact ⟨h0, h1, h2⟩
  rw [if_neg (by rw [hc]; decide), if_neg (by omega)]
  unfold listsC
  rw [if_neg (by omega), if_neg (by decide), matsC_good ps _ hp, Option.bind_some, listsC_good ss _ _ (by decide) hs]
  rfl
theorem read_write {b : List Int} (hB : Bytes b) {x : Row} {a : Nat} (h : readP b = .ok x a) :
    checkV x.step x.epoch x.batch x.params x.slots = 0 ∧ writeP x.step x.epoch x.batch x.params x.slots x.loss x.rate = b ∧ Words x.step x.epoch x.batch x.params x.slots x.loss x.rate := by
  unfold readP at h
  split at h
  · cases h
  · rename_i hlen
    obtain ⟨_, a0, e0, h⟩ := bind_some_ok h
    have r0 := head_rd hB _ _ _ (by decide) e0
    unfold read1 at h
    obtain ⟨s0, a1, e1, h⟩ := bind_some_ok h
    obtain ⟨s1, a2, e2, h⟩ := bind_some_ok h
    obtain ⟨s2, a3, e3, h⟩ := bind_some_ok h
    unfold read2 at h
    obtain ⟨lo, a4, e4, h⟩ := bind_some_ok h
    obtain ⟨ra, a5, e5, h⟩ := bind_some_ok h
    obtain ⟨n, a6, e6, h⟩ := bind_some_ok h
    obtain ⟨ps, a7, e7, h⟩ := bind_some_ok h
    unfold read3 at h
    obtain ⟨m, a8, e8, h⟩ := bind_some_ok h
    obtain ⟨ss, a9, e9, h⟩ := bind_some_ok h
    unfold read4 at h
    obtain ⟨sm, a10, e10, h⟩ := bind_some_ok h
    split at h
    · cases h
    · rename_i hsm
      split at h
      · cases h
      · rename_i hend
        injection h with h1 h2
        subst h1 h2
        obtain ⟨ps2, hps, hkp, rp, hgp⟩ := mats_rd hB _ _ _ _ _ e7
        rw [List.nil_append] at hps
        subst hps
        obtain ⟨ss2, hss, hks, rs, hgs⟩ := slots_rd hB _ _ _ _ _ e9
        rw [List.nil_append] at hss
        subst hss
        have g0 := within_range e1
        have g1 := within_range e2
        have g2 := within_range e3
        have g6 := within_range e6
        have g8 := within_range e8
        have hn : ((ps.length : Nat) : Int) = n := by omega
        have hm : ((ss.length : Nat) : Int) = m := by omega
        have w6 := within_rd hB (by decide) e6
        have w8 := within_rd hB (by decide) e8
        rw [← hn] at w6
        rw [← hm] at w8
        have rb := ((((((((((r0.app (within_rd hB (by decide) e1)).app (within_rd hB (by decide) e2)).app (within_rd hB (by decide) e3)).app (number_rd hB (by decide) e4)).app (number_rd hB (by decide) e5)).app w6).app rp).app w8).app rs))
        have hb : bodyB s0 s1 s2 ps ss lo ra = [112, 115, 116, 1] ++ leB s0 8 ++ leB s1 8 ++ leB s2 8 ++ leB lo 8 ++ leB ra 8 ++ leB (ps.length : Int) 2 ++ matsB ps ++ leB (ss.length : Int) 2 ++ slotsB ss := by
          unfold bodyB numsB
          simp only [List.flatMap_cons, List.flatMap_nil, List.append_assoc, List.append_nil]
        rw [← hb] at rb
        have ht := rb.take
        rw [ht] at hsm
        have hsm' : sm = sumV (bodyB s0 s1 s2 ps ss lo ra) := by simpa using hsm
        have r10 := number_rd hB (by decide) e10
        rw [hsm'] at r10
        have rw_ := rb.app r10
        have hall := rw_.1
        rw [List.drop_zero] at hall
        have hnil : b.drop a10 = [] := List.drop_eq_nil_of_le (by omega)
        rw [hnil, List.append_nil] at hall
        have hw : writeP s0 s1 s2 ps ss lo ra = b := hall.symm
        have hbl := body_length s0 s1 s2 ps ss lo ra
        have hwl : (writeP s0 s1 s2 ps ss lo ra).length = (bodyB s0 s1 s2 ps ss lo ra).length + 4 := by unfold writeP; rw [List.length_append, leB_length]
        refine ⟨?_, hw, ⟨fun q hq => (hgp q hq).2, fun s hs q hq => ((hgs s hs).2 q hq).2, number_in e4, number_in e5⟩⟩
        show checkV s0 s1 s2 ps ss = 0
        rw [check_good g0 g1 g2 (by omega) (by omega) (fun q hq => (hgp q hq).1) (fun s hs => ⟨(hgs s hs).1, fun q hq => ((hgs s hs).2 q hq).1⟩), if_neg]
        rw [hw] at hwl
        omega
end Go.Proofs.Ytmiljlbbacbbpaa
