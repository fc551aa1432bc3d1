/- Plain laws: sameness of a state with itself, the number of numbers; what Write answers with fuel enough. -/
import Derived.Test.YtmiljlbbacbbpaaPlan
import Derived.Test.YtmiljlbbacbbpaaPBasepupillaw23same
import Derived.Test.YtmiljlbbacbbpaaPBasepupillaw23bulk
namespace Go.Proofs.Ytmiljlbbacbbpaa
open Go.RowKit PBase
open Go.Proofs.YtmiljlbbacbbpaaW.PrintWords Go.Proofs.YtmiljlbbacbbpaaW.PrintLast Go.Proofs.YtmiljlbbacbbpaaW.PrintMore
set_option linter.unusedVariables false
set_option linter.unusedSimpArgs false

/-- with fuel enough it is r -/
def Ev {α : Type} (f : Nat → Option α) (r : α) : Prop := ∃ K, ∀ k, K ≤ k → f k = some r
theorem Ev.up {α : Type} {f : Nat → Option α} {r : α} (hm : ∀ k, LeO (f k) (f (k + 1))) {k : Nat} (h : f k = some r) : Ev f r := by
  refine ⟨k, fun j hj => ?_⟩
  obtain ⟨d, rfl⟩ : ∃ d, j = k + d := ⟨j - k, by omega⟩
  clear hj
  induction d with
  | zero => exact h
  | succ d ih => exact hm (k + d) r ih
theorem Ev.step {α : Type} {f g : Nat → Option α} {r : α} (h : Ev g r) (hf : ∀ k, f (k + 1) = g k) : Ev f r := by
  obtain ⟨K, hK⟩ := h
  refine ⟨K + 1, fun k hk => ?_⟩
  obtain ⟨j, rfl⟩ : ∃ j, k = j + 1 := ⟨k - 1, by omega⟩
  rw [hf]
  exact hK j (by omega)
theorem Ev.const {α : Type} (r : α) : Ev (fun _ => some r) r := ⟨0, fun _ _ => rfl⟩
theorem Ev.bind {α β : Type} {f : Nat → Option α} {g : Nat → α → Option β} {r : α} {s : β} (hf : Ev f r) (hg : Ev (fun k => g k r) s) : Ev (fun k => (f k).bind (g k)) s := by
  obtain ⟨K, hK⟩ := hf
  obtain ⟨L, hL⟩ := hg
  refine ⟨max K L, fun k hk => ?_⟩
  show (f k).bind (g k) = _
  rw [hK k (by omega), Option.bind_some]
  exact hL k (by omega)
theorem Ev.one {α : Type} {f : Nat → Option α} {r : α} (h : Ev f r) : ∃ k, f k = some r := by
  obtain ⟨K, hK⟩ := h
  exact ⟨K, hK K (Nat.le_refl K)⟩

theorem sameM_go (a b c d e f : Int) (l : List Int) (hl : l.length ≤ 9000000000000000000) : ∀ (n i : Nat), i + n = l.length → Ev (fun k => pupillaw23_sameMatrix.l0 k (i : Int) a b c l d e f l) true
  | 0, i, h => by
    refine (Ev.const true).step fun k => ?_
    unfold pupillaw23_sameMatrix.l0
    rw [if_neg (by omega)]
  | n + 1, i, h => by
    refine (sameM_go a b c d e f l hl n (i + 1) (by omega)).step fun k => ?_
    rw [pupillaw23_sameMatrix.l0]
    rw [if_pos (by omega), if_pos (by omega), if_pos (by omega), if_pos rfl, show wrap64 ((i : Int) + 1) = ((i + 1 : Nat) : Int) by unfold wrap64; omega]
theorem sameM_all (m : S56) (hl : m.f3.length ≤ 9000000000000000000) : Ev (fun k => pupillaw23_sameMatrix.f k m.f0 m.f1 m.f2 m.f3 m.f0 m.f1 m.f2 m.f3) true := by
  have h : Ev (fun k => pupillaw23_sameMatrix.j0 k ((m.f3.length : Int) != (m.f3.length : Int)) m.f0 m.f1 m.f2 m.f3 m.f0 m.f1 m.f2 m.f3) true := by
    refine (sameM_go m.f0 m.f1 m.f2 m.f0 m.f1 m.f2 m.f3 hl m.f3.length 0 (by omega)).step fun k => ?_
    rw [pupillaw23_sameMatrix.j0]
    rw [if_neg (by simp)]
    rfl
  obtain ⟨K, hK⟩ := h
  refine ⟨K, fun k hk => ?_⟩
  show pupillaw23_sameMatrix.f k _ _ _ _ _ _ _ _ = _
  unfold pupillaw23_sameMatrix.f
  rw [if_pos rfl, if_pos rfl, if_pos rfl]
  exact hK k hk
/-- lists of a memory's length -/
def Short (s : List S56) : Prop := s.length ≤ 9000000000000000000 ∧ ∀ m ∈ s, m.f3.length ≤ 9000000000000000000
theorem sameL_go (s : List S56) (hs : Short s) : ∀ (n i : Nat), i + n = s.length → Ev (fun k => pupillaw23_sameList.l0 k s s (i : Int)) true
  | 0, i, h => by
    refine (Ev.const true).step fun k => ?_
    unfold pupillaw23_sameList.l0
    rw [if_neg (by omega)]
  | n + 1, i, h => by
    have hi : i < s.length := by omega
    have h1 := sameM_all s[i] (hs.2 _ (List.getElem_mem hi))
    have h2 := sameL_go s hs n (i + 1) (by omega)
    have h3 := Ev.bind (g := fun k t => if t = true then pupillaw23_sameList.l0 k s s ((i + 1 : Nat) : Int) else some false) h1 (by simpa using h2)
    refine h3.step fun k => ?_
    rw [pupillaw23_sameList.l0]
    have := hs.1
    rw [if_pos (by omega), if_pos (by omega), if_pos (by omega), rd56 s i hi, show wrap64 ((i : Int) + 1) = ((i + 1 : Nat) : Int) by unfold wrap64; omega]
theorem sameL_all (s : List S56) (hs : Short s) : Ev (fun k => pupillaw23_sameList.f k s s) true := by
  obtain ⟨K, hK⟩ := sameL_go s hs s.length 0 (by omega)
  refine ⟨K, fun k hk => ?_⟩
  show pupillaw23_sameList.f k s s = _
  unfold pupillaw23_sameList.f
  rw [if_pos rfl]
  exact hK k hk
theorem same_go (a0 a1 a2 : Int) (ps : List S56) (ss : List (List S56)) (a5 a6 b0 b1 b2 : Int) (qs : List S56) (b5 b6 : Int) (hl : ss.length ≤ 9000000000000000000) (hs : ∀ s ∈ ss, Short s) : ∀ (n i : Nat), i + n = ss.length → Ev (fun k => pupillaw23_same.l0 k (i : Int) a0 a1 a2 ps ss a5 a6 b0 b1 b2 qs ss b5 b6) true
  | 0, i, h => by
    refine (Ev.const true).step fun k => ?_
    unfold pupillaw23_same.l0
    rw [if_neg (by omega)]
  | n + 1, i, h => by
    have hi : i < ss.length := by omega
    have h1 := sameL_all ss[i] (hs _ (List.getElem_mem hi))
    have h2 := same_go a0 a1 a2 ps ss a5 a6 b0 b1 b2 qs b5 b6 hl hs n (i + 1) (by omega)
    have h3 := Ev.bind (g := fun k t => if t = true then pupillaw23_same.l0 k ((i + 1 : Nat) : Int) a0 a1 a2 ps ss a5 a6 b0 b1 b2 qs ss b5 b6 else some false) h1 (by simpa using h2)
    refine h3.step fun k => ?_
    rw [pupillaw23_same.l0]
    rw [if_pos (by omega), if_pos (by omega), if_pos (by omega), rdL4 ss i hi, show wrap64 ((i : Int) + 1) = ((i + 1 : Nat) : Int) by unfold wrap64; omega]
theorem same_all (a0 a1 a2 : Int) (ps : List S56) (ss : List (List S56)) (a5 a6 : Int) (hp : Short ps) (hl : ss.length ≤ 9000000000000000000) (hs : ∀ s ∈ ss, Short s) : Ev (fun k => pupillaw23_same.f k a0 a1 a2 ps ss a5 a6 a0 a1 a2 ps ss a5 a6) true := by
  have h1 : Ev (fun k => pupillaw23_same.j0 k ((ss.length : Int) != (ss.length : Int)) a0 a1 a2 ps ss a5 a6 a0 a1 a2 ps ss a5 a6) true := by
    refine (same_go a0 a1 a2 ps ss a5 a6 a0 a1 a2 ps a5 a6 hl hs ss.length 0 (by omega)).step fun k => ?_
    rw [pupillaw23_same.j0]
    rw [if_neg (by simp)]
    rfl
  have h3 := Ev.bind (g := fun k t => if t = true then pupillaw23_same.j0 k ((ss.length : Int) != (ss.length : Int)) a0 a1 a2 ps ss a5 a6 a0 a1 a2 ps ss a5 a6 else pupillaw23_same.j0 k true a0 a1 a2 ps ss a5 a6 a0 a1 a2 ps ss a5 a6) (sameL_all ps hp) (by simpa using h1)
  obtain ⟨K, hK⟩ := h3
  refine ⟨K, fun k hk => ?_⟩
  show pupillaw23_same.f k _ _ _ _ _ _ _ _ _ _ _ _ _ _ = _
  unfold pupillaw23_same.f
  rw [if_pos rfl, if_pos rfl, if_pos rfl, if_pos rfl, if_pos rfl]
  exact hK k hk
theorem write_ev (s0 s1 s2 : Int) (ps : List S56) (ss : List (List S56)) (lo ra : Int) :
    Ev (fun k => state_Write.f k s0 s1 s2 ps ss lo ra) (if checkV s0 s1 s2 ps ss = 0 then (writeP s0 s1 s2 ps ss lo ra, 0) else ([], checkV s0 s1 s2 ps ss)) :=
  Ev.up (fun k => state_Write.mono s0 s1 s2 ps ss lo ra k) (write_all s0 s1 s2 ps ss lo ra)

/-! how many numbers: there is an answer -/
def Some {α : Type} (f : Nat → Option α) : Prop := ∃ r, Ev f r
theorem Some.step {α : Type} {f g : Nat → Option α} (h : Some g) (hf : ∀ k, f (k + 1) = g k) : Some f := by
  obtain ⟨r, h⟩ := h
  exact ⟨r, h.step hf⟩
section
variable (a b c : Int) (ps : List S56) (ss : List (List S56)) (d e : Int) (hp : ps.length ≤ 9000000000000000000) (hl : ss.length ≤ 9000000000000000000) (hs : ∀ s ∈ ss, s.length ≤ 9000000000000000000)
include hl hs
theorem bulk2_go (i : Nat) (hi : i < ss.length) (h1 : ∀ x : Int, Some (fun k => pupillaw23_bulk.l1 k x ((i + 1 : Nat) : Int) a b c ps ss d e)) : ∀ (n j : Nat) (x : Int), j + n = ss[i].length → Some (fun k => pupillaw23_bulk.l2 k x (i : Int) (j : Int) a b c ps ss d e)
  | 0, j, x, h => by
    refine (h1 x).step fun k => ?_
    rw [pupillaw23_bulk.l2]
    rw [if_pos (by omega), if_pos (by omega), rdL4 ss i hi, if_neg (by omega), show wrap64 ((i : Int) + 1) = ((i + 1 : Nat) : Int) by unfold wrap64; omega]
  | n + 1, j, x, h => by
    have hm := hs _ (List.getElem_mem hi)
    by_cases hx : x ≤ 40000
    · refine (bulk2_go i hi h1 n (j + 1) (wrap64 (x + (((rd_T56 (rd_L4 ss (i : Int)) (j : Int)).f3).length : Int))) (by omega)).step fun k => ?_
      conv => lhs; rw [pupillaw23_bulk.l2]
      rw [if_pos (by omega), if_pos (by omega), if_pos (by rw [rdL4 ss i hi]; omega), if_pos hx, if_pos (by omega), show wrap64 ((j : Int) + 1) = ((j + 1 : Nat) : Int) by unfold wrap64; omega]
    · refine (h1 x).step fun k => ?_
      rw [pupillaw23_bulk.l2]
      rw [if_pos (by omega), if_pos (by omega), rdL4 ss i hi, if_pos (by omega), if_neg hx, show wrap64 ((i : Int) + 1) = ((i + 1 : Nat) : Int) by unfold wrap64; omega]
theorem bulk1_go : ∀ (n i : Nat) (x : Int), i + n = ss.length → Some (fun k => pupillaw23_bulk.l1 k x (i : Int) a b c ps ss d e)
  | 0, i, x, h => by
    have h0 : Some (fun k => pupillaw23_bulk.j3 k x (i : Int) false a b c ps ss d e) := by
      refine Some.step (g := fun _ => some x) ⟨x, Ev.const x⟩ fun k => ?_
      rw [pupillaw23_bulk.j3]
      rw [if_neg (by simp)]
    refine h0.step fun k => ?_
    rw [pupillaw23_bulk.l1]
    rw [if_neg (by omega)]
  | n + 1, i, x, h => by
    have hi : i < ss.length := by omega
    have h0 : Some (fun k => pupillaw23_bulk.j3 k x (i : Int) (decide (x ≤ 40000)) a b c ps ss d e) := by
      by_cases hx : x ≤ 40000
      · refine (bulk2_go a b c ps ss d e hl hs i hi (fun y => bulk1_go n (i + 1) y (by omega)) ss[i].length 0 (wrap64 (x + ((rd_L4 ss (i : Int)).length : Int))) (by omega)).step fun k => ?_
        rw [pupillaw23_bulk.j3]
        rw [if_pos (decide_eq_true hx), if_pos (by omega), if_pos (by omega)]
        rfl
      · refine Some.step (g := fun _ => some x) ⟨x, Ev.const x⟩ fun k => ?_
        rw [pupillaw23_bulk.j3]
        rw [if_neg (by simpa using hx)]
    refine h0.step fun k => ?_
    rw [pupillaw23_bulk.l1]
    rw [if_pos (by omega)]
include hp
theorem bulk0_go : ∀ (n i : Nat) (x : Int), i + n = ps.length → Some (fun k => pupillaw23_bulk.l0 k x (i : Int) a b c ps ss d e)
  | 0, i, x, h => by
    have h0 : Some (fun k => pupillaw23_bulk.j1 k x a b c ps ss d e) := by
      refine (bulk1_go a b c ps ss d e hl hs ss.length 0 x (by omega)).step fun k => ?_
      rw [pupillaw23_bulk.j1]
      rfl
    refine h0.step fun k => ?_
    rw [pupillaw23_bulk.l0]
    rw [if_neg (by omega)]
  | n + 1, i, x, h => by
    by_cases hx : x ≤ 40000
    · refine (bulk0_go n (i + 1) (wrap64 (x + (((rd_T56 ps (i : Int)).f3).length : Int))) (by omega)).step fun k => ?_
      conv => lhs; rw [pupillaw23_bulk.l0]
      rw [if_pos (by omega), if_pos hx, if_pos (by omega), show wrap64 ((i : Int) + 1) = ((i + 1 : Nat) : Int) by unfold wrap64; omega]
    · have h0 : Some (fun k => pupillaw23_bulk.j1 k x a b c ps ss d e) := by
        refine (bulk1_go a b c ps ss d e hl hs ss.length 0 x (by omega)).step fun k => ?_
        rw [pupillaw23_bulk.j1]
        rfl
      refine h0.step fun k => ?_
      rw [pupillaw23_bulk.l0]
      rw [if_pos (by omega), if_neg hx]
theorem bulk_some : Some (fun k => pupillaw23_bulk.f k a b c ps ss d e) := bulk0_go a b c ps ss d e hp hl hs ps.length 0 _ (by omega)
end
end Go.Proofs.Ytmiljlbbacbbpaa
