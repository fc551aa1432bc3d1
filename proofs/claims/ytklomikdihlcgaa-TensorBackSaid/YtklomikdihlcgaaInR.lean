/- Whole numbers of the machine. -/
import Derived.Test.YtklomikdihlcgaaCheckP
namespace Go.Proofs.Ytklomikdihlcgaa
open Go.RowKit PBase
open Go.Proofs.YtklomikdihlcgaaW.PrintWords Go.Proofs.YtklomikdihlcgaaW.PrintLast Go.Proofs.YtklomikdihlcgaaW.PrintMore
def InR (l : List Int) : Prop := ∀ x ∈ l, -9223372036854775808 ≤ x ∧ x ≤ 9223372036854775807
theorem rd_range {l : List Int} (hr : InR l) (i : Int) : -9223372036854775808 ≤ rd l i ∧ rd l i ≤ 9223372036854775807 := by
  unfold rd
  rw [List.getD_eq_getElem?_getD]
  cases h : l[i.toNat]? with
  | none => simp
  | some x => simpa using hr x (List.mem_of_getElem? h)
theorem canon_l0 (r c wd r' c' wd' : Int) (l : List Int) (hw : wd = 32 ∨ wd = 64) (hr : InR l) (hl : l.length ≤ 1000000) : ∀ (k i : Nat) (acc : List Int), i ≤ l.length → acc.length = i → l.length + 1 < k + i → pupilref7_Canon.l0 k (i : Int) r c wd l r' c' wd' acc = some (r', c', wd', acc ++ (l.drop i).map (cleanV wd))
  | 0, i, acc, h1, h2, h3 => by omega
  | k + 1, i, acc, h1, h2, h3 => by
    rw [pupilref7_Canon.l0]
    by_cases h : i < l.length
    · have hx := hr l[i] (List.getElem_mem h)
      rw [if_pos (by omega), if_pos (by omega), rd_nat l i h, show k = (k - 1) + 1 by omega, refClean_eq _ _ _ hw hx.1 hx.2, Option.bind_some, if_pos (by omega), IntWalk.wrap64_in ((i : Int) + 1) (by omega)]
      have := canon_l0 r c wd r' c' wd' l hw hr hl k (i + 1) (acc ++ [cleanV wd l[i]]) (by omega) (by simp [h2]) (by omega)
      rw [show ((i : Int) + 1) = ((i + 1 : Nat) : Int) by omega, show (k - 1) + 1 = k by omega, this, List.drop_eq_getElem_cons h, List.map_cons, List.append_assoc]
      rfl
    · rw [if_neg (by omega), List.drop_eq_nil_of_le (by omega), List.map_nil, List.append_nil]

theorem canon_eq (k : Nat) (r c wd : Int) (l : List Int) (hw : wd = 32 ∨ wd = 64) (hr : InR l) (hl : l.length ≤ 1000000) (hk : l.length + 1 < k) : pupilref7_Canon.f k r c wd l = some (r, c, wd, l.map (cleanV wd)) := by
  unfold pupilref7_Canon.f
  have := canon_l0 r c wd r c wd l hw hr hl k 0 [] (by omega) rfl (by omega)
  rw [List.drop_zero, List.nil_append] at this
  exact this

end Go.Proofs.Ytklomikdihlcgaa
