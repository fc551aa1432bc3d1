/- spoil: all elements of an answer are overwritten. -/
import Derived.Test.YtklomikdihlcgaaStays
namespace Go.Proofs.Ytklomikdihlcgaa
open Go.RowKit PBase
open Go.Proofs.YtklomikdihlcgaaW.PrintWords Go.Proofs.YtklomikdihlcgaaW.PrintLast Go.Proofs.YtklomikdihlcgaaW.PrintMore
set_option linter.unusedVariables false
set_option linter.unusedSimpArgs false

/-- all that w had but one row stays -/
abbrev KeepsRow (w w' : World) (row : Option Nat) : Prop := ∀ k, k < w.heap.size → some k ≠ row → w'.heap[k]? = w.heap[k]?
theorem keeps_blk {w w' : World} {row : Option Nat} {g t : Nat} {cs : Array Value} (h : KeepsRow w w' row) (hI : IsB w g cs t) (hne : some g ≠ row) : IsB w' g cs t := (h g (blk_lt hI) hne).trans hI

set_option maxHeartbeats 1000000 in
set_option maxRecDepth 100000 in
theorem spoil_calls (x0 x1 wd : Int) (A : Option Addr) (cA : Nat) (xs : List Int) (w0 w : World) (hR : Ints w0 w (.slice A xs.length cA) xs) (hB : Below w0.heap.size w0 w) (hl : xs.length ≤ 100000) :
    Calls Try.prog 26 #[.agg #[.int .i64 x0, .int .i64 x1, .int .i64 wd, .slice A xs.length cA]] w fun e w' => ∃ u, e = .returned u ∧ Below w0.heap.size w0 w' ∧ KeepsRow w w' (Value.slice A xs.length cA).ownBlock := by
  have HL := Aside0.mk hl
  generalize hn : xs.length = n at hR hl ⊢
  have HN := Aside0.mk hn
  have HR := Aside0.mk hR
  have HB0 := Aside0.mk hB
  clear hR hB hn hl
  go_enter Try.func26, Try.ntmps26
  go_wp2
  generalize hw1 : (w.alloc (Obj.cells #[Value.int IntKind.i64 x0, Value.int IntKind.i64 x1, Value.int IntKind.i64 wd, Value.slice A n cA] 25)) = w1
  have H0 : Aside0 (IsB w1 w.heap.size (row4 x0 x1 wd (.slice A n cA)) 25) := ⟨by rw [← hw1]; exact blk_new _ _⟩
  have HB : Aside0 (Below w0.heap.size w0 w1) := ⟨by rw [← hw1]; exact below_alloc HB0.out _⟩
  have HR1 : Aside0 (Ints w0 w1 (.slice A n cA) xs) := ⟨by rw [← hw1]; exact Kd.R_alloc HR.out _⟩
  have HK : Aside0 (KeepsRow w w1 (Value.slice A n cA).ownBlock) := ⟨by rw [← hw1]; exact fun k hk _ => Below.heap_alloc w _ k hk⟩
  clear hw1
  go_loopg [2] n (fun kq v2 w' => ∃ i : Nat, v2 = .int .i64 i ∧ Aside0 (i + kq = n) ∧ Aside0 (IsB w' w.heap.size (row4 x0 x1 wd (.slice A n cA)) 25) ∧ (∃ ys : List Int, Aside0 (ys.length = n) ∧ Aside0 (Ints w0 w' (.slice A n cA) ys)) ∧ Aside0 (Below w0.heap.size w0 w') ∧ Aside0 (KeepsRow w w' (Value.slice A n cA).ownBlock))
  case atStart => exact ⟨0, rfl, ⟨by omega⟩, H0, ⟨xs, HN, HR1⟩, HB, HK⟩
  case round =>
    clear H0 HR1 HB HK
    obtain ⟨i, rfl, HI, H0, ⟨ys, HY, HR1⟩, HB, HK⟩ := hrel
    have a3 := blk_cell H0.out 3
    simp only [List.getElem?_toArray, List.getElem?_cons_zero, List.getElem?_cons_succ] at a3
    by_cases hlt : i < n
    · have d1 : decide (i < n) = true := decide_eq_true hlt
      obtain ⟨g, cap, hv, hge, hgl, cells, hcells⟩ := Kd.R_form HR1.out (by have := HY.out; omega)
      injection hv with hv1 hv2 hv3
      subst hv1 hv3
      obtain ⟨gc, gf⟩ := Kd.R_celln 0 HR1.out (i : Int) (by omega) (by omega)
      rw [Int.toNat_natCast] at gc gf
      have HP := Aside0.mk (Kd.R_putn HR1.out (i : Int) (-1))
      have hne : w.heap.size ≠ g := fun h => Kd.R_ne HR1.out H0.out (by decide) (by subst h; rfl)
      have HNE := Aside0.mk hne
      have HLT := Aside0.mk hlt
      have HGE := Aside0.mk hge
      clear hge hgl hcells hne hv2
      go_wp2
      go_roundg (gk - 1)
      case measure => have := HI.out; have := HLT.out; omega
      case rel => exact ⟨i + 1, next_i6 (by have := HL.out; have := HN.out; have := HLT.out; omega), ⟨by have := HI.out; have := HLT.out; omega⟩, ⟨blk_far H0.out HNE.out _⟩, ⟨ys.set i (-1), ⟨by rw [List.length_set]; exact HY.out⟩, ⟨HP.out⟩⟩, ⟨Below.setCell HB.out (p := ⟨g, i, none⟩) HGE.out _⟩, ⟨fun k hk hne => (Below.heap_setCell wr ⟨g, i, none⟩ _ k (fun h => hne (by rw [h]; rfl))).trans (HK.out k hk hne)⟩⟩
    · have d1 : decide (i < n) = false := decide_eq_false hlt
      go_wp2
      refine bodyPost_end (v := .tuple #[]) (by simp [results, Try.results26, go_sem]) rfl ?_
      exact ⟨_, rfl, HB.out, HK.out⟩

end Go.Proofs.Ytklomikdihlcgaa
