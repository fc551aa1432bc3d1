/- Glues: the rows of shapes, the two predicates, slices.ContainsFunc. -/
import Derived.Test.YtklomikdihlcgaaMgD
namespace Go.Proofs.Ytklomikdihlcgaa
open Go.RowKit PBase
open Go.Proofs.YtklomikdihlcgaaW.PrintWords Go.Proofs.YtklomikdihlcgaaW.PrintLast Go.Proofs.YtklomikdihlcgaaW.PrintMore
set_option linter.unusedVariables false
set_option linter.unusedSimpArgs false

/-- a shape: rows, columns, width -/
abbrev Shp := Int × Int × Int
abbrev shK : Kd Shp := Kd.pair (Kd.int .i64) (Kd.pair (Kd.int .i64) (Kd.int .i64))
theorem add_two (ad : Addr) (n : Nat) : ad.add (n + 2) = ⟨(ad.add n).block, (ad.add n).off + 2, none⟩ := by
  unfold Addr.add
  by_cases h : n = 0
  · subst h; simp
  · simp [h]; omega
theorem shape_cells {w : World} {B : Option Addr} {ss : List Shp} (hF : shK.C w B ss.length ss) (i : Nat) (hi : i < ss.length) :
    ∃ ad, B = some ad ∧ w.cell? (ad.add (i * 3)) = some (.int .i64 (ss[i]).1) ∧ w.cell? (ad.add (i * 3 + 1)) = some (.int .i64 (ss[i]).2.1) ∧ w.cell? (ad.add (i * 3 + 2)) = some (.int .i64 (ss[i]).2.2) := by
  obtain ⟨ad, c, h1, h2, h3, h4⟩ := Kd.C_get hF (0, 0, 0) (i : Int) (by omega) (by omega)
  have hpe : ss.getD i (0, 0, 0) = ss[i] := by simp [List.getD_eq_getElem?_getD, hi]
  rw [Int.toNat_natCast, hpe] at h3
  obtain ⟨c0, c1, rfl, e0, c2, c3, rfl, e1, e2⟩ := h3
  have e0' : c0 = [.int .i64 _] := e0
  have e1' : c2 = [.int .i64 _] := e1
  have e2' : c3 = [.int .i64 _] := e2
  subst e0' e1' e2'
  exact ⟨ad, h1, h4 0 _ rfl, h4 1 _ rfl, h4 2 _ rfl⟩

abbrev shV (x : Shp) : Value := .agg #[.int .i64 x.1, .int .i64 x.2.1, .int .i64 x.2.2]

set_option maxHeartbeats 1000000 in
set_option maxRecDepth 100000 in
theorem index_calls (f : FuncId) (cap : Array Value) (pr : Shp → Bool) (A : Option Addr) (cA : Nat) (ss : List Shp) (w : World) (hC : shK.C w A ss.length ss) (hl : ss.length ≤ 1000000)
    (hf : ∀ W', Below w.heap.size w W' → (∀ args, Sem.run Try.prog (callFunc f args) W' = .ok (.enter f args) W') ∧ ∀ x : Shp, Calls Try.prog f (#[shV x] ++ cap) W' fun e w' => e = .returned (.bool (pr x)) ∧ Below W'.heap.size W' w') :
    Calls Try.prog 107 #[.slice A ss.length cA, .func (.func f) #[] cap] w fun e w' => ∃ n : Int, e = .returned (.int .i64 n) ∧ (0 ≤ n ↔ ss.any pr = true) ∧ Below w.heap.size w w' := by
  go_enter Try.func107, Try.ntmps107
  have HH := Aside0.mk (And.intro hC (And.intro hl hf))
  clear hC hl hf
  have HB := Aside0.mk (Below.refl w.heap.size w)
  go_wp2
  go_loopg [8] ss.length (fun kq v8 w' => ∃ i : Nat, v8 = .int .i64 i ∧ Aside0 (i + kq = ss.length) ∧ Aside0 (∀ j (hj : j < i) (hl : j < ss.length), pr ss[j] = false) ∧ Aside0 (Below w.heap.size w w'))
  case atStart => exact ⟨0, rfl, ⟨by omega⟩, ⟨fun j hj => absurd hj (by omega)⟩, HB⟩
  case round =>
    clear HB
    obtain ⟨i, rfl, HI, HP, HB⟩ := hrel
    by_cases hlt : i < ss.length
    · have d1 : decide (i < ss.length) = true := decide_eq_true hlt
      obtain ⟨ad, hA, g0, g1, g2⟩ := shape_cells HH.out.1 i hlt
      have HX := Aside0.mk (show ∃ x, x = ss[i] from ⟨_, rfl⟩)
      obtain ⟨x, hx⟩ := HX.out
      rw [← hx] at g0 g1 g2
      have HXE := Aside0.mk hx
      have HLT := Aside0.mk hlt
      have hi1 := eq_true hlt
      have g0' := (HB.out.cell (World.block_lt_of_cell? w _ g0)).trans g0
      have g1' := (HB.out.cell (World.block_lt_of_cell? w _ g1)).trans g1
      have g2' := (HB.out.cell (World.block_lt_of_cell? w _ g2)).trans g2
      rw [add_succ] at g1'
      rw [add_two] at g2'
      clear g0 g1 g2 hx HX
      subst hA
      go_wp2_with fail
      obtain ⟨hent, hcall⟩ := HH.out.2.2 wr HB.out
      rw [hent, Oper.upon_enter]
      refine (hcall x).mono ?_
      clear hent hcall g0' g1' g2'
      rintro e w4 ⟨rfl, hb⟩
      have HB4 := Aside0.mk (below_step HB.out hb)
      clear hb
      by_cases hp : pr x = true
      · rw [hp]
        go_wp2
        go_ret
        refine ⟨_, rfl, ?_, HB4.out⟩
        have hin : x ∈ ss := by rw [HXE.out]; exact List.getElem_mem HLT.out
        constructor
        · intro _
          exact List.any_eq_true.2 ⟨x, hin, hp⟩
        · intro _
          omega
      · have hpf : pr x = false := by cases h : pr x with | false => rfl | true => exact absurd h hp
        rw [hpf]
        have HPF := Aside0.mk hpf
        clear hp hpf
        go_wp2
        go_roundg (gk - 1)
        case measure => have := HI.out; have := HLT.out; omega
        case rel => exact ⟨i + 1, next_i6 (by have := HH.out.2.1; have := HLT.out; omega), ⟨by have := HI.out; have := HLT.out; omega⟩, ⟨fun j hj hl => by
          by_cases hji : j = i
          · subst hji
            rw [← HXE.out]; exact HPF.out
          · exact HP.out j (by omega) hl⟩, HB4⟩
    · have d1 : decide (i < ss.length) = false := decide_eq_false hlt
      go_wp2
      go_ret
      refine ⟨_, rfl, ?_, HB.out⟩
      constructor
      · intro h
        exact absurd h (by decide)
      · intro h
        obtain ⟨x, hx, hpx⟩ := List.any_eq_true.1 h
        obtain ⟨j, hj, rfl⟩ := List.mem_iff_getElem.1 hx
        have := HP.out j (by have := HI.out; omega) hj
        rw [this] at hpx
        cases hpx

set_option maxHeartbeats 1000000 in
set_option maxRecDepth 100000 in
theorem contains_calls (f : FuncId) (cap : Array Value) (pr : Shp → Bool) (A : Option Addr) (cA : Nat) (ss : List Shp) (w : World) (hC : shK.C w A ss.length ss) (hl : ss.length ≤ 1000000)
    (hf : ∀ W', Below w.heap.size w W' → (∀ args, Sem.run Try.prog (callFunc f args) W' = .ok (.enter f args) W') ∧ ∀ x : Shp, Calls Try.prog f (#[shV x] ++ cap) W' fun e w' => e = .returned (.bool (pr x)) ∧ Below W'.heap.size W' w') :
    Calls Try.prog 96 #[.slice A ss.length cA, .func (.func f) #[] cap] w fun e w' => e = .returned (.bool (ss.any pr)) ∧ Below w.heap.size w w' := by
  go_enter Try.func96, Try.ntmps96
  have HH := Aside0.mk (And.intro hC (And.intro hl hf))
  clear hC hl hf
  go_wp2_with fail
  refine (index_calls f cap pr A cA ss w HH.out.1 HH.out.2.1 HH.out.2.2).mono ?_
  rintro e w2 ⟨n, rfl, hn, hb⟩
  have HB := Aside0.mk hb
  have HN := Aside0.mk hn
  clear hb hn
  by_cases h0 : 0 ≤ n
  · have ha : ss.any pr = true := HN.out.1 h0
    have d1 : decide (0 ≤ n) = true := decide_eq_true h0
    go_wp2
    go_ret
    exact ⟨by simp [ha, h0], HB.out⟩
  · have ha : ss.any pr = false := by
      cases h : ss.any pr with
      | false => rfl
      | true => exact absurd (HN.out.2 h) h0
    have d1 : decide (0 ≤ n) = false := decide_eq_false h0
    go_wp2
    go_ret
    exact ⟨by simp [ha, h0], HB.out⟩

set_option maxHeartbeats 1000000 in
set_option maxRecDepth 100000 in
theorem pred97_calls (x s : Shp) (g : Nat) (w : World) (hI : IsB w g #[.int .i64 s.1, .int .i64 s.2.1, .int .i64 s.2.2] 34) : Calls Try.prog 97 #[shV x, .pointer (some ⟨g, 0, none⟩)] w fun e w' => e = .returned (.bool (x.2.2 != s.2.2)) ∧ Below w.heap.size w w' := by
  have HB := Aside0.mk (below_alloc (Below.refl w.heap.size w) (Obj.cells #[.int .i64 x.1, .int .i64 x.2.1, .int .i64 x.2.2] 34))
  have c2 := blk_cell (blk_alloc hI (Obj.cells #[.int .i64 x.1, .int .i64 x.2.1, .int .i64 x.2.2] 34)) 2
  simp only [List.getElem?_toArray, List.getElem?_cons_zero, List.getElem?_cons_succ] at c2
  clear hI
  go_enter Try.func97, Try.ntmps97
  go_wp2
  go_ret
  exact ⟨rfl, HB.out⟩

set_option maxHeartbeats 1000000 in
set_option maxRecDepth 100000 in
theorem pred98_calls (x s : Shp) (side : Bool) (gb g : Nat) (w : World) (hb : IsB w gb #[.bool side] 4) (hI : IsB w g #[.int .i64 s.1, .int .i64 s.2.1, .int .i64 s.2.2] 34) : Calls Try.prog 98 #[shV x, .pointer (some ⟨gb, 0, none⟩), .pointer (some ⟨g, 0, none⟩)] w fun e w' => e = .returned (.bool (if side = true then x.1 != s.1 else x.2.1 != s.2.1)) ∧ Below w.heap.size w w' := by
  have HB := Aside0.mk (below_alloc (Below.refl w.heap.size w) (Obj.cells #[.int .i64 x.1, .int .i64 x.2.1, .int .i64 x.2.2] 34))
  have b0 := blk_cell (blk_alloc hb (Obj.cells #[.int .i64 x.1, .int .i64 x.2.1, .int .i64 x.2.2] 34)) 0
  have c0 := blk_cell (blk_alloc hI (Obj.cells #[.int .i64 x.1, .int .i64 x.2.1, .int .i64 x.2.2] 34)) 0
  have c1 := blk_cell (blk_alloc hI (Obj.cells #[.int .i64 x.1, .int .i64 x.2.1, .int .i64 x.2.2] 34)) 1
  simp only [List.getElem?_toArray, List.getElem?_cons_zero, List.getElem?_cons_succ] at b0 c0 c1
  clear hI hb
  go_enter Try.func98, Try.ntmps98
  cases side
  · by_cases h : x.2.1 = s.2.1
    · have d1 : (x.2.1 != s.2.1) = false := by simpa using h
      have H := Aside0.mk h
      clear h
      go_wp2
      go_ret
      exact ⟨by simp [H.out], HB.out⟩
    · have d1 : (x.2.1 != s.2.1) = true := by simpa using h
      have H := Aside0.mk h
      clear h
      go_wp2
      go_ret
      exact ⟨by simp [H.out], HB.out⟩
  · by_cases h : x.1 = s.1
    · have d1 : (x.1 != s.1) = false := by simpa using h
      have H := Aside0.mk h
      clear h
      go_wp2
      go_ret
      exact ⟨by simp [H.out], HB.out⟩
    · have d1 : (x.1 != s.1) = true := by simpa using h
      have H := Aside0.mk h
      clear h
      go_wp2
      go_ret
      exact ⟨by simp [H.out], HB.out⟩

end Go.Proofs.Ytklomikdihlcgaa
