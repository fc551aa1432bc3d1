/- pupillaw23.sample: the one state that alive writes and reads. -/
import Derived.Test.YtmiljlbbacbbpaaRdA
namespace Go.Proofs.Ytmiljlbbacbbpaa
open Go.RowKit PBase
open Go.Proofs.YtmiljlbbacbbpaaW.PrintWords Go.Proofs.YtmiljlbbacbbpaaW.PrintLast Go.Proofs.YtmiljlbbacbbpaaW.PrintMore
set_option linter.unusedVariables false
set_option linter.unusedSimpArgs false

/-- a block that was laid as a literal is a row -/
theorem R_lit {α : Type} {d : Kd α} {e g base : Nat} {ok : Nat → Prop} {W : World} {cs : Array Value} {xs : List α} (hI : IsB W g cs e) (hb : base ≤ g) (hok : ok g) (hlen : cs.size = xs.length * d.sz) (hm : xs.length ≤ maxLen)
    (h : ∀ j x, xs[j]? = some x → d.M W base (fun k => ok k ∧ some k ≠ some g) x ((cs.toList.drop (j * d.sz)).take d.sz)) : d.R e W base ok (.slice (some ⟨g, 0, none⟩) xs.length xs.length) xs := by
  refine ⟨fun k hk => ?_, cs.toList, ⟨by simpa using hlen, .inr ⟨g, xs.length, cs, rfl, hb, hI, Nat.le_refl _, hm, hlen, ?_⟩⟩, by simpa using hlen, fun j p hj => ?_⟩
  · have : g = k := by simpa [Value.ownBlock] using hk
    exact this ▸ hok
  · rw [List.take_of_length_le (by rw [Array.length_toList]; omega)]
  · exact d.M_mono (fun k hk => ⟨hk.1, by simpa [Value.ownBlock] using hk.2⟩) (h j p hj)
theorem R_ints {g base : Nat} {ok : Nat → Prop} {W : World} {xs : List Int} (hI : IsB W g (xs.map (Value.int .i64)).toArray 3) (hb : base ≤ g) (hok : ok g) (hm : xs.length ≤ maxLen) : (Kd.int .i64).R 3 W base ok (.slice (some ⟨g, 0, none⟩) xs.length xs.length) xs := by
  have hsz : (Kd.int .i64).sz = 1 := rfl
  refine R_lit hI hb hok (by rw [hsz]; simp) hm (fun j x hj => ?_)
  obtain ⟨h1, h2⟩ := List.getElem?_eq_some_iff.1 hj
  have h3 : ((xs.map (Value.int .i64)).drop j).take 1 = [.int .i64 x] := by
    rw [List.drop_eq_getElem_cons (by rw [List.length_map]; exact h1), List.take_succ_cons, List.take_zero, List.getElem_map, h2]
  rw [hsz, Nat.mul_one]
  show _ = _
  simpa using h3

abbrev one : S56 := ⟨1, 2, 64, [4607182418800017408, -9223372036854775808]⟩
abbrev two : S56 := ⟨1, 1, 32, [1065353216]⟩

theorem sample_rows {W : World} {h : Nat} {b : Nat} (hb : b ≤ h) (h1 : IsB W (h + 1) #[.int .i64 4607182418800017408, .int .i64 (-9223372036854775808)] 3) (h3 : IsB W (h + 3) #[.int .i64 1065353216] 3)
    (h5 : IsB W (h + 5) #[.int .i64 1, .int .i64 2, .int .i64 64, .slice (some ⟨h + 1, 0, none⟩) 2 2, .int .i64 1, .int .i64 1, .int .i64 32, .slice (some ⟨h + 3, 0, none⟩) 1 1] 56)
    (h6 : IsB W (h + 6) #[.int .i64 1, .int .i64 2, .int .i64 64, .slice (some ⟨h + 1, 0, none⟩) 2 2] 56)
    (h7 : IsB W (h + 7) #[.slice (some ⟨h + 6, 0, none⟩) 1 1, .slice none 0 0] 22) :
    Kd.S k56 56 W b (fun _ => True) (.slice (some ⟨h + 5, 0, none⟩) 2 2) [one, two] ∧ Kd.R (Kd.slice 56 k56) 22 W b (fun k_ => some k_ ≠ (Value.slice (some ⟨h + 5, 0, none⟩) 2 2).ownBlock) (.slice (some ⟨h + 7, 0, none⟩) 2 2) [[one], []] := by
  refine ⟨⟨fun k => if k = h + 1 then 0 else 1, R_lit (xs := [(one, 0), (two, 1)]) h5 (by omega) trivial rfl (by simp [maxLen]) ?_⟩, R_lit (xs := [[one], []]) h7 (by omega) (by simp [Value.ownBlock]) rfl (by simp [maxLen]) ?_⟩
  · intro j x hj
    match j, hj with
    | 0, hj =>
      obtain rfl : (one, 0) = x := by simpa using hj
      refine k56_mkM W b _ one (v3 := .slice (some ⟨h + 1, 0, none⟩) 2 2) ?_
      exact R_ints (xs := [4607182418800017408, -9223372036854775808]) h1 (by omega) ⟨⟨trivial, by simp⟩, by simp⟩ (by simp [maxLen])
    | 1, hj =>
      obtain rfl : (two, 1) = x := by simpa using hj
      refine k56_mkM W b _ two (v3 := .slice (some ⟨h + 3, 0, none⟩) 1 1) ?_
      exact R_ints (xs := [1065353216]) h3 (by omega) ⟨⟨trivial, by simp⟩, by simp⟩ (by simp [maxLen])
    | j + 2, hj => simp at hj
  · intro j x hj
    match j, hj with
    | 0, hj =>
      obtain rfl : [one] = x := by simpa using hj
      refine ⟨.slice (some ⟨h + 6, 0, none⟩) 1 1, rfl, R_lit (xs := [one]) h6 (by omega) ⟨by simp [Value.ownBlock], by simp⟩ rfl (by simp [maxLen]) ?_⟩
      intro j x hj
      match j, hj with
      | 0, hj =>
        obtain rfl : one = x := by simpa using hj
        refine k56_mkM W b _ one (v3 := .slice (some ⟨h + 1, 0, none⟩) 2 2) ?_
        exact R_ints (xs := [4607182418800017408, -9223372036854775808]) h1 (by omega) ⟨⟨by simp [Value.ownBlock], by simp⟩, by simp⟩ (by simp [maxLen])
      | j + 1, hj => simp at hj
    | 1, hj =>
      obtain rfl : [] = x := by simpa using hj
      exact ⟨.slice none 0 0, rfl, Kd.R_nil _ _ _ _ _⟩
    | j + 2, hj => simp at hj

set_option maxHeartbeats 4000000 in
set_option maxRecDepth 100000 in
theorem sample_calls (w : World) :
    Calls Try.prog 22 #[] w fun e w' => ∃ v3_ v4_ : Value, e = .returned (.agg #[.int .i64 7, .int .i64 2, .int .i64 1, v3_, v4_, .int .i64 5, .int .i64 (-9)]) ∧ Kd.S k56 56 w' w.heap.size (fun _ => True) v3_ [one, two] ∧ Kd.R (Kd.slice 56 k56) 22 w' w.heap.size (fun k_ => some k_ ≠ (v3_ : Value).ownBlock) v4_ [[one], []] ∧ Below w.heap.size w w' := by
  go_enter Try.func22, Try.ntmps22
  go_wp2
  obtain ⟨h, hh⟩ : ∃ h, h = w.heap.size := ⟨_, rfl⟩
  simp only [← hh, Nat.add_assoc, Nat.reduceAdd]
  let o0 := Obj.cells #[Value.int .i64 7, .int .i64 2, .int .i64 1, .slice (some ⟨h + 5, 0, none⟩) 2 2, .slice (some ⟨h + 7, 0, none⟩) 2 2, .int .i64 5, .int .i64 (-9)] 25
  let o1 := Obj.cells #[Value.int .i64 4607182418800017408, .int .i64 (-9223372036854775808)] 3
  let o2 := Obj.cells #[Value.int .i64 1, .int .i64 2, .int .i64 64, .slice (some ⟨h + 1, 0, none⟩) 2 2] 56
  let o3 := Obj.cells #[Value.int .i64 1065353216] 3
  let o4 := Obj.cells #[Value.int .i64 1, .int .i64 1, .int .i64 32, .slice (some ⟨h + 3, 0, none⟩) 1 1] 56
  let o5 := Obj.cells #[Value.int .i64 1, .int .i64 2, .int .i64 64, .slice (some ⟨h + 1, 0, none⟩) 2 2, .int .i64 1, .int .i64 1, .int .i64 32, .slice (some ⟨h + 3, 0, none⟩) 1 1] 56
  let o6 := Obj.cells #[Value.int .i64 1, .int .i64 2, .int .i64 64, .slice (some ⟨h + 1, 0, none⟩) 2 2] 56
  let o7 := Obj.cells #[Value.slice (some ⟨h + 6, 0, none⟩) 1 1, .slice none 0 0] 22
  have hB : Below h w ((((((((w.alloc o0).alloc o1).alloc o2).alloc o3).alloc o4).alloc o5).alloc o6).alloc o7) := by
    have b0 : Below h w (w.alloc o0) := (Below.refl h w).alloc (by omega) o0
    have b1 := b0.alloc (by rw [World.size_alloc]; omega) o1
    have b2 := b1.alloc (by simp only [World.size_alloc]; omega) o2
    have b3 := b2.alloc (by simp only [World.size_alloc]; omega) o3
    have b4 := b3.alloc (by simp only [World.size_alloc]; omega) o4
    have b5 := b4.alloc (by simp only [World.size_alloc]; omega) o5
    have b6 := b5.alloc (by simp only [World.size_alloc]; omega) o6
    exact b6.alloc (by simp only [World.size_alloc]; omega) o7
  have i0 : IsB ((((((((w.alloc o0).alloc o1).alloc o2).alloc o3).alloc o4).alloc o5).alloc o6).alloc o7) h #[Value.int .i64 7, .int .i64 2, .int .i64 1, .slice (some ⟨h + 5, 0, none⟩) 2 2, .slice (some ⟨h + 7, 0, none⟩) 2 2, .int .i64 5, .int .i64 (-9)] 25 := blk_alloc (blk_alloc (blk_alloc (blk_alloc (blk_alloc (blk_alloc (blk_alloc (by have h9 := blk_new w o0; rw [← hh] at h9; exact h9) o1) o2) o3) o4) o5) o6) o7
  have i1 : IsB ((((((((w.alloc o0).alloc o1).alloc o2).alloc o3).alloc o4).alloc o5).alloc o6).alloc o7) (h + 1) #[Value.int .i64 4607182418800017408, .int .i64 (-9223372036854775808)] 3 := blk_alloc (blk_alloc (blk_alloc (blk_alloc (blk_alloc (blk_alloc ((show (w.alloc o0).heap.size = h + 1 by rw [World.size_alloc, hh]) ▸ blk_new (w.alloc o0) o1) o2) o3) o4) o5) o6) o7
  have i3 : IsB ((((((((w.alloc o0).alloc o1).alloc o2).alloc o3).alloc o4).alloc o5).alloc o6).alloc o7) (h + 3) #[Value.int .i64 1065353216] 3 := blk_alloc (blk_alloc (blk_alloc (blk_alloc ((show (((w.alloc o0).alloc o1).alloc o2).heap.size = h + 3 by simp only [World.size_alloc, hh]) ▸ blk_new (((w.alloc o0).alloc o1).alloc o2) o3) o4) o5) o6) o7
  have i5 : IsB ((((((((w.alloc o0).alloc o1).alloc o2).alloc o3).alloc o4).alloc o5).alloc o6).alloc o7) (h + 5) #[Value.int .i64 1, .int .i64 2, .int .i64 64, .slice (some ⟨h + 1, 0, none⟩) 2 2, .int .i64 1, .int .i64 1, .int .i64 32, .slice (some ⟨h + 3, 0, none⟩) 1 1] 56 := blk_alloc (blk_alloc ((show (((((w.alloc o0).alloc o1).alloc o2).alloc o3).alloc o4).heap.size = h + 5 by simp only [World.size_alloc, hh]) ▸ blk_new (((((w.alloc o0).alloc o1).alloc o2).alloc o3).alloc o4) o5) o6) o7
  have i6 : IsB ((((((((w.alloc o0).alloc o1).alloc o2).alloc o3).alloc o4).alloc o5).alloc o6).alloc o7) (h + 6) #[Value.int .i64 1, .int .i64 2, .int .i64 64, .slice (some ⟨h + 1, 0, none⟩) 2 2] 56 := blk_alloc ((show ((((((w.alloc o0).alloc o1).alloc o2).alloc o3).alloc o4).alloc o5).heap.size = h + 6 by simp only [World.size_alloc, hh]) ▸ blk_new ((((((w.alloc o0).alloc o1).alloc o2).alloc o3).alloc o4).alloc o5) o6) o7
  have i7 : IsB ((((((((w.alloc o0).alloc o1).alloc o2).alloc o3).alloc o4).alloc o5).alloc o6).alloc o7) (h + 7) #[Value.slice (some ⟨h + 6, 0, none⟩) 1 1, .slice none 0 0] 22 := ((show (((((((w.alloc o0).alloc o1).alloc o2).alloc o3).alloc o4).alloc o5).alloc o6).heap.size = h + 7 by simp only [World.size_alloc, hh]) ▸ blk_new (((((((w.alloc o0).alloc o1).alloc o2).alloc o3).alloc o4).alloc o5).alloc o6) o7)
  have hR := sample_rows (Nat.le_refl h) i1 i3 i5 i6 i7
  refine bodyPost_ret (results_cell_row rfl _ _ h 25 #[.int .i64 7, .int .i64 2, .int .i64 1, .slice (some ⟨h + 5, 0, none⟩) 2 2, .slice (some ⟨h + 7, 0, none⟩) 2 2, .int .i64 5, .int .i64 (-9)] (0, 0) _ rfl i0 Try.underlying25 rfl (by kernel_rfl)) rfl ?_
  exact ⟨_, _, rfl, hR.1, hR.2, hB⟩
end Go.Proofs.Ytmiljlbbacbbpaa
namespace Go.Proofs.Ytmiljlbbacbbpaa.PBase
open Go.RowKit Go.Proofs.YtmiljlbbacbbpaaW.PrintWords Go.Proofs.YtmiljlbbacbbpaaW.PrintLast Go.Proofs.YtmiljlbbacbbpaaW.PrintMore
def pupillaw23_sample.f : Option (Int × Int × Int × (List (S56)) × (List (List (S56))) × Int × Int) := some (7, 2, 1, [one, two], [[one], []], 5, -9)
theorem pupillaw23_sample.calls  (r1 : Int) (r2 : Int) (r3 : Int) (r4 : List (S56)) (r5 : List (List (S56))) (r6 : Int) (r7 : Int) (w : World) (h : pupillaw23_sample.f  = some (r1, r2, r3, r4, r5, r6, r7)) :
    Calls Try.prog 22 #[] w fun e w' => ∃ v3_ v4_ : Value, e = .returned (.agg #[.int .i64 r1, .int .i64 r2, .int .i64 r3, v3_, v4_, .int .i64 r6, .int .i64 r7]) ∧ Kd.S k56 56 w' w.heap.size (fun _ => True) v3_ r4 ∧ Kd.R (Kd.slice 56 k56) 22 w' w.heap.size (fun k_ => some k_ ≠ (v3_ : Value).ownBlock) v4_ r5 ∧ Below w.heap.size w w' := by
  simp only [pupillaw23_sample.f, Option.some.injEq, Prod.mk.injEq] at h
  obtain ⟨rfl, rfl, rfl, rfl, rfl, rfl, rfl⟩ := h
  exact sample_calls w
end Go.Proofs.Ytmiljlbbacbbpaa.PBase
