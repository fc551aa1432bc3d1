/- The walk of the document's Shuffle: what it comes to in the plain numbers of Draw. -/
import Derived.Test.YtpobladocccnmaaRef
import Derived.Outline
namespace Go.Proofs.Ytpobladocccnmaa
open Go.RowKit Mix PBase
open Go.Proofs.YtpobladocccnmaaW.PrintWords Go.Proofs.YtpobladocccnmaaW.PrintLast Go.Proofs.YtpobladocccnmaaW.PrintMore
set_option linter.unusedVariables false
set_option linter.unusedSimpArgs false

/-- a row of whole numbers of the call's own -/
abbrev OwnInts (w W : World) (v : Value) (xs : List Int) : Prop := Kd.R (Kd.int .i64) 3 W w.heap.size (fun _ => True) v xs

theorem OwnInts.own {w W : World} {v : Value} {xs : List Int} (h : OwnInts w W v xs) : W.ownsRow w.heap.size 3 1 v xs.length (nums .i64 xs) := Kd.own_of_R h
theorem OwnInts.of {w W : World} {v : Value} {xs : List Int} (h : W.ownsRow w.heap.size 3 1 v xs.length (nums .i64 xs)) : OwnInts w W v xs := Kd.R_of_own h (fun _ _ => trivial)
theorem OwnInts.cell {w W : World} {g n cap : Nat} {xs : List Int} (h : OwnInts w W (.slice (some ⟨g, 0, none⟩) n cap) xs) (hn : n = xs.length) (i : Nat) (hi : i < xs.length) :
    W.cell? ⟨g, i, none⟩ = some (.int .i64 (xs.getD i 0)) ∧ W.frozen? ⟨g, i, none⟩ = false := by
  subst hn
  have h1 := own_at h.own (i : Int) (by omega) (by omega)
  simpa [rd] using h1
theorem OwnInts.set {w W : World} {g n cap : Nat} {xs : List Int} (h : OwnInts w W (.slice (some ⟨g, 0, none⟩) n cap) xs) (hn : n = xs.length) (i : Nat) (x : Int) :
    OwnInts w (W.setCell ⟨g, i, none⟩ (.int .i64 x)) (.slice (some ⟨g, 0, none⟩) n cap) (xs.set i x) := by
  subst hn
  have h1 := (own_store h.own (i : Int) x).1
  simp only [Int.toNat_natCast] at h1
  refine OwnInts.of ?_
  rw [List.length_set]
  exact h1

theorem OwnInts.form {w W : World} {v : Value} {xs : List Int} (h : OwnInts w W v xs) (hn : 0 < xs.length) : ∃ g cap, v = .slice (some ⟨g, 0, none⟩) xs.length cap := by
  rcases h.own.2 with ⟨_, h0⟩ | ⟨g, cap, _, hv, _⟩
  · omega
  · exact ⟨g, cap, hv⟩

theorem OwnInts.ge {w W : World} {g n cap : Nat} {xs : List Int} (h : OwnInts w W (.slice (some ⟨g, 0, none⟩) n cap) xs) : w.heap.size ≤ g :=
  own_base h.own g (by simp [Value.ownBlock])

set_option maxHeartbeats 1000000 in
set_option maxRecDepth 100000 in
theorem refShuffle_calls (s t a : Int) (n : Nat) (w : World) (hn : n ≤ 65536) :
    Calls Try.prog 30 #[.agg #[.int .i64 s, .int .i64 t, .int .i64 a], .int .i64 n] w fun e w' => ∃ v, e = .returned (.tuple #[v, .agg #[.int .i64 s, .int .i64 t, .int .i64 (shuf s t a n).2]]) ∧ OwnInts w w' v (shuf s t a n).1 ∧ Below w.heap.size w w' := by
  go_enter Try.func30, Try.ntmps30
  go_wp2
  have G1 : Aside0 (IsS23 w ((w.alloc (Obj.cells #[Value.int IntKind.i64 s, Value.int IntKind.i64 t, Value.int IntKind.i64 a] 23)).alloc (Obj.cells #[Value.int IntKind.i64 0, Value.int IntKind.i64 0, Value.int IntKind.i64 0] 23)) w.heap.size s t a) := ⟨(IsS23.new w w s t a (Below.refl _ _)).alloc _⟩
  have G2 : Aside0 (IsS23 w ((w.alloc (Obj.cells #[Value.int IntKind.i64 s, Value.int IntKind.i64 t, Value.int IntKind.i64 a] 23)).alloc (Obj.cells #[Value.int IntKind.i64 0, Value.int IntKind.i64 0, Value.int IntKind.i64 0] 23)) (w.heap.size + 1) 0 0 0) := ⟨by have h := IsS23.new w (w.alloc (Obj.cells #[Value.int IntKind.i64 s, Value.int IntKind.i64 t, Value.int IntKind.i64 a] 23)) 0 0 0 ((Below.refl _ _).alloc (Nat.le_refl _) _); simp only [World.size_alloc] at h; exact h⟩
  have HB : Aside0 (Below w.heap.size w ((w.alloc (Obj.cells #[Value.int IntKind.i64 s, Value.int IntKind.i64 t, Value.int IntKind.i64 a] 23)).alloc (Obj.cells #[Value.int IntKind.i64 0, Value.int IntKind.i64 0, Value.int IntKind.i64 0] 23))) := ⟨((Below.refl _ _).alloc (Nat.le_refl _) _).alloc (by simp) _⟩
  generalize ((w.alloc (Obj.cells #[Value.int IntKind.i64 s, Value.int IntKind.i64 t, Value.int IntKind.i64 a] 23)).alloc (Obj.cells #[Value.int IntKind.i64 0, Value.int IntKind.i64 0, Value.int IntKind.i64 0] 23)) = w1 at G1 G2 HB ⊢
  go_loopg [6, 7] n (fun kq v6 v7 w' => ∃ j : Nat, v7 = .int .i64 j ∧ Aside0 (j + kq = n) ∧ Aside0 (OwnInts w w' v6 (upTo j)) ∧ Aside0 (IsS23 w w' w.heap.size s t a) ∧ Aside0 (IsS23 w w' (w.heap.size + 1) 0 0 0) ∧ Aside0 (Below w.heap.size w w'))
  case atStart => exact ⟨0, rfl, ⟨by omega⟩, ⟨Kd.R_nil _ _ _ _ _⟩, G1, G2, HB⟩
  case round =>
    clear G1 G2 HB
    obtain ⟨j, rfl, HJ, HR, G1, G2, HB⟩ := hrel
    by_cases hlt : j < n
    · have d1 : decide ((j : Int) < (n : Int)) = true := decide_eq_true (by omega)
      go_wp2_with ((with_reducible refine gate_builtin (b := .append) (xs := #[.tmp 17, .tmp 19]) rfl ?_); at_builtin; refine Kd.R_append (Kd.int .i64) (w0 := w) w.heap.size rfl (.tmp 17) (.tmp 19) 45 3 (.int .i64 0) 8 rfl Try.underlying45 info3 rfl (by decide) (by omega) u6 (upTo j) (j : Int) [.int .i64 (j : Int)] (fun _ => True) (fun _ => False) rfl rfl ?aP (fun _ hk => hk.elim) ?aF ?aO ?aB ?aS ?aL ?_; (case aP => exact rfl); (case aB => exact HB.out); (case aF => exact (fun _ _ => trivial)); (case aO => exact HR.out); (case aS => exact below_size HB.out); (case aL => rw [upTo_length]; omega); intro v9 w7 ho hb hg hat; have hb1 := hg; have HR2 : Aside0 (OwnInts w w7 v9 (upTo (j + 1))) := ⟨by rw [upTo_succ]; exact ho⟩; have HG1 := Aside0.mk (G1.out.grown hg (Kd.R_ne HR.out G1.out.1 (by decide))); have HG2 := Aside0.mk (G2.out.grown hg (Kd.R_ne HR.out G2.out.1 (by decide))); have HB2 := Aside0.mk hb; clear ho hb hg hat hb1 HR G1 G2 HB)
      go_roundg (gk - 1)
      case measure => have := HJ.out; omega
      case rel => exact ⟨j + 1, by go_num, ⟨by have := HJ.out; omega⟩, HR2, HG1, HG2, HB2⟩
    · have d1 : decide ((j : Int) < (n : Int)) = false := decide_eq_false (by omega)
      have hj : j = n := by have := HJ.out; omega
      clear HJ
      subst hj
      clear hlt
      obtain ⟨m, hm⟩ : ∃ m : Nat, m = j - 1 := ⟨_, rfl⟩
      have hstart : shufGo s t m (upTo j) a = shuf s t a j := by rw [shuf, hm]
      have Hfin := Aside0.mk hstart
      have Hm := Aside0.mk hm
      clear hstart hm
      rcases Nat.eq_zero_or_pos j with h0 | h0
      · subst h0
        go_wp2
        have hm0 : m = 0 := by have := Hm.out; omega
        have hF : shuf s t a 0 = ([], a) := by rw [← Hfin.out, hm0]; rfl
        have HF := Aside0.mk hF
        clear hF hm0 Hfin Hm
        have HR0 : Aside0 (OwnInts w wr u6 []) := ⟨HR.out⟩
        clear HR
        go_loopg [8] 0 (fun kq v8 w' => v8 = .int .i64 (-1) ∧ Aside0 (OwnInts w w' u6 []) ∧ Aside0 (IsS23 w w' w.heap.size s t a) ∧ Aside0 (IsS23 w w' (w.heap.size + 1) 0 0 0) ∧ Aside0 (Below w.heap.size w w'))
        case atStart => exact ⟨rfl, HR0, G1, G2, HB⟩
        case round =>
          clear HR0 G1 G2 HB
          obtain ⟨rfl, HR, G1, G2, HB⟩ := hrel
          obtain ⟨hI0, _⟩ := G1.out
          have c0 := cellS23_0 hI0
          have c1 := cellS23_1 hI0
          have c2 := cellS23_2 hI0
          obtain ⟨hI1, _⟩ := G2.out
          have e0 := cellS23_0 hI1
          have e1 := cellS23_1 hI1
          have e2 := cellS23_2 hI1
          have f0 := blk_frozen hI1 0
          have f1 := blk_frozen hI1 1
          have f2 := blk_frozen hI1 2
          clear hI0 hI1
          go_wp2
          refine start_ (n := 4) (S := fun w' => w'.cell? ⟨w.heap.size, 0, none⟩ = some (.int .i64 s) ∧ w'.cell? ⟨w.heap.size, 1, none⟩ = some (.int .i64 t) ∧ w'.cell? ⟨w.heap.size, 2, none⟩ = some (.int .i64 a)) (ds := [3]) #[false, false, false, false] (by kernel_rfl) rfl rfl ⟨c0, c1, c2⟩ (fun hHeld => ?_)
          refine pure_ (i := 0) (N := some 50) (v := ?_) (a' := ?_) #[true, false, false, false] rfl rfl (by kernel_rfl) (fun _ _ _ h => h) (Or.inl ⟨by rfl, ?_⟩) ?_ ?_
          rotate_left
          · intro w'
            go_simp
            with_reducible rfl
          rotate_left
          · simp only [Act.put, List.setIfInBounds_toArray, List.set_cons_zero, List.set_cons_succ, i64_w, i32_w]
            rfl
          refine pure_ (i := 2) (N := some 4) (v := ?_) (a' := ?_) #[true, false, true, false] rfl rfl (by kernel_rfl) (fun _ _ _ h => h) (Or.inl ⟨by rfl, ?_⟩) ?_ ?_
          rotate_left
          · intro w'
            go_simp
            with_reducible rfl
          rotate_left
          · simp only [Act.put, List.setIfInBounds_toArray, List.set_cons_zero, List.set_cons_succ, i64_w, i32_w]
            rfl
          refine take_ (i := 1) (N := some 51) (v := ?_) (a' := ?_) #[true, true, true, false] rfl rfl (by kernel_rfl) (fun _ _ _ h => h) (Or.inl ⟨by rfl, ?_⟩) hHeld ?_ ?_
          rotate_left
          · rintro w' ⟨s0, s1, s2⟩
            go_simp
            with_reducible rfl
          rotate_left
          · simp only [Act.put, List.setIfInBounds_toArray, List.set_cons_zero, List.set_cons_succ, i64_w, i32_w]
            rfl
          refine last_ (i := 3) (N := none) #[true, true, true, true] rfl rfl (by kernel_rfl) (by decide) (fun K hK => ?_)
          refine skip_ (w1 := ?_) (by rfl) rfl ?_ ?_
          rotate_left
          · go_simp
            rfl
          refine hK.out _ _ ?_
          clear hK K
          refine done_ (by kernel_rfl) ?_
          go_wp2
          refine bodyPost_ret (v := .tuple #[u6, .agg #[.int .i64 s, .int .i64 t, .int .i64 a]]) (by simp [results, Try.results30, go_sem, e0, e1, e2]) rfl ?_
          rw [HF.out]
          have hne : some (w.heap.size + 1) ≠ u6.ownBlock := Kd.R_ne HR.out G2.out.1 (by decide)
          exact ⟨u6, rfl, Kd.R_drew (Kd.R_set (Kd.R_set (Kd.R_set HR.out G2.out.1 (by decide) _ _) (blk_set G2.out.1 _ _) (by decide) _ _) (blk_set (blk_set G2.out.1 _ _) _ _) (by decide) _ _), Below.drew (below_set (below_set (below_set HB.out (by omega)) (by omega)) (by omega))⟩
      · obtain ⟨g, cap, rfl⟩ := OwnInts.form HR.out (by rw [upTo_length]; exact h0)
        rw [upTo_length] at HR ⊢
        go_wp2
        go_loopg [8] m (fun kq v8 w' => ∃ (l : List Int) (a' : Int), v8 = .int .i64 kq ∧ Aside0 (kq < j) ∧ Aside0 (l.length = j) ∧ Aside0 (shufGo s t kq l a' = shuf s t a j) ∧ Aside0 (OwnInts w w' (.slice (some ⟨g, 0, none⟩) j cap) l) ∧ Aside0 (IsS23 w w' w.heap.size s t a') ∧ Aside0 (IsS23 w w' (w.heap.size + 1) 0 0 0) ∧ Aside0 (Below w.heap.size w w'))
        case atStart => exact ⟨upTo j, a, by have := Hm.out; rw [show (m : Int) = (j : Int) - 1 by omega], ⟨by have := Hm.out; omega⟩, ⟨upTo_length j⟩, Hfin, HR, G1, G2, HB⟩
        case round =>
          clear HR G1 G2 HB Hfin
          obtain ⟨l, a', rfl, HK, HLen, HF, HR, G1, G2, HB⟩ := hrel
          cases gk with
          | zero =>
            obtain ⟨hI0, _⟩ := G1.out
            have c0 := cellS23_0 hI0
            have c1 := cellS23_1 hI0
            have c2 := cellS23_2 hI0
            obtain ⟨hI1, _⟩ := G2.out
            have e0 := cellS23_0 hI1
            have e1 := cellS23_1 hI1
            have e2 := cellS23_2 hI1
            have f0 := blk_frozen hI1 0
            have f1 := blk_frozen hI1 1
            have f2 := blk_frozen hI1 2
            clear hI0 hI1
            go_wp2
            refine start_ (n := 4) (S := fun w' => w'.cell? ⟨w.heap.size, 0, none⟩ = some (.int .i64 s) ∧ w'.cell? ⟨w.heap.size, 1, none⟩ = some (.int .i64 t) ∧ w'.cell? ⟨w.heap.size, 2, none⟩ = some (.int .i64 a')) (ds := [3]) #[false, false, false, false] (by kernel_rfl) rfl rfl ⟨c0, c1, c2⟩ (fun hHeld => ?_)
            refine pure_ (i := 0) (N := some 50) (v := ?_) (a' := ?_) #[true, false, false, false] rfl rfl (by kernel_rfl) (fun _ _ _ h => h) (Or.inl ⟨by rfl, ?_⟩) ?_ ?_
            rotate_left
            · intro w'
              go_simp
              with_reducible rfl
            rotate_left
            · simp only [Act.put, List.setIfInBounds_toArray, List.set_cons_zero, List.set_cons_succ, i64_w, i32_w]
              rfl
            refine pure_ (i := 2) (N := some 4) (v := ?_) (a' := ?_) #[true, false, true, false] rfl rfl (by kernel_rfl) (fun _ _ _ h => h) (Or.inl ⟨by rfl, ?_⟩) ?_ ?_
            rotate_left
            · intro w'
              go_simp
              with_reducible rfl
            rotate_left
            · simp only [Act.put, List.setIfInBounds_toArray, List.set_cons_zero, List.set_cons_succ, i64_w, i32_w]
              rfl
            refine take_ (i := 1) (N := some 51) (v := ?_) (a' := ?_) #[true, true, true, false] rfl rfl (by kernel_rfl) (fun _ _ _ h => h) (Or.inl ⟨by rfl, ?_⟩) hHeld ?_ ?_
            rotate_left
            · rintro w' ⟨s0, s1, s2⟩
              go_simp
              with_reducible rfl
            rotate_left
            · simp only [Act.put, List.setIfInBounds_toArray, List.set_cons_zero, List.set_cons_succ, i64_w, i32_w]
              rfl
            refine last_ (i := 3) (N := none) #[true, true, true, true] rfl rfl (by kernel_rfl) (by decide) (fun K hK => ?_)
            refine skip_ (w1 := ?_) (by rfl) rfl ?_ ?_
            rotate_left
            · go_simp
              rfl
            refine hK.out _ _ ?_
            clear hK K
            refine done_ (by kernel_rfl) ?_
            go_wp2
            refine bodyPost_ret (v := .tuple #[.slice (some ⟨g, 0, none⟩) j cap, .agg #[.int .i64 s, .int .i64 t, .int .i64 a']]) (by simp [results, Try.results30, go_sem, e0, e1, e2]) rfl ?_
            have hF := HF.out
            simp only [shufGo] at hF
            rw [← hF]
            exact ⟨.slice (some ⟨g, 0, none⟩) j cap, rfl, Kd.R_drew (Kd.R_set (Kd.R_set (Kd.R_set HR.out G2.out.1 (by decide) _ _) (blk_set G2.out.1 _ _) (by decide) _ _) (blk_set (blk_set G2.out.1 _ _) _ _) (by decide) _ _), Below.drew (below_set (below_set (below_set HB.out (by omega)) (by omega)) (by omega))⟩
          | succ i =>
            have hi2 : i + 2 ≤ 65536 := by have := HK.out; omega
            obtain ⟨hI0, _⟩ := G1.out
            have c0 := cellS23_0 hI0
            have c1 := cellS23_1 hI0
            have c2 := cellS23_2 hI0
            clear hI0
            go_wp2_with fail
            rw [show (i : Int) + 1 + 1 = ((i + 2 : Nat) : Int) from by omega]
            refine (refBelow_calls s t a' (i + 2) _ (by omega) (by omega)).mono ?_
            rintro e w2 ⟨rfl, hb⟩
            have hv := belowV_lt s t a' (n := i + 2) (by omega)
            have hF := HF.out
            rw [shufGo] at hF
            generalize belowV s t a' (i + 2) = v at hv hF ⊢
            generalize belowA s t a' (i + 2) = a2 at hF ⊢
            have HF2 := Aside0.mk hF
            have HR2 := Aside0.mk (Kd.R_below HR.out hb)
            have HG1 := Aside0.mk (G1.out.below hb)
            have HG2 := Aside0.mk (G2.out.below hb)
            have HB2 := Aside0.mk (below_step HB.out hb)
            clear hF hb HR G1 G2 HB HF c0 c1 c2
            have hlt : w.heap.size < w2.heap.size := HG1.out.lt
            have hlen : l.length = j := HLen.out
            have hij : i + 1 < l.length := by have := HK.out; omega
            have hvl : v < l.length := by omega
            obtain ⟨ci, fi⟩ := OwnInts.cell HR2.out hlen.symm (i + 1) hij
            obtain ⟨cv, fv⟩ := OwnInts.cell HR2.out hlen.symm v hvl
            have hgn : ¬ g = w.heap.size := by have := Kd.R_ne HR2.out HG1.out.1 (by decide); simpa [Value.ownBlock, eq_comm] using this
            have hgn1 : ¬ g = w.heap.size + 1 := by have := Kd.R_ne HR2.out HG2.out.1 (by decide); simpa [Value.ownBlock, eq_comm] using this
            have hgl : g < w2.heap.size := World.block_lt_of_cell? w2 _ ci
            obtain ⟨hI0, _⟩ := HG1.out
            have c0 := cellS23_0 hI0
            have c1 := cellS23_1 hI0
            have c2 := cellS23_2 hI0
            have f0 := blk_frozen hI0 0
            have f1 := blk_frozen hI0 1
            have f2 := blk_frozen hI0 2
            clear hI0
            have hij2 : (i : Int) + 1 < (j : Int) := by omega
            have hvj : (v : Int) < (j : Int) := by omega
            have h0i : (0 : Int) ≤ (i : Int) + 1 := by omega
            have HSw : Aside0 (swapL l (i + 1) v = (l.set (i + 1) (l.getD v 0)).set v (l.getD (i + 1) 0)) := ⟨rfl⟩
            have HLn := Aside0.mk hlen
            clear hij hvl hlen hv
            by_cases hvi : v = i + 1
            · as_aux_lemma =>
                subst hvi
                have HSw2 : Aside0 (swapL l (i + 1) (i + 1) = (l.set (i + 1) (l.getD (i + 1) 0)).set (i + 1) (l.getD (i + 1) 0)) := HSw
                clear HSw
                generalize l.getD (i + 1) 0 = xi at ci cv HSw2
                go_wp2
                go_roundg i
                case measure => omega
                case rel => exact ⟨swapL l (i + 1) (i + 1), a2, rfl, ⟨by have := HK.out; omega⟩, ⟨by rw [swapL_length]; exact HLn.out⟩, HF2, ⟨by rw [HSw2.out]; exact Kd.R_alloc (OwnInts.set (OwnInts.set (Kd.R_set (Kd.R_set (Kd.R_set HR2.out HG1.out.1 (by decide) 0 (.int .i64 s)) (blk_set HG1.out.1 _ _) (by decide) 1 (.int .i64 t)) (blk_set (blk_set HG1.out.1 _ _) _ _) (by decide) 2 (.int .i64 a2)) HLn.out.symm (i + 1) xi) (by rw [List.length_set]; exact HLn.out.symm) (i + 1) xi) _⟩, ⟨((((((HG1.out.set_0 s).set_1 t).set_2 a2).far (p := ⟨g, i + 1, none⟩) (Ne.symm hgn) _).far (p := ⟨g, i + 1, none⟩) (Ne.symm hgn) _).alloc _)⟩, ⟨((((((HG2.out.far (p := ⟨w.heap.size, 0, none⟩) (Nat.succ_ne_self _) _).far (p := ⟨w.heap.size, 1, none⟩) (Nat.succ_ne_self _) _).far (p := ⟨w.heap.size, 2, none⟩) (Nat.succ_ne_self _) _).far (p := ⟨g, i + 1, none⟩) (Ne.symm hgn1) _).far (p := ⟨g, i + 1, none⟩) (Ne.symm hgn1) _).alloc _)⟩, ⟨below_alloc (below_set (below_set (below_set (below_set (below_set HB2.out (Nat.le_refl _)) (Nat.le_refl _)) (Nat.le_refl _)) (OwnInts.ge HR2.out)) (OwnInts.ge HR2.out)) _⟩⟩
            · as_aux_lemma =>
                have hvi2 : ¬ i + 1 = v := fun e => hvi e.symm
                generalize l.getD (i + 1) 0 = xi at ci HSw
                generalize l.getD v 0 = xv at cv HSw
                go_wp2
                go_roundg i
                case measure => omega
                case rel => exact ⟨swapL l (i + 1) v, a2, rfl, ⟨by have := HK.out; omega⟩, ⟨by rw [swapL_length]; exact HLn.out⟩, HF2, ⟨by rw [HSw.out]; exact Kd.R_alloc (OwnInts.set (OwnInts.set (Kd.R_set (Kd.R_set (Kd.R_set HR2.out HG1.out.1 (by decide) 0 (.int .i64 s)) (blk_set HG1.out.1 _ _) (by decide) 1 (.int .i64 t)) (blk_set (blk_set HG1.out.1 _ _) _ _) (by decide) 2 (.int .i64 a2)) HLn.out.symm (i + 1) xv) (by rw [List.length_set]; exact HLn.out.symm) v xi) _⟩, ⟨((((((HG1.out.set_0 s).set_1 t).set_2 a2).far (p := ⟨g, i + 1, none⟩) (Ne.symm hgn) _).far (p := ⟨g, v, none⟩) (Ne.symm hgn) _).alloc _)⟩, ⟨((((((HG2.out.far (p := ⟨w.heap.size, 0, none⟩) (Nat.succ_ne_self _) _).far (p := ⟨w.heap.size, 1, none⟩) (Nat.succ_ne_self _) _).far (p := ⟨w.heap.size, 2, none⟩) (Nat.succ_ne_self _) _).far (p := ⟨g, i + 1, none⟩) (Ne.symm hgn1) _).far (p := ⟨g, v, none⟩) (Ne.symm hgn1) _).alloc _)⟩, ⟨below_alloc (below_set (below_set (below_set (below_set (below_set HB2.out (Nat.le_refl _)) (Nat.le_refl _)) (Nat.le_refl _)) (OwnInts.ge HR2.out)) (OwnInts.ge HR2.out)) _⟩⟩

end Go.Proofs.Ytpobladocccnmaa
