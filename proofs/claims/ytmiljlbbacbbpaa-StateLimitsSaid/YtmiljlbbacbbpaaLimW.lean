/- StateLimits: the law's walk. -/
import Derived.Test.YtmiljlbbacbbpaaLimP
import Derived.Test.YtmiljlbbacbbpaaCutW
import Derived.Test.YtmiljlbbacbbpaaSmp
import Derived.Test.YtmiljlbbacbbpaaChkW
namespace Go.Proofs.Ytmiljlbbacbbpaa
open Go.RowKit PBase
open Go.Proofs.YtmiljlbbacbbpaaW.PrintWords Go.Proofs.YtmiljlbbacbbpaaW.PrintLast Go.Proofs.YtmiljlbbacbbpaaW.PrintMore
set_option linter.unusedVariables false
set_option linter.unusedSimpArgs false

abbrev kG (W0 : World) : Kd S56 := Kd.fixed k56 W0
abbrev cellsL (v3 v4 : Value) : Array Value := #[.int .i64 1099511627776, .int .i64 1099511627776, .int .i64 1099511627776, v3, v4, .int .i64 (-9223372036854775808), .int .i64 9223372036854775807]
abbrev greatC (gz : Nat) (cz : Nat) : Array Value := #[.int .i64 64, .int .i64 64, .int .i64 64, .slice (some ⟨gz, 0, none⟩) 4096 cz]
/-- one element that lies in a block of its own -/
theorem reads_one {α : Type} {R : α → List Value → Prop} {W : World} {g t sz : Nat} {cs : Array Value} {x : α} (h : IsB W g cs t) (hs : cs.size = sz) (hR : R x cs.toList) : ReadsRow R sz W (some ⟨g, 0, none⟩) 1 [x] := by
  refine ⟨rfl, by decide, fun _ => ⟨_, rfl, fun j p hj => ?_⟩⟩
  obtain ⟨rfl, rfl⟩ : j = 0 ∧ p = x := by
    cases j with
    | zero => exact ⟨rfl, by simpa using hj.symm⟩
    | succ j => simp at hj
  refine ⟨cs.toList, by simpa using hs, hR, fun i u hu => ?_⟩
  rw [Nat.zero_mul, Nat.zero_add]
  have hu' : cs[i]? = some u := by simpa using hu
  have h2 := (blk_cell h i).trans hu'
  rw [← h2]
  congr 1
  unfold Addr.add
  split
  · rename_i h0
    subst h0
    rfl
  · simp
abbrev k2G (W0 : World) : Kd (List S56) := Kd.slice 56 (kG W0)
abbrev notOwn (v : Value) : Nat → Prop := fun k => True ∧ some k ≠ v.ownBlock
theorem ne56 {W0 : World} {t : Nat} (ht : 56 ≠ t) : ∀ q, q ∈ 56 :: (kG W0).E → q ≠ t := fun q (hq : q ∈ [56]) => by rw [List.mem_singleton.1 hq]; exact ht
theorem ne22 {W0 : World} {t : Nat} (h1 : 22 ≠ t) (h2 : 56 ≠ t) : ∀ q, q ∈ 22 :: (k2G W0).E → q ≠ t := fun q (hq : q ∈ [22, 56]) => by
  rcases (show q = 22 ∨ q = 56 by simpa using hq) with rfl | rfl
  · exact h1
  · exact h2
structure LimR (W0 wr : World) (g4 : Nat) (l3 : List S56) (l4 : List (List S56)) (v3 v4 : Value) : Prop where
  H4 : IsB wr g4 (cellsL v3 v4) 25
  HV3 : (kG W0).R 56 wr (g4 + 1) (fun _ => True) v3 l3
  HV4 : (k2G W0).R 22 wr (g4 + 1) (notOwn v3) v4 l4
  HB : Below g4 W0 wr
theorem own_lt' {α : Type} {d : Kd α} {e base : Nat} {ok : Nat → Prop} {W : World} {v : Value} {xs : List α} (h : d.R e W base ok v xs) (k : Nat) (hk : v.ownBlock = some k) : k < W.heap.size := by
  obtain ⟨inner, ho⟩ := Kd.R_own h
  exact own_lt ho k hk
theorem LimR.alloc {W0 wr : World} {g4 : Nat} {l3 : List S56} {l4 : List (List S56)} {v3 v4 : Value} (h : LimR W0 wr g4 l3 l4 v3 v4) (o : Obj) : LimR W0 (wr.alloc o) g4 l3 l4 v3 v4 :=
  ⟨blk_alloc h.H4 o, Kd.R_alloc h.HV3 o, Kd.R_alloc h.HV4 o, h.HB.alloc (Nat.le_of_lt (blk_lt h.H4)) o⟩
theorem LimR.drew {W0 wr : World} {g4 : Nat} {l3 : List S56} {l4 : List (List S56)} {v3 v4 : Value} (h : LimR W0 wr g4 l3 l4 v3 v4) (n : Nat) : LimR W0 (wr.drewN n) g4 l3 l4 v3 v4 :=
  ⟨blk_drewN h.H4 n, Kd.R_below h.HV3 (pw_below_drewN (Below.refl _ _) n), Kd.R_below h.HV4 (pw_below_drewN (Below.refl _ _) n), pw_below_drewN h.HB n⟩
/-- the first list has grown -/
theorem LimR.put3 {W0 W w1 : World} {g4 : Nat} {l3 l3' : List S56} {l4 : List (List S56)} {v3 v4 v1 : Value} (h : LimR W0 W g4 l3 l4 v3 v4) (ho : (kG W0).R 56 w1 (g4 + 1) (fun _ => True) v1 l3') (hb : Below (g4 + 1) W w1) (hg : W.grownBy w1 v3.ownBlock) (hat : v1.ownBlock = v3.ownBlock ∨ ∃ b, v1.ownBlock = some b ∧ W.heap.size ≤ b) : LimR W0 (w1.setCell ⟨g4, 3, none⟩ v1) g4 l3' l4 v1 v4 := by
  have hI : IsB w1 g4 (cellsL v3 v4) 25 := blk_grown h.H4 hg (Kd.R_ne h.HV3 h.H4 (by decide))
  refine ⟨blk_put hI 3 v1 rfl, Kd.R_set ho hI (ne56 (by decide)) 3 v1, Kd.R_set (Kd.R_after h.HV4 hg hat) hI (ne22 (by decide) (by decide)) 3 v1, (h.HB.trans (hb.mono (Nat.le_succ _))).setCell (Nat.le_refl _) v1⟩
theorem LimR.put4 {W0 W w1 : World} {g4 : Nat} {l3 : List S56} {l4 l4' : List (List S56)} {v3 v4 v1 : Value} (h : LimR W0 W g4 l3 l4 v3 v4) (ho : (k2G W0).R 22 w1 (g4 + 1) (notOwn v3) v1 l4') (hb : Below (g4 + 1) W w1) (hg : W.grownBy w1 v4.ownBlock) : LimR W0 (w1.setCell ⟨g4, 4, none⟩ v1) g4 l3 l4' v3 v1 := by
  have hI : IsB w1 g4 (cellsL v3 v4) 25 := blk_grown h.H4 hg (Kd.R_ne h.HV4 h.H4 (by decide))
  exact ⟨blk_put hI 4 v1 rfl, Kd.R_set (Kd.R_over h.HV3 h.HV4 (ne56 (by decide)) hg) hI (ne56 (by decide)) 4 v1, Kd.R_set ho hI (ne22 (by decide) (by decide)) 4 v1, (h.HB.trans (hb.mono (Nat.le_succ _))).setCell (Nat.le_refl _) v1⟩
/-- four great matrices in a block of their own -/
theorem four_rows {W0 W : World} {base nb : Nat} {ok : Nat → Prop} {gc : Value} (hI : IsB W nb #[.int .i64 64, .int .i64 64, .int .i64 64, gc, .int .i64 64, .int .i64 64, .int .i64 64, gc, .int .i64 64, .int .i64 64, .int .i64 64, gc, .int .i64 64, .int .i64 64, .int .i64 64, gc] 56) (hb : base ≤ nb) (hok : ok nb) (hK : k56.K W0 great [.int .i64 64, .int .i64 64, .int .i64 64, gc]) :
    (kG W0).R 56 W base ok (.slice (some ⟨nb, 0, none⟩) 4 4) (List.replicate 4 great) := by
  refine R_lit (d := kG W0) (xs := List.replicate 4 great) hI hb hok rfl (by simp [maxLen]) fun j x hj => ?_
  have hx : x = great := great_in (List.mem_of_getElem? hj)
  subst hx
  have hj4 : j < 4 := by have := (List.getElem?_eq_some_iff.1 hj).1; simpa using this
  rcases (show j = 0 ∨ j = 1 ∨ j = 2 ∨ j = 3 by omega) with rfl | rfl | rfl | rfl <;> exact hK
set_option maxHeartbeats 4000000 in
set_option maxRecDepth 100000 in
theorem lim_walk (x : Int) (w : World) (ps : List S56) (ss : List (List S56)) (hps : ps = gPs) (hss : ss = gSs) (b : List Int) (hb : b.length = 10487476) (k k2 : Nat)
    (hW : state_Write.f k 1099511627776 1099511627776 1099511627776 ps ss (-9223372036854775808) 9223372036854775807 = some (b, 0)) (hR : state_Read.f b = some (1099511627776, 1099511627776, 1099511627776, ps, ss, -9223372036854775808, 9223372036854775807, 0, 0))
    (hS : pupillaw23_same.f k2 1099511627776 1099511627776 1099511627776 ps ss (-9223372036854775808) 9223372036854775807 1099511627776 1099511627776 1099511627776 ps ss (-9223372036854775808) 9223372036854775807 = some true) :
    Calls Try.prog 10 #[.int .i64 x] w fun e w' => e = .returned (.bool true) ∧ Below w.heap.size w w' := by
  have HP := Aside0.mk (And.intro hps hss)
  have HL := Aside0.mk hb
  have HW := Aside0.mk hW
  have HR := Aside0.mk hR
  have HS := Aside0.mk hS
  clear hps hss hb hW hR hS
  go_enter Try.func10, Try.ntmps10
  by_cases hx : Int.tmod x 64 = 0
  · have d1 : (Int.tmod x 64 != 0) = false := by simpa using hx
    go_wp2_with (first | ((with_reducible refine gate_dst (N := 18) rfl ?_); refine Kd.R_make (Kd.int .i64) (w0 := w) w.heap.size 3 rfl rfl 54 _ _ rfl 4096 rfl rfl Try.underlying54 (.int .i64 0) 8 info3 rfl (by decide) (by decide) 0 (ok := fun _ => True) (okp := fun _ => True) rfl (fun _ h => h) trivial (by decide) (by decide) (Below.refl _ _) (Nat.le_refl _) ?_; intro vz w1 hz hb1 hg1 hat1; rw [show List.replicate (Int.toNat 4096) (0 : Int) = great.f3 from rfl] at hz; obtain ⟨Az, cz, rfl, hcz, hCz⟩ := Kd.R_reads hz; have HZ := Aside0.mk (And.intro hcz hCz); have HB1 := Aside0.mk hb1; clear hz hb1 hg1 hat1 hcz hCz) | fail)
    have HG3 := Aside0.mk (show IsB (w1.alloc (.cells #[.int .i64 64, .int .i64 64, .int .i64 64, .slice Az great.f3.length cz] 56)) w1.heap.size #[.int .i64 64, .int .i64 64, .int .i64 64, .slice Az great.f3.length cz] 56 from blk_new w1 _)
    have hb12 : Below w1.heap.size w1 (w1.alloc (.cells #[.int .i64 64, .int .i64 64, .int .i64 64, .slice Az great.f3.length cz] 56)) := (Below.refl _ _).alloc (Nat.le_refl _) _
    have HK0 := Aside0.mk (show k56.K (w1.alloc (.cells #[.int .i64 64, .int .i64 64, .int .i64 64, .slice Az great.f3.length cz] 56)) great [.int .i64 64, .int .i64 64, .int .i64 64, .slice Az great.f3.length cz] from k56_mk _ great HZ.out.1 (Kd.C_below HZ.out.2 hb12))
    have HB2 := Aside0.mk (below_step HB1.out hb12)
    have hsz := World.size_alloc w1 (.cells #[.int .i64 64, .int .i64 64, .int .i64 64, .slice Az great.f3.length cz] 56)
    obtain ⟨g3, hg3⟩ : ∃ g, g = w1.heap.size := ⟨_, rfl⟩
    rw [← hg3] at hsz HG3
    simp only [← hg3]
    clear hb12 hg3 HZ HB1
    generalize w1.alloc (.cells #[.int .i64 64, .int .i64 64, .int .i64 64, .slice Az great.f3.length cz] 56) = W0 at HG3 HK0 HB2 hsz ⊢
    have HN4 := Aside0.mk (show IsB (W0.alloc (.cells (cellsL (.slice none 0 0) (.slice none 0 0)) 25)) (g3 + 1) (cellsL (.slice none 0 0) (.slice none 0 0)) 25 from hsz ▸ blk_new W0 _)
    have HR0 := Aside0.mk (LimR.mk HN4.out (Kd.R_nil (kG W0) 56 _ (g3 + 1 + 1) (fun _ => True)) (Kd.R_nil (k2G W0) 22 _ (g3 + 1 + 1) (notOwn (.slice none 0 0))) (hsz ▸ (Below.refl W0.heap.size W0).alloc (Nat.le_refl _) (.cells (cellsL (.slice none 0 0) (.slice none 0 0)) 25)))
    have HSZ := Aside0.mk hsz
    clear hsz HN4
    go_loopg [5] 64 (fun kq v5 w' => ∃ (i : Nat) (l3 : List S56) (l4 : List (List S56)) (v3 v4 : Value), v5 = .int .i64 i ∧ Aside0 (i + kq = 64 ∧ l3 = List.replicate i great ∧ l4 = List.replicate i (List.replicate 4 great)) ∧ Aside0 (LimR W0 w' (g3 + 1) l3 l4 v3 v4))
    case atStart => exact ⟨0, [], [], _, _, rfl, ⟨⟨rfl, rfl, rfl⟩⟩, HR0⟩
    case round =>
      clear HR0
      obtain ⟨i, l3, l4, v3, v4, rfl, HI, HLR⟩ := hrel
      have HG3r := Aside0.mk ((HLR.out.HB.block g3 (by omega)).trans HG3.out)
      obtain ⟨A3, c3, rfl, hc3, hC3⟩ := Kd.R_reads HLR.out.HV3
      obtain ⟨A4, c4, rfl, hc4, hC4⟩ := Kd.R_reads HLR.out.HV4
      have HC := Aside0.mk (And.intro hc3 (And.intro hC3 (And.intro hc4 hC4)))
      clear hc3 hC3 hc4 hC4
      by_cases hlt : i < 64
      · have d2 : decide (i < 64) = true := decide_eq_true hlt
        have d3 : decide ((i : Int) < 64) = true := decide_eq_true (by omega)
        have HLT := Aside0.mk hlt
        clear hlt HC
        have x3 := (blk_cell HLR.out.H4 3).trans rfl
        have x4 := (blk_cell HLR.out.H4 4).trans rfl
        have y0 := (blk_cell HG3r.out 0).trans rfl
        have y1 := (blk_cell HG3r.out 1).trans rfl
        have y2 := (blk_cell HG3r.out 2).trans rfl
        have y3 := (blk_cell HG3r.out 3).trans rfl
        have HLA := Aside0.mk (HLR.out.alloc (.cells #[.int .i64 64, .int .i64 64, .int .i64 64, .slice Az great.f3.length cz] 56))
        have HRW := Aside0.mk (show ReadsRow (k56.K W0) 4 (wr.alloc (.cells #[.int .i64 64, .int .i64 64, .int .i64 64, .slice Az great.f3.length cz] 56)) (some ⟨wr.heap.size, 0, none⟩) 1 [great] from reads_one (blk_new wr (.cells #[.int .i64 64, .int .i64 64, .int .i64 64, .slice Az great.f3.length cz] 56)) rfl HK0.out)
        clear HLR HG3r
        go_upto_region 9 with (first | ((with_reducible refine gate_builtin (b := .append) (xs := #[.tmp 26, .tmp 28]) rfl ?_); at_builtin; refine Kd.R_append_rows (kG W0) (Rr := k56.K W0) (w0 := wr.alloc (.cells #[.int .i64 64, .int .i64 64, .int .i64 64, .slice Az great.f3.length cz] 56)) (g3 + 1 + 1) rfl (.tmp 26) (.tmp 28) 22 56 (.agg #[.int .i64 0, .int .i64 0, .int .i64 0, .slice none 0 0]) 48 rfl Try.underlying22 info56 rfl (show 0 < 4 by decide) (by decide) (.slice A3 l3.length c3) l3 [great] (some ⟨wr.heap.size, 0, none⟩) 1 1 (fun _ => True) (fun _ => False) rfl rfl ?aO ?aR ?aK (fun _ hk => hk.elim) (fun _ _ => trivial) ?aB ?aS ?aL ?_; (case aO => exact HLA.out.HV3); (case aR => exact HRW.out); (case aK => exact fun x cs h => h); (case aB => exact Below.refl _ _); (case aS => exact blk_lt HLA.out.H4); (case aL => (have := HI.out.2.1; have := HLT.out; have e3 : l3.length = i := (by rw [HI.out.2.1, List.length_replicate]); rw [e3]; omega)); intro v5 w5 ho hb hg hat; have HLB := Aside0.mk (HLA.out.put3 ho hb hg hat); have HIB := Aside0.mk (blk_grown HLA.out.H4 hg (Kd.R_ne HLA.out.HV3 HLA.out.H4 (by decide))); obtain ⟨A5, c5, rfl, _, _⟩ := Kd.R_reads ho; obtain ⟨l5, hl5⟩ : ∃ l5, l5 = l3 ++ [great] := ⟨_, rfl⟩; rw [← hl5] at HLB; have HL5 := Aside0.mk hl5; have f3 := blk_frozen HIB.out 3; rw [← hl5]; clear ho hb hg hat HLA x3 x4 y0 y1 y2 y3 hl5; have z3 := (blk_cell HIB.out 3).trans rfl) | fail)
        clear f3 z3 HIB HRW
        obtain ⟨W, hWd⟩ : ∃ W, W = w5.setCell ⟨g3 + 1, 3, none⟩ (.slice A5 l5.length c5) := ⟨_, rfl⟩
        rw [← hWd] at HLB ⊢
        clear hWd
        have HG3W := Aside0.mk ((HLB.out.HB.block g3 (by omega)).trans HG3.out)
        have HLD := Aside0.mk ((HLB.out.alloc (.cells #[.int .i64 64, .int .i64 64, .int .i64 64, .slice Az great.f3.length cz, .int .i64 64, .int .i64 64, .int .i64 64, .slice Az great.f3.length cz, .int .i64 64, .int .i64 64, .int .i64 64, .slice Az great.f3.length cz, .int .i64 64, .int .i64 64, .int .i64 64, .slice Az great.f3.length cz] 56)).alloc (.cells #[.slice (some ⟨W.heap.size, 0, none⟩) 4 4] 22))
        have HNB := Aside0.mk (show IsB ((W.alloc (.cells #[.int .i64 64, .int .i64 64, .int .i64 64, .slice Az great.f3.length cz, .int .i64 64, .int .i64 64, .int .i64 64, .slice Az great.f3.length cz, .int .i64 64, .int .i64 64, .int .i64 64, .slice Az great.f3.length cz, .int .i64 64, .int .i64 64, .int .i64 64, .slice Az great.f3.length cz] 56)).alloc (.cells #[.slice (some ⟨W.heap.size, 0, none⟩) 4 4] 22)) W.heap.size #[.int .i64 64, .int .i64 64, .int .i64 64, .slice Az great.f3.length cz, .int .i64 64, .int .i64 64, .int .i64 64, .slice Az great.f3.length cz, .int .i64 64, .int .i64 64, .int .i64 64, .slice Az great.f3.length cz, .int .i64 64, .int .i64 64, .int .i64 64, .slice Az great.f3.length cz] 56 from blk_alloc (blk_new W (.cells #[.int .i64 64, .int .i64 64, .int .i64 64, .slice Az great.f3.length cz, .int .i64 64, .int .i64 64, .int .i64 64, .slice Az great.f3.length cz, .int .i64 64, .int .i64 64, .int .i64 64, .slice Az great.f3.length cz, .int .i64 64, .int .i64 64, .int .i64 64, .slice Az great.f3.length cz] 56)) _)
        have HNS := Aside0.mk (show IsB ((W.alloc (.cells #[.int .i64 64, .int .i64 64, .int .i64 64, .slice Az great.f3.length cz, .int .i64 64, .int .i64 64, .int .i64 64, .slice Az great.f3.length cz, .int .i64 64, .int .i64 64, .int .i64 64, .slice Az great.f3.length cz, .int .i64 64, .int .i64 64, .int .i64 64, .slice Az great.f3.length cz] 56)).alloc (.cells #[.slice (some ⟨W.heap.size, 0, none⟩) 4 4] 22)) (W.heap.size + 1) #[.slice (some ⟨W.heap.size, 0, none⟩) 4 4] 22 from (World.size_alloc W (.cells #[.int .i64 64, .int .i64 64, .int .i64 64, .slice Az great.f3.length cz, .int .i64 64, .int .i64 64, .int .i64 64, .slice Az great.f3.length cz, .int .i64 64, .int .i64 64, .int .i64 64, .slice Az great.f3.length cz, .int .i64 64, .int .i64 64, .int .i64 64, .slice Az great.f3.length cz] 56)) ▸ blk_new (W.alloc (.cells #[.int .i64 64, .int .i64 64, .int .i64 64, .slice Az great.f3.length cz, .int .i64 64, .int .i64 64, .int .i64 64, .slice Az great.f3.length cz, .int .i64 64, .int .i64 64, .int .i64 64, .slice Az great.f3.length cz, .int .i64 64, .int .i64 64, .int .i64 64, .slice Az great.f3.length cz] 56)) (.cells #[.slice (some ⟨W.heap.size, 0, none⟩) 4 4] 22))
        obtain ⟨W2, hW2⟩ : ∃ W2, W2 = (W.alloc (.cells #[.int .i64 64, .int .i64 64, .int .i64 64, .slice Az great.f3.length cz, .int .i64 64, .int .i64 64, .int .i64 64, .slice Az great.f3.length cz, .int .i64 64, .int .i64 64, .int .i64 64, .slice Az great.f3.length cz, .int .i64 64, .int .i64 64, .int .i64 64, .slice Az great.f3.length cz] 56)).alloc (.cells #[.slice (some ⟨W.heap.size, 0, none⟩) 4 4] 22) := ⟨_, rfl⟩
        rw [← hW2] at HLD HNB HNS
        have HBS := Aside0.mk (show g3 + 1 < W.heap.size from blk_lt HLB.out.H4)
        have HOK := Aside0.mk (show ∀ k, k = W.heap.size → notOwn (.slice A5 l5.length c5) k ∧ some k ≠ (Value.slice A4 l4.length c4).ownBlock by
          rintro k rfl
          refine ⟨⟨trivial, fun he => ?_⟩, fun he => ?_⟩
          · have := own_lt' HLB.out.HV3 _ he.symm; omega
          · have := own_lt' HLB.out.HV4 _ he.symm; omega)
        have HFR := Aside0.mk (show ∀ k, W2.heap.size ≤ k → notOwn (.slice A5 l5.length c5) k by
          intro k hk
          refine ⟨trivial, fun he => ?_⟩
          have := own_lt' HLD.out.HV3 _ he.symm
          omega)
        have HRW := Aside0.mk (show ReadsRow ((k2G W0).M W2 (g3 + 1 + 1) (fun k => k = W.heap.size)) 1 W2 (some ⟨W.heap.size + 1, 0, none⟩) 1 [List.replicate 4 great] from reads_one HNS.out rfl ⟨_, rfl, four_rows HNB.out HBS.out rfl HK0.out⟩)
        have x4 := (blk_cell HLB.out.H4 4).trans rfl
        have y0 := (blk_cell HG3W.out 0).trans rfl
        have y1 := (blk_cell HG3W.out 1).trans rfl
        have y2 := (blk_cell HG3W.out 2).trans rfl
        have y3 := (blk_cell HG3W.out 3).trans rfl
        have HW2 := Aside0.mk hW2
        clear hW2 HG3W HLB HNB HNS
        go_wp2_with (first | ((with_reducible refine gate_builtin (b := .append) (xs := #[.tmp 32, .tmp 38]) rfl ?_); rw [← HW2.out]; at_builtin; refine Kd.R_append_rows (k2G W0) (Rr := (k2G W0).M W2 (g3 + 1 + 1) (fun k => k = W.heap.size)) (w0 := W2) (g3 + 1 + 1) rfl (.tmp 32) (.tmp 38) 23 22 (.slice none 0 0) 24 rfl Try.underlying23 info22t rfl (show 0 < 1 by decide) (by decide) (.slice A4 l4.length c4) l4 [List.replicate 4 great] (some ⟨W.heap.size + 1, 0, none⟩) 1 1 (notOwn (.slice A5 l5.length c5)) (fun k => k = W.heap.size) rfl rfl ?aO ?aR ?aK HOK.out HFR.out ?aB ?aS ?aL ?_; (case aO => exact HLD.out.HV4); (case aR => exact HRW.out); (case aK => exact fun x cs h => h); (case aB => exact Below.refl _ _); (case aS => exact blk_lt HLD.out.H4); (case aL => (have := HLT.out; have e3 : l4.length = i := (by rw [HI.out.2.2, List.length_replicate]); rw [e3]; omega)); intro v6 w6 ho hb hg hat; have HLE := Aside0.mk (HLD.out.put4 ho hb hg); have HIB := Aside0.mk (blk_grown HLD.out.H4 hg (Kd.R_ne HLD.out.HV4 HLD.out.H4 (by decide))); obtain ⟨A6, c6, rfl, _, _⟩ := Kd.R_reads ho; obtain ⟨l6, hl6⟩ : ∃ l6, l6 = l4 ++ [List.replicate 4 great] := ⟨_, rfl⟩; rw [← hl6] at HLE; have HL6 := Aside0.mk hl6; have f4 := blk_frozen HIB.out 4; rw [← hl6]; clear ho hb hg hat HLD x4 y0 y1 y2 y3 hl6 HRW; have z4 := (blk_cell HIB.out 4).trans rfl) | fail)
        go_roundg (gk - 1)
        case measure => have := HI.out.1; have := HLT.out; omega
        case rel => exact ⟨i + 1, l5, l6, _, _, next_i6 (by have := HLT.out; omega), ⟨⟨by have := HI.out.1; have := HLT.out; omega, by rw [HL5.out, HI.out.2.1, ← List.replicate_succ'], by rw [HL6.out, HI.out.2.2, ← List.replicate_succ']⟩⟩, HLE⟩
      · have d2 : decide (i < 64) = false := decide_eq_false hlt
        have d3 : decide ((i : Int) < 64) = false := decide_eq_false (by omega)
        have hi : i = 64 := by have := HI.out.1; omega
        have HPS := Aside0.mk (show ps = l3 ∧ ss = l4 from ⟨by rw [HI.out.2.1, hi, HP.out.1], by rw [HI.out.2.2, hi, HP.out.2]⟩)
        clear hlt hi HP
        have HB4 := Aside0.mk (show Below w.heap.size w wr from HB2.out.trans (HLR.out.HB.mono (by have := HB2.out.size; have := HSZ.out; omega)))
        have HKR := Aside0.mk (show Below W0.heap.size W0 wr from HSZ.out ▸ HLR.out.HB)
        have HQ := Aside0.mk HLR.out.H4
        have HW3 := Aside0.mk (show InW wr A3 c3 l3 A4 c4 l4 by
          refine ⟨HC.out.1, ReadsRow.imp_ HC.out.2.1 (Below.refl _ _) (fun p c hp => k56.K_below HKR.out hp), HC.out.2.2.1, ReadsRow.imp_ HC.out.2.2.2 (Below.refl _ _) (fun p c hp => ?_)⟩
          obtain ⟨A, cc, rfl, h1, h2⟩ := hp
          exact ⟨A, cc, rfl, h1, ReadsRow.imp_ h2 (Below.refl _ _) (fun p c hp => k56.K_below HKR.out hp)⟩)
        have HGE := Aside0.mk (show w.heap.size ≤ g3 + 1 by have := HB2.out.size; have := HSZ.out; omega)
        obtain ⟨hp1, hp2⟩ := HPS.out
        subst hp1 hp2
        clear HPS HLR HG3 HK0 HB2 HI HC HKR HG3r
        have x0 := (blk_cell HQ.out 0).trans rfl
        have x1 := (blk_cell HQ.out 1).trans rfl
        have x2 := (blk_cell HQ.out 2).trans rfl
        have x3 := (blk_cell HQ.out 3).trans rfl
        have x4 := (blk_cell HQ.out 4).trans rfl
        have x5 := (blk_cell HQ.out 5).trans rfl
        have x6 := (blk_cell HQ.out 6).trans rfl
        go_wp2_with fail
        refine (state_Write.calls k 1099511627776 1099511627776 1099511627776 A3 c3 ps A4 c4 ss (-9223372036854775808) 9223372036854775807 b 0 wr HW3.out.hp HW3.out.lp HW3.out.hs HW3.out.ls HW.out).mono ?_
        rintro _ w5 ⟨v, rfl, hv, hb5⟩
        obtain ⟨A, c, rfl, hc, hCb⟩ := Kd.R_reads hv
        have HC5 := Aside0.mk (And.intro hc hCb)
        have HB5 := Aside0.mk (below_step HB4.out hb5)
        have HQ5 := Aside0.mk (blk_below HQ.out hb5)
        have HI5 := Aside0.mk (HW3.out.below hb5)
        clear x0 x1 x2 x3 x4 x5 x6 hv hc hCb hb5 HB4 HQ HW3
        go_wp2_with fail
        refine (state_Read.calls A c b _ _ _ _ _ _ _ _ _ w5 HC5.out.2 HC5.out.1 HR.out).mono ?_
        rintro _ w6 ⟨v3, v4, rfl, h3, h4, hb6⟩
        obtain ⟨A7, c7, rfl, hc7, hC7⟩ := Kd.R_reads (Kd.S_R h3)
        obtain ⟨A8, c8, rfl, hc8, hC8⟩ := Kd.R_reads h4
        have H6 := Aside0.mk (InW.mk hc7 hC7 hc8 hC8)
        have HQ6 := Aside0.mk (blk_below HQ5.out hb6)
        have HI6 := Aside0.mk (HI5.out.below hb6)
        have HB6 := Aside0.mk (below_step HB5.out hb6)
        clear h3 h4 hc7 hC7 hc8 hC8 hb6 HQ5 HI5 HB5 HC5
        go_upto_region 12 with fail
        have HX7 := Aside0.mk (show IsB (w6.alloc (.cells (stC 1099511627776 1099511627776 1099511627776 A7 ps.length c7 A8 ss.length c8 (-9223372036854775808) 9223372036854775807) 25)) w6.heap.size (stC 1099511627776 1099511627776 1099511627776 A7 ps.length c7 A8 ss.length c8 (-9223372036854775808) 9223372036854775807) 25 from blk_new w6 _)
        have hb67 : Below w6.heap.size w6 (w6.alloc (.cells (stC 1099511627776 1099511627776 1099511627776 A7 ps.length c7 A8 ss.length c8 (-9223372036854775808) 9223372036854775807) 25)) := (Below.refl _ _).alloc (Nat.le_refl _) _
        have H7 := Aside0.mk (H6.out.below hb67)
        have HQ7 := Aside0.mk (blk_below HQ6.out hb67)
        have HI7 := Aside0.mk (HI6.out.below hb67)
        have HB7 := Aside0.mk (below_step HB6.out hb67)
        obtain ⟨q, hq⟩ : ∃ q, q = w6.heap.size := ⟨_, rfl⟩
        rw [← hq] at HX7 ⊢
        clear hb67 H6 HQ6 HI6 HB6 hq
        generalize w6.alloc (.cells (stC 1099511627776 1099511627776 1099511627776 A7 ps.length c7 A8 ss.length c8 (-9223372036854775808) 9223372036854775807) 25) = w7 at HX7 H7 HQ7 HI7 HB7 ⊢
        go_wp2_with (first | ((with_reducible refine gate_dst (N := 53) rfl ?_); refine Kd.R_make (Kd.int .u8) (w0 := w7) w7.heap.size 5 rfl rfl 35 _ _ rfl 16777217 rfl rfl Try.underlying35 (.int .u8 0) 1 info5 rfl (by decide) (by decide) 0 (ok := fun _ => True) (okp := fun _ => True) rfl (fun _ h => h) trivial (by decide) (by decide) (Below.refl _ _) (Nat.le_refl _) ?_; intro vz w8 hz hb8 hg8 hat8; obtain ⟨zl, hzl⟩ : ∃ zl, zl = List.replicate (Int.toNat 16777217) (0 : Int) := ⟨_, rfl⟩; rw [← hzl] at hz; have HZL := Aside0.mk hzl; clear hzl; obtain ⟨Ay, cy, rfl, hcy, hCy⟩ := Kd.R_reads hz; have HY := Aside0.mk (And.intro hcy hCy); have HX8 := Aside0.mk (blk_below HX7.out hb8); have H8 := Aside0.mk (H7.out.below hb8); have HQ8 := Aside0.mk (blk_below HQ7.out hb8); have HI8 := Aside0.mk (HI7.out.below hb8); have HB8 := Aside0.mk (below_step HB7.out hb8); clear hz hb8 hg8 hat8 hcy hCy HX7 H7 HQ7 HI7 HB7; refine Aside0.out ?_) | fail)
        refine Aside0.mk ?_
        go_wp2_with fail
        refine (state_Read.calls Ay cy zl _ _ _ _ _ _ _ _ _ w8 HY.out.2 HY.out.1 (show state_Read.f zl = some (0, 0, 0, [], [], 0, 0, 0, 2) by rw [HZL.out]; exact long_read _ (by decide))).mono ?_
        rintro _ w9 ⟨v3, v4, rfl, h3, h4, hb9⟩
        obtain ⟨A9, c9, rfl, _, _⟩ := Kd.R_reads (Kd.S_R h3)
        obtain ⟨Aa, ca, rfl, _, _⟩ := Kd.R_reads h4
        have HX9 := Aside0.mk (blk_below HX8.out hb9)
        have H9 := Aside0.mk (H8.out.below hb9)
        have HQ9 := Aside0.mk (blk_below HQ8.out hb9)
        have HI9 := Aside0.mk (HI8.out.below hb9)
        have HB9 := Aside0.mk (below_step HB8.out hb9)
        clear h3 h4 hb9 HX8 H8 HQ8 HI8 HB8 HY HZL
        go_upto_region 13 with fail
        have hb9a : Below w9.heap.size w9 (w9.alloc (.cells (stC 0 0 0 A9 0 c9 Aa 0 ca 0 0) 25)) := (Below.refl _ _).alloc (Nat.le_refl _) _
        have HXa := Aside0.mk (blk_below HX9.out hb9a)
        have Ha := Aside0.mk (H9.out.below hb9a)
        have HQa := Aside0.mk (blk_below HQ9.out hb9a)
        have HIa := Aside0.mk (HI9.out.below hb9a)
        have HBa := Aside0.mk (below_step HB9.out hb9a)
        obtain ⟨q2, hq⟩ : ∃ q, q = w9.heap.size := ⟨_, rfl⟩
        rw [← hq]
        clear hb9a H9 HQ9 HI9 HB9 HX9 hq
        generalize w9.alloc (.cells (stC 0 0 0 A9 0 c9 Aa 0 ca 0 0) 25) = wa at HXa Ha HQa HIa HBa ⊢
        have d4 : ((b.length : Int) == 10487476) = true := by rw [HL.out]; rfl
        go_wp2_with fail
        refine (alive_calls _).mono ?_
        rintro _ wb ⟨rfl, hbb⟩
        have HXb := Aside0.mk (blk_below HXa.out hbb)
        have Hb := Aside0.mk (Ha.out.below hbb)
        have HQb := Aside0.mk (blk_below HQa.out hbb)
        have HIb := Aside0.mk (HIa.out.below hbb)
        have HBb := Aside0.mk (below_step HBa.out hbb)
        clear hbb Ha HQa HIa HBa HXa
        have x0 := (blk_cell HXb.out 0).trans rfl
        have x1 := (blk_cell HXb.out 1).trans rfl
        have x2 := (blk_cell HXb.out 2).trans rfl
        have x3 := (blk_cell HXb.out 3).trans rfl
        have x4 := (blk_cell HXb.out 4).trans rfl
        have x5 := (blk_cell HXb.out 5).trans rfl
        have x6 := (blk_cell HXb.out 6).trans rfl
        have y0 := (blk_cell HQb.out 0).trans rfl
        have y1 := (blk_cell HQb.out 1).trans rfl
        have y2 := (blk_cell HQb.out 2).trans rfl
        have y3 := (blk_cell HQb.out 3).trans rfl
        have y4 := (blk_cell HQb.out 4).trans rfl
        have y5 := (blk_cell HQb.out 5).trans rfl
        have y6 := (blk_cell HQb.out 6).trans rfl
        go_wp2_with fail
        refine (pupillaw23_same.calls k2 1099511627776 1099511627776 1099511627776 A7 c7 ps A8 c8 ss (-9223372036854775808) 9223372036854775807 1099511627776 1099511627776 1099511627776 A3 c3 ps A4 c4 ss (-9223372036854775808) 9223372036854775807 true wb Hb.out.hp Hb.out.lp Hb.out.hs Hb.out.ls HIb.out.hp HIb.out.lp HIb.out.hs HIb.out.ls HS.out).mono ?_
        rintro _ wc ⟨rfl, hbc⟩
        have HBc := Aside0.mk (below_step HBb.out hbc)
        clear hbc Hb HQb HIb HBb HXb x0 x1 x2 x3 x4 x5 x6 y0 y1 y2 y3 y4 y5 y6
        go_wp2
        go_ret
        exact ⟨rfl, HBc.out⟩
  · have d1 : (Int.tmod x 64 != 0) = true := by simpa using hx
    clear hx
    go_wp2_with fail
    refine (alive_calls _).mono ?_
    rintro _ w3 ⟨rfl, hb3⟩
    have HB3 := Aside0.mk hb3
    clear hb3
    go_wp2
    go_ret
    exact ⟨rfl, HB3.out⟩
end Go.Proofs.Ytmiljlbbacbbpaa
