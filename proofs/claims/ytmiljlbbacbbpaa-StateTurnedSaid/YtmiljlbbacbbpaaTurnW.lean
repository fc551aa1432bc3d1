/- StateTurned: the law's walk. -/
import Derived.Test.YtmiljlbbacbbpaaCutW
namespace Go.Proofs.Ytmiljlbbacbbpaa
open Go.RowKit PBase
open Go.Proofs.YtmiljlbbacbbpaaW.PrintWords Go.Proofs.YtmiljlbbacbbpaaW.PrintLast Go.Proofs.YtmiljlbbacbbpaaW.PrintMore
set_option linter.unusedVariables false
set_option linter.unusedSimpArgs false

theorem R_head {α : Type} {d : Kd α} {e base : Nat} {ok : Nat → Prop} {W : World} {A : Option Addr} {n c : Nat} {xs : List α} (h : d.R e W base ok (.slice A n c) xs) (hp : 0 < xs.length) : ∃ g, A = some ⟨g, 0, none⟩ := by
  obtain ⟨inner, ho⟩ := Kd.R_own h
  rcases ho.2 with ⟨_, h0⟩ | ⟨g, cap, cur, hv, _⟩
  · omega
  · injection hv with ha _ _
    exact ⟨g, ha⟩
theorem R_put8 {g e base cap : Nat} {ok : Nat → Prop} {W : World} {xs : List Int} (h : (Kd.int .u8).R e W base ok (.slice (some ⟨g, 0, none⟩) xs.length cap) xs) (m : Nat) (x : Int) : (Kd.int .u8).R e (W.setCell ⟨g, m, none⟩ (.int .u8 x)) base ok (.slice (some ⟨g, 0, none⟩) xs.length cap) (xs.set m x) := by
  have := (Kd.R_put (enc := Value.int .u8) (h1 := fun _ => rfl) h (m : Int) x).1
  rwa [Int.toNat_natCast] at this
theorem R_cell8 {g e base cap : Nat} {ok : Nat → Prop} {W : World} {xs : List Int} (h : (Kd.int .u8).R e W base ok (.slice (some ⟨g, 0, none⟩) xs.length cap) xs) (m : Nat) (hm : m < xs.length) : W.frozen? ⟨g, m, none⟩ = false ∧ W.cell? ⟨g, m, none⟩ = some (.int .u8 (xs.getD m 0)) := by
  have := Kd.R_cell (enc := Value.int .u8) (h1 := fun _ => rfl) (0 : Int) h (m : Int) (by omega) (by omega)
  rw [Int.toNat_natCast] at this
  exact ⟨this.2, by rw [this.1]; simp [rdOf]⟩
set_option maxHeartbeats 4000000 in
set_option maxRecDepth 100000 in
theorem turn_walk (s0 s1 s2 : Int) (A3 : Option Addr) (c3 : Nat) (ps : List S56) (A4 : Option Addr) (c4 : Nat) (ss : List (List S56)) (lo ra at_ tb : Int) (w : World) (hI : InW w A3 c3 ps A4 c4 ss) (k : Nat) (n : Int) (b : List Int) (e : Int)
    (hbk : pupillaw23_bulk.f k s0 s1 s2 ps ss lo ra = some n) (hW : state_Write.f k s0 s1 s2 ps ss lo ra = some (b, e)) (m k2 k3 : Nat)
    (hm : e = 0 → pupillaw23_within.f at_ (b.length : Int) = some (m : Int) ∧ m < b.length ∧ b.length ≤ 100000000 ∧
      (tb = b.getD m 0 → state_Read.f (b.set m tb) = some (s0, s1, s2, ps, ss, lo, ra, 0, 0) ∧ pupillaw23_same.f k3 s0 s1 s2 ps ss lo ra s0 s1 s2 ps ss lo ra = some true) ∧
      (tb ≠ b.getD m 0 → ∃ q p, state_Read.f (b.set m tb) = some (0, 0, 0, [], [], 0, 0, p, q) ∧ 50 ≤ q ∧ q ≤ 52 ∧ (m : Int) - 7 ≤ p))
    (hS : pupillaw23_same.f k2 0 0 0 [] [] 0 0 0 0 0 [] [] 0 0 = some true) :
    Calls Try.prog 8 #[.agg (stC s0 s1 s2 A3 ps.length c3 A4 ss.length c4 lo ra), .int .i64 at_, .int .u8 tb] w fun e w' => e = .returned (.bool true) ∧ Below w.heap.size w w' := by
  have HI := Aside0.mk hI
  have HBK := Aside0.mk hbk
  have HW := Aside0.mk hW
  have HM := Aside0.mk hm
  have HS := Aside0.mk hS
  clear hI hbk hW hm hS
  go_enter Try.func8, Try.ntmps8
  go_wp2_with fail
  have HX := Aside0.mk (show IsB (w.alloc (.cells (stC s0 s1 s2 A3 ps.length c3 A4 ss.length c4 lo ra) 25)) w.heap.size (stC s0 s1 s2 A3 ps.length c3 A4 ss.length c4 lo ra) 25 from blk_new w _)
  have HB := Aside0.mk ((Below.refl w.heap.size w).alloc (Nat.le_refl _) (.cells (stC s0 s1 s2 A3 ps.length c3 A4 ss.length c4 lo ra) 25))
  have HI1 := Aside0.mk (HI.out.below HB.out)
  obtain ⟨g, hg⟩ : ∃ g, g = w.heap.size := ⟨_, rfl⟩
  rw [← hg] at HX ⊢
  clear HI hg
  generalize w.alloc (.cells (stC s0 s1 s2 A3 ps.length c3 A4 ss.length c4 lo ra) 25) = w1 at HX HB HI1 ⊢
  refine (pupillaw23_bulk.calls k s0 s1 s2 A3 c3 ps A4 c4 ss lo ra n w1 HI1.out.hp HI1.out.lp HI1.out.hs HI1.out.ls HBK.out).mono ?_
  rintro _ w2 ⟨rfl, hb2⟩
  have HX2 := Aside0.mk (blk_below HX.out hb2)
  have HB2 := Aside0.mk (below_step HB.out hb2)
  have HI2 := Aside0.mk (HI1.out.below hb2)
  clear hb2 HX HB HI1 HBK
  by_cases hn : n > 40000
  · have d1 : decide (n > 40000) = true := decide_eq_true hn
    clear hn HM HW HS
    go_wp2_with fail
    refine (alive_calls _).mono ?_
    rintro _ w3 ⟨rfl, hb3⟩
    have HB3 := Aside0.mk (below_step HB2.out hb3)
    clear hb3
    go_wp2
    go_ret
    exact ⟨rfl, HB3.out⟩
  have d1 : decide (n > 40000) = false := decide_eq_false hn
  clear hn
  have x0 := (blk_cell HX2.out 0).trans rfl
  have x1 := (blk_cell HX2.out 1).trans rfl
  have x2 := (blk_cell HX2.out 2).trans rfl
  have x3 := (blk_cell HX2.out 3).trans rfl
  have x4 := (blk_cell HX2.out 4).trans rfl
  have x5 := (blk_cell HX2.out 5).trans rfl
  have x6 := (blk_cell HX2.out 6).trans rfl
  go_wp2_with fail
  refine (state_Write.calls k s0 s1 s2 A3 c3 ps A4 c4 ss lo ra b e w2 HI2.out.hp HI2.out.lp HI2.out.hs HI2.out.ls HW.out).mono ?_
  rintro _ w3 ⟨v, rfl, hv, hb3⟩
  obtain ⟨A, c, rfl, hc, hCb⟩ := Kd.R_reads hv
  have HB3 := Aside0.mk (below_step HB2.out hb3)
  have HC3 := Aside0.mk (And.intro hc hCb)
  have HX3 := Aside0.mk (blk_below HX2.out hb3)
  have HI3 := Aside0.mk (HI2.out.below hb3)
  clear hb3 hc hCb hv HB2 HI2 x0 x1 x2 x3 x4 x5 x6 HX2 d1 HW
  by_cases he : e = 0
  · obtain ⟨hwi, hml, hbl, hr1, hr2⟩ := HM.out he
    clear HM
    subst he
    have HWI := Aside0.mk hwi
    have HML := Aside0.mk hml
    have HBL := Aside0.mk hbl
    have HR1 := Aside0.mk hr1
    have HR2 := Aside0.mk hr2
    have d1 : ((b.length : Int) == 0) = false := by simp; intro h; rw [h] at hml; simp at hml
    clear hwi hml hbl hr1 hr2
    go_wp2_with fail
    refine (alive_calls _).mono ?_
    rintro _ w4 ⟨rfl, hb4⟩
    have HC4 := Aside0.mk (And.intro HC3.out.1 (Kd.C_below HC3.out.2 hb4))
    have HB4 := Aside0.mk (below_step HB3.out hb4)
    have HX4 := Aside0.mk (blk_below HX3.out hb4)
    have HI4 := Aside0.mk (HI3.out.below hb4)
    clear hb4 HB3 HC3 HX3 HI3
    go_wp2_with fail
    refine (pupillaw23_within.calls at_ (b.length : Int) (m : Int) w4 HWI.out).mono ?_
    rintro _ w5 ⟨rfl, hb5⟩
    replace hb5 := hb5.below
    have HC5 := Aside0.mk (And.intro HC4.out.1 (Kd.C_below HC4.out.2 hb5))
    have HB5 := Aside0.mk (below_step HB4.out hb5)
    have HX5 := Aside0.mk (blk_below HX4.out hb5)
    have HI5 := Aside0.mk (HI4.out.below hb5)
    clear hb5 HB4 HC4 HWI HX4 HI4
    obtain ⟨ad, rfl, hcm⟩ := u8_at HC5.out.2 m HML.out
    have HCM := Aside0.mk hcm
    clear hcm
    have d2 := eq_true HML.out
    have d3 := eq_true (show (m : Int) < (b.length : Int) by have := HML.out; omega)
    go_wp2_with (first | ((with_reducible refine gate_builtin (b := .append) (xs := #[.const (.slice none 0 0), .tmp 43]) rfl ?_); at_builtin; refine Kd.R_append_rows (Kd.int .u8) (Rr := (Kd.int .u8).K w5) (w0 := w) w.heap.size rfl (.const (.slice none 0 0)) (.tmp 43) 35 5 (.int .u8 0) 1 rfl Try.underlying35 info5 rfl (by decide) (by decide) (.slice none 0 0) [] b (some ad) b.length c (fun _ => True) (fun _ => False) rfl rfl ?aO ?aR ?aK (fun _ hk => hk.elim) (fun _ _ => trivial) ?aB ?aS ?aL ?_; (case aO => exact Kd.R_nil _ _ _ _ _); (case aR => exact HC5.out.2); (case aK => exact fun x cs h => h); (case aB => exact HB5.out); (case aS => exact (HB5.out).size); (case aL => have := HBL.out; simp only [List.length_nil]; omega); intro v6 w6 ho hb hg hat; rw [List.nil_append] at ho; obtain ⟨AA, cA, rfl, hcA, hCA⟩ := Kd.R_reads ho; obtain ⟨gA, rfl⟩ := R_head ho (by have := HML.out; omega); have HO := Aside0.mk ho; have HBa := Aside0.mk (grown_none hg); have HAT := Aside0.mk hat; have HB6 := Aside0.mk hb; have HCA := Aside0.mk hcA; clear ho hb hg hat hcA hCA; have f0 := (R_cell8 HO.out m HML.out).1; have x0 := (R_cell8 HO.out m HML.out).2) | fail)
    have hga : w5.heap.size ≤ gA := by
      rcases HAT.out with h | ⟨b', h, hb'⟩
      · simp [Value.ownBlock] at h
      · simp [Value.ownBlock] at h; omega
    have hb57 : Below w5.heap.size w5 (w6.setCell ⟨gA, m, none⟩ (.int .u8 tb)) := HBa.out.setCell (p := ⟨gA, m, none⟩) hga _
    have HX7 := Aside0.mk (blk_below HX5.out hb57)
    have HI7 := Aside0.mk (HI5.out.below hb57)
    have HC7 := Aside0.mk (And.intro HC5.out.1 (Kd.C_below HC5.out.2 hb57))
    have HM7 := Aside0.mk ((hb57.cell (World.block_lt_of_cell? _ _ HCM.out)).trans HCM.out)
    have HB7 := Aside0.mk (below_step HB5.out hb57)
    have HO7 := Aside0.mk (R_put8 HO.out m tb)
    have hRD : ∀ (r1 r2 r3 : Int) (r4 : List S56) (r5 : List (List S56)) (r6 r7 r8 r9 : Int), state_Read.f (b.set m tb) = some (r1, r2, r3, r4, r5, r6, r7, r8, r9) → Calls Try.prog 18 #[.slice (some ⟨gA, 0, none⟩) b.length cA] (w6.setCell ⟨gA, m, none⟩ (.int .u8 tb)) fun e w' => ∃ v3_ v4_ : Value, e = .returned (.tuple #[.agg #[.int .i64 r1, .int .i64 r2, .int .i64 r3, v3_, v4_, .int .i64 r6, .int .i64 r7], .int .i64 r8, .int .i64 r9]) ∧ Kd.S k56 56 w' (w6.setCell ⟨gA, m, none⟩ (.int .u8 tb)).heap.size (fun _ => True) v3_ r4 ∧ Kd.R (Kd.slice 56 k56) 22 w' (w6.setCell ⟨gA, m, none⟩ (.int .u8 tb)).heap.size (fun k_ => some k_ ≠ v3_.ownBlock) v4_ r5 ∧ Below (w6.setCell ⟨gA, m, none⟩ (.int .u8 tb)).heap.size (w6.setCell ⟨gA, m, none⟩ (.int .u8 tb)) w' := by
      intro r1 r2 r3 r4 r5 r6 r7 r8 r9 hr
      obtain ⟨A', c', he, hl, hC⟩ := Kd.R_reads HO7.out
      injection he with ha _ hc
      subst ha hc
      have := state_Read.calls (some ⟨gA, 0, none⟩) cA (b.set m tb) r1 r2 r3 r4 r5 r6 r7 r8 r9 (w6.setCell ⟨gA, m, none⟩ (.int .u8 tb)) hC hl hr
      rwa [List.length_set] at this
    have HRD := Aside0.mk hRD
    clear hRD hga hb57 f0 x0 HO7 HO HAT HBa HX5 HI5 HC5 HCM HB5 HB6 HCA
    generalize w6.setCell ⟨gA, m, none⟩ (.int .u8 tb) = w7 at HX7 HI7 HC7 HM7 HB7 HRD ⊢
    by_cases htb : tb = b.getD m 0
    · obtain ⟨hr, hs⟩ := HR1.out htb
      have HSM := Aside0.mk hs
      clear hs HR1 HR2 HS
      refine (HRD.out _ _ _ _ _ _ _ _ _ hr).mono ?_
      clear hr HRD
      rintro _ w8 ⟨v3, v4, rfl, h3, h4, hb8⟩
      obtain ⟨A7, c7, rfl, hc7, hC7⟩ := Kd.R_reads (Kd.S_R h3)
      obtain ⟨A8, c8, rfl, hc8, hC8⟩ := Kd.R_reads h4
      have H8 := Aside0.mk (InW.mk hc7 hC7 hc8 hC8)
      have HX8 := Aside0.mk (blk_below HX7.out hb8)
      have HI8 := Aside0.mk (HI7.out.below hb8)
      have hM8 := (hb8.cell (World.block_lt_of_cell? _ _ HM7.out)).trans HM7.out
      have HB8 := Aside0.mk (below_step HB7.out hb8)
      clear h3 h4 hc7 hC7 hc8 hC8 hb8 HX7 HI7 HC7 HM7 HB7
      rw [← htb] at hM8
      clear htb
      go_upto_region 10 with fail
      have HX9 := Aside0.mk (blk_alloc HX8.out (.cells (stC s0 s1 s2 A7 ps.length c7 A8 ss.length c8 lo ra) 25))
      have HQ9 := Aside0.mk (show IsB (w8.alloc (.cells (stC s0 s1 s2 A7 ps.length c7 A8 ss.length c8 lo ra) 25)) w8.heap.size (stC s0 s1 s2 A7 ps.length c7 A8 ss.length c8 lo ra) 25 from blk_new w8 _)
      have hb89 : Below w8.heap.size w8 (w8.alloc (.cells (stC s0 s1 s2 A7 ps.length c7 A8 ss.length c8 lo ra) 25)) := (Below.refl _ _).alloc (Nat.le_refl _) _
      have H9 := Aside0.mk (H8.out.below hb89)
      have HI9 := Aside0.mk (HI8.out.below hb89)
      have hM9 := (hb89.cell (World.block_lt_of_cell? _ _ hM8)).trans hM8
      have HB9 := Aside0.mk (below_step HB8.out hb89)
      obtain ⟨q, hq⟩ : ∃ q, q = w8.heap.size := ⟨_, rfl⟩
      rw [← hq] at HQ9 ⊢
      clear hq hb89 H8 HX8 HI8 hM8 HB8
      generalize w8.alloc (.cells (stC s0 s1 s2 A7 ps.length c7 A8 ss.length c8 lo ra) 25) = w9 at HX9 HQ9 H9 HI9 hM9 HB9 ⊢
      have x0 := (blk_cell HX9.out 0).trans rfl
      have x1 := (blk_cell HX9.out 1).trans rfl
      have x2 := (blk_cell HX9.out 2).trans rfl
      have x3 := (blk_cell HX9.out 3).trans rfl
      have x4 := (blk_cell HX9.out 4).trans rfl
      have x5 := (blk_cell HX9.out 5).trans rfl
      have x6 := (blk_cell HX9.out 6).trans rfl
      have y0 := (blk_cell HQ9.out 0).trans rfl
      have y1 := (blk_cell HQ9.out 1).trans rfl
      have y2 := (blk_cell HQ9.out 2).trans rfl
      have y3 := (blk_cell HQ9.out 3).trans rfl
      have y4 := (blk_cell HQ9.out 4).trans rfl
      have y5 := (blk_cell HQ9.out 5).trans rfl
      have y6 := (blk_cell HQ9.out 6).trans rfl
      go_wp2_with fail
      refine (pupillaw23_same.calls k3 s0 s1 s2 A7 c7 ps A8 c8 ss lo ra s0 s1 s2 A3 c3 ps A4 c4 ss lo ra true w9 H9.out.hp H9.out.lp H9.out.hs H9.out.ls HI9.out.hp HI9.out.lp HI9.out.hs HI9.out.ls HSM.out).mono ?_
      rintro _ wG ⟨rfl, hbG⟩
      have HBG := Aside0.mk (below_step HB9.out hbG)
      clear hbG x0 x1 x2 x3 x4 x5 x6 y0 y1 y2 y3 y4 y5 y6 HB9 HX9 HQ9 H9 HI9 hM9
      go_wp2
      go_ret
      exact ⟨rfl, HBG.out⟩
    · obtain ⟨q', p', hr, hq1, hq2, hp1⟩ := HR2.out htb
      clear HR1 HR2
      refine (HRD.out _ _ _ _ _ _ _ _ _ hr).mono ?_
      clear hr HRD
      rintro _ w8 ⟨v3, v4, rfl, h3, h4, hb8⟩
      obtain ⟨A7, c7, rfl, hc7, hC7⟩ := Kd.R_reads (Kd.S_R h3)
      obtain ⟨A8, c8, rfl, hc8, hC8⟩ := Kd.R_reads h4
      have hM8 := (hb8.cell (World.block_lt_of_cell? _ _ HM7.out)).trans HM7.out
      have HB8 := Aside0.mk (below_step HB7.out hb8)
      clear h3 h4 hc7 hC7 hc8 hC8 hb8 HX7 HI7 HC7 HM7 HB7
      obtain ⟨y, hy⟩ : ∃ y, y = b.getD m 0 := ⟨_, rfl⟩
      rw [← hy] at htb hM8
      clear hy
      have d4 : (tb == y) = false := by simpa using htb
      have hw7 : wrap64 ((m : Int) - 7) = (m : Int) - 7 := by have := HML.out; have := HBL.out; unfold wrap64; omega
      have d5 : decide (q' ≥ 50) = true := decide_eq_true hq1
      have d6 : decide (q' ≤ 52) = true := decide_eq_true hq2
      have d7 : decide (p' ≥ (m : Int) - 7) = true := decide_eq_true hp1
      clear htb hq1 hq2 hp1
      go_upto_region 10 with fail
      have HQ9 := Aside0.mk (show IsB (w8.alloc (.cells (stC 0 0 0 A7 0 c7 A8 0 c8 0 0) 25)) w8.heap.size (stC 0 0 0 A7 0 c7 A8 0 c8 0 0) 25 from blk_new w8 _)
      have hb89 : Below w8.heap.size w8 (w8.alloc (.cells (stC 0 0 0 A7 0 c7 A8 0 c8 0 0) 25)) := (Below.refl _ _).alloc (Nat.le_refl _) _
      have hM9 := (hb89.cell (World.block_lt_of_cell? _ _ hM8)).trans hM8
      have HB9 := Aside0.mk (below_step HB8.out hb89)
      obtain ⟨q, hq⟩ : ∃ q, q = w8.heap.size := ⟨_, rfl⟩
      rw [← hq] at HQ9 ⊢
      clear hq hb89 hM8 HB8
      generalize w8.alloc (.cells (stC 0 0 0 A7 0 c7 A8 0 c8 0 0) 25) = w9 at HQ9 hM9 HB9 ⊢
      have y0 := (blk_cell HQ9.out 0).trans rfl
      have y1 := (blk_cell HQ9.out 1).trans rfl
      have y2 := (blk_cell HQ9.out 2).trans rfl
      have y3 := (blk_cell HQ9.out 3).trans rfl
      have y4 := (blk_cell HQ9.out 4).trans rfl
      have y5 := (blk_cell HQ9.out 5).trans rfl
      have y6 := (blk_cell HQ9.out 6).trans rfl
      go_wp2_with fail
      refine (pupillaw23_same.calls k2 0 0 0 A7 c7 [] A8 c8 [] 0 0 0 0 0 none 0 [] none 0 [] 0 0 true w9 (C_zero _ _ _) (Nat.zero_le _) (C_zero _ _ _) (Nat.zero_le _) (C_zero _ _ _) (Nat.le_refl _) (C_zero _ _ _) (Nat.le_refl _) HS.out).mono ?_
      rintro _ wG ⟨rfl, hbG⟩
      have HBG := Aside0.mk (below_step HB9.out hbG)
      clear hbG y0 y1 y2 y3 y4 y5 y6 HB9 HQ9 hM9
      go_wp2
      go_ret
      exact ⟨rfl, HBG.out⟩
  · have d1 : (e != 0) = true := by simpa using he
    clear he HM HS
    go_wp2_with fail
    refine (alive_calls _).mono ?_
    rintro _ w4 ⟨rfl, hb4⟩
    have HB4 := Aside0.mk (below_step HB3.out hb4)
    clear hb4
    go_wp2_with fail
    refine (alive_calls _).mono ?_
    rintro _ w5 ⟨rfl, hb5⟩
    have HB5 := Aside0.mk (below_step HB4.out hb5)
    clear hb5
    go_wp2
    go_ret
    exact ⟨rfl, HB5.out⟩
end Go.Proofs.Ytmiljlbbacbbpaa
