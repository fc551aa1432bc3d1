/- StateCut: the law's walk. -/
import Derived.Test.YtmiljlbbacbbpaaCutP
import Derived.Test.YtmiljlbbacbbpaaStP
import Derived.Test.YtmiljlbbacbbpaaAlv
import Derived.Test.YtmiljlbbacbbpaaOpQ
import Derived.Test.YtmiljlbbacbbpaaInW
import Derived.Test.YtmiljlbbacbbpaaPBasepupillaw23within
namespace Go.Proofs.Ytmiljlbbacbbpaa
open Go.RowKit PBase
open Go.Proofs.YtmiljlbbacbbpaaW.PrintWords Go.Proofs.YtmiljlbbacbbpaaW.PrintLast Go.Proofs.YtmiljlbbacbbpaaW.PrintMore
set_option linter.unusedVariables false
set_option linter.unusedSimpArgs false

theorem within_in {x : Int} {n : Nat} (hx : -9223372036854775808 ≤ x ∧ x < 9223372036854775808) (hn : 0 < n) (hm : n ≤ 100000000) : ∃ r : Nat, pupillaw23_within.f x (n : Int) = some (r : Int) ∧ r < n := by
  unfold pupillaw23_within.f
  have key : ∀ y : Int, 0 ≤ y → ∃ r : Nat, Int.tmod y (n : Int) = (r : Int) ∧ r < n := fun y hy => by
    obtain ⟨m, rfl⟩ : ∃ m : Nat, y = (m : Int) := ⟨y.toNat, by omega⟩
    exact ⟨m % n, by rw [Int.tmod_eq_emod_of_nonneg (by omega)]; rfl, Nat.mod_lt _ hn⟩
  split
  · rename_i h
    rw [if_neg (by omega)]
    have e : wrap64 (-(wrap64 (x + 1))) = -(x + 1) := by unfold wrap64; omega
    rw [e]
    obtain ⟨r, h1, h2⟩ := key (-(x + 1)) (by omega)
    exact ⟨r, by rw [h1], h2⟩
  · rw [if_neg (by omega)]
    obtain ⟨r, h1, h2⟩ := key x (by omega)
    exact ⟨r, by rw [h1], h2⟩

theorem grown_none {W W' : World} (hg : W.grownBy W' none) : Below W.heap.size W W' := (Below.refl _ _).grown hg (Nat.le_refl _) (fun k hk => by cases hk)
theorem one_u8 {W : World} {g : Nat} {x : Int} (h : IsB W g #[.int .u8 x] 5) : (Kd.int .u8).C W (some ⟨g, 0, none⟩) 1 [x] := by
  refine ⟨rfl, by decide, fun _ => ⟨_, rfl, fun j p hj => ?_⟩⟩
  obtain ⟨rfl, rfl⟩ : j = 0 ∧ p = x := by
    cases j with
    | zero => exact ⟨rfl, by simpa using hj.symm⟩
    | succ j => simp at hj
  refine ⟨[.int .u8 p], rfl, rfl, fun i u hu => ?_⟩
  obtain rfl : i = 0 := by
    cases i with
    | zero => rfl
    | succ i => simp at hu
  obtain rfl : .int .u8 p = u := by simpa using hu
  exact (blk_cell h 0).trans rfl
theorem C_zero {α : Type} (d : Kd α) (w : World) (A : Option Addr) : d.C w A ([] : List α).length [] := ⟨rfl, by simp, fun h => absurd h (Nat.lt_irrefl 0)⟩
set_option maxHeartbeats 4000000 in
set_option maxRecDepth 100000 in
theorem cut_walk (s0 s1 s2 : Int) (A3 : Option Addr) (c3 : Nat) (ps : List S56) (A4 : Option Addr) (c4 : Nat) (ss : List (List S56)) (lo ra cut : Int) (w : World) (hI : InW w A3 c3 ps A4 c4 ss) (k : Nat) (n : Int) (b : List Int) (e : Int)
    (hbk : pupillaw23_bulk.f k s0 s1 s2 ps ss lo ra = some n) (hW : state_Write.f k s0 s1 s2 ps ss lo ra = some (b, e)) (m : Nat) (hm : e = 0 → pupillaw23_within.f cut (b.length : Int) = some (m : Int) ∧ m < b.length ∧ b.length ≤ 100000000 ∧ Bytes b ∧ state_Read.f (b.take m) = some (0, 0, 0, [], [], 0, 0, (m : Int), 50) ∧ state_Read.f (b ++ [0]) = some (0, 0, 0, [], [], 0, 0, (b.length : Int), 51))
    (k2 : Nat) (hS : pupillaw23_same.f k2 0 0 0 [] [] 0 0 0 0 0 [] [] 0 0 = some true) :
    Calls Try.prog 7 #[.agg (stC s0 s1 s2 A3 ps.length c3 A4 ss.length c4 lo ra), .int .i64 cut] w fun e w' => e = .returned (.bool true) ∧ Below w.heap.size w w' := by
  have HI := Aside0.mk hI
  have HBK := Aside0.mk hbk
  have HW := Aside0.mk hW
  have HM := Aside0.mk hm
  have HS := Aside0.mk hS
  clear hI hbk hW hm hS
  go_enter Try.func7, Try.ntmps7
  go_wp2_with fail
  have HX := Aside0.mk (show IsB (w.alloc (.cells (stC s0 s1 s2 A3 ps.length c3 A4 ss.length c4 lo ra) 25)) w.heap.size (stC s0 s1 s2 A3 ps.length c3 A4 ss.length c4 lo ra) 25 from blk_new w _)
  have HB := Aside0.mk ((Below.refl w.heap.size w).alloc (Nat.le_refl _) (.cells (stC s0 s1 s2 A3 ps.length c3 A4 ss.length c4 lo ra) 25))
  have HI1 := Aside0.mk (HI.out.below HB.out)
  obtain ⟨g, hg⟩ : ∃ g, g = w.heap.size := ⟨_, rfl⟩
  rw [← hg] at HX ⊢
  have HGE := Aside0.mk hg
  clear HI hg
  generalize w.alloc (.cells (stC s0 s1 s2 A3 ps.length c3 A4 ss.length c4 lo ra) 25) = w1 at HX HB HI1 ⊢
  refine (pupillaw23_bulk.calls k s0 s1 s2 A3 c3 ps A4 c4 ss lo ra n w1 HI1.out.hp HI1.out.lp HI1.out.hs HI1.out.ls HBK.out).mono ?_
  rintro _ w2 ⟨rfl, hb2⟩
  have HX2 := Aside0.mk (blk_below HX.out hb2)
  have HB2 := Aside0.mk (below_step HB.out hb2)
  have HI2 := Aside0.mk (HI1.out.below hb2)
  clear hb2 HX HB HI1 HBK
  by_cases hn : n > 40000
  · have d1 : decide (n > 40000) = true := decide_eq_true hn
    clear hn HM HW HS
    go_wp2_with fail
    refine (alive_calls _).mono ?_
    rintro _ w3 ⟨rfl, hb3⟩
    have HB3 := Aside0.mk (below_step HB2.out hb3)
    clear hb3
    go_wp2
    go_ret
    exact ⟨rfl, HB3.out⟩
  have d1 : decide (n > 40000) = false := decide_eq_false hn
  clear hn
  have x0 := (blk_cell HX2.out 0).trans rfl
  have x1 := (blk_cell HX2.out 1).trans rfl
  have x2 := (blk_cell HX2.out 2).trans rfl
  have x3 := (blk_cell HX2.out 3).trans rfl
  have x4 := (blk_cell HX2.out 4).trans rfl
  have x5 := (blk_cell HX2.out 5).trans rfl
  have x6 := (blk_cell HX2.out 6).trans rfl
  go_wp2_with fail
  refine (state_Write.calls k s0 s1 s2 A3 c3 ps A4 c4 ss lo ra b e w2 HI2.out.hp HI2.out.lp HI2.out.hs HI2.out.ls HW.out).mono ?_
  rintro _ w3 ⟨v, rfl, hv, hb3⟩
  obtain ⟨A, c, rfl, hc, hCb⟩ := Kd.R_reads hv
  have HB3 := Aside0.mk (below_step HB2.out hb3)
  have HC3 := Aside0.mk (And.intro hc hCb)
  clear hb3 hc hCb hv HB2 HI2 x0 x1 x2 x3 x4 x5 x6 HX2 d1 HW
  by_cases he : e = 0
  · obtain ⟨hwi, hml, hbl, hBy, hr1, hr2⟩ := HM.out he
    clear HM
    subst he
    have HWI := Aside0.mk hwi
    have HML := Aside0.mk hml
    have HBL := Aside0.mk hbl
    have HR1 := Aside0.mk hr1
    have HR2 := Aside0.mk hr2
    have d1 : ((b.length : Int) == 0) = false := by simp; intro h; rw [h] at hml; simp at hml
    clear hwi hml hbl hr1 hr2 hBy
    go_wp2_with fail
    refine (alive_calls _).mono ?_
    rintro _ w4 ⟨rfl, hb4⟩
    have HC4 := Aside0.mk (And.intro HC3.out.1 (Kd.C_below HC3.out.2 hb4))
    have HB4 := Aside0.mk (below_step HB3.out hb4)
    clear hb4 HB3 HC3
    go_wp2_with fail
    refine (pupillaw23_within.calls cut (b.length : Int) (m : Int) w4 HWI.out).mono ?_
    rintro _ w5 ⟨rfl, hb5⟩
    replace hb5 := hb5.below
    have HC5 := Aside0.mk (And.intro HC4.out.1 (Kd.C_below HC4.out.2 hb5))
    have HB5 := Aside0.mk (below_step HB4.out hb5)
    clear hb5 HB4 HC4 HWI
    obtain ⟨ad, rfl, _⟩ := u8_at HC5.out.2 m HML.out
    have hnc := eq_true (show m ≤ c by have := HML.out; have := HC5.out.1; omega)
    obtain ⟨bm, hbm⟩ : ∃ bm, bm = b.take m := ⟨_, rfl⟩
    have hlm : bm.length = m := by rw [hbm, List.length_take]; have := HML.out; omega
    have hT := Kd.C_take HC5.out.2 (Nat.le_of_lt HML.out)
    rw [← hbm, hlm] at hT
    have HT5 := Aside0.mk hT
    have HLM := Aside0.mk hlm
    replace HR1 := Aside0.mk (show state_Read.f bm = some (0, 0, 0, [], [], 0, 0, (m : Int), 50) by rw [hbm]; exact HR1.out)
    clear hT hbm hlm
    go_wp2_with (first | ((with_reducible refine gate_builtin (b := .append) (xs := #[.const (.slice none 0 0), .tmp 43]) rfl ?_); at_builtin; refine Kd.R_append_rows (Kd.int .u8) (Rr := (Kd.int .u8).K w5) (w0 := w) w.heap.size rfl (.const (.slice none 0 0)) (.tmp 43) 35 5 (.int .u8 0) 1 rfl Try.underlying35 info5 rfl (by decide) (by decide) (.slice none 0 0) [] bm (some ad) m c (fun _ => True) (fun _ => False) rfl rfl ?aO ?aR ?aK (fun _ hk => hk.elim) (fun _ _ => trivial) ?aB ?aS ?aL ?_; (case aO => exact Kd.R_nil _ _ _ _ _); (case aR => exact HT5.out); (case aK => exact fun x cs h => h); (case aB => exact HB5.out); (case aS => exact (HB5.out).size); (case aL => have := HBL.out; have := HML.out; simp only [List.length_nil]; omega); intro v6 w6 ho hb hg hat) | fail)
    rw [List.nil_append] at ho
    have hb56 := grown_none hg
    obtain ⟨A6, c6, rfl, hc6, hC6⟩ := Kd.R_reads ho
    have HC6 := Aside0.mk (And.intro HC5.out.1 (Kd.C_below HC5.out.2 hb56))
    have HB6 := Aside0.mk hb
    have HT6 := Aside0.mk (And.intro hc6 hC6)
    clear ho hb hg hat hc6 hC6 hb56 HC5 HT5 hnc
    go_wp2_with fail
    refine (state_Read.calls A6 c6 bm _ _ _ _ _ _ _ _ _ w6 HT6.out.2 HT6.out.1 HR1.out).mono ?_
    rintro _ w7 ⟨v3, v4, rfl, h3, h4, hb7⟩
    obtain ⟨A7, c7, rfl, hc7, hC7⟩ := Kd.R_reads (Kd.S_R h3)
    obtain ⟨A8, c8, rfl, hc8, hC8⟩ := Kd.R_reads h4
    have HC7 := Aside0.mk (And.intro HC6.out.1 (Kd.C_below HC6.out.2 hb7))
    have HB7 := Aside0.mk (below_step HB6.out hb7)
    have H7 := Aside0.mk (InW.mk hc7 hC7 hc8 hC8)
    clear hb7 hc7 hC7 hc8 hC8 h3 h4 HB6 HC6 HT6 HR1
    have HQ := Aside0.mk (show IsB (w7.alloc (.cells (stC 0 0 0 A7 0 c7 A8 0 c8 0 0) 25)) w7.heap.size (stC 0 0 0 A7 0 c7 A8 0 c8 0 0) 25 from blk_new w7 _)
    have hb78 : Below w7.heap.size w7 (w7.alloc (.cells (stC 0 0 0 A7 0 c7 A8 0 c8 0 0) 25)) := (Below.refl _ _).alloc (Nat.le_refl _) _
    have HB8 := Aside0.mk (below_step HB7.out hb78)
    have HC8 := Aside0.mk (And.intro HC7.out.1 (Kd.C_below HC7.out.2 hb78))
    have H8 := Aside0.mk (H7.out.below hb78)
    have HGW := Aside0.mk (HB7.out.size)
    clear hb78
    go_wp2_with fail
    obtain ⟨q, hq⟩ : ∃ q, q = w7.heap.size := ⟨_, rfl⟩
    simp only [← hq] at HQ HGW ⊢
    generalize w7.alloc (.cells (stC 0 0 0 A7 0 c7 A8 0 c8 0 0) 25) = w8 at HQ HB8 HC8 H8 ⊢
    clear hq HC7 HB7 H7
    refine (pupillaw23_same.calls k2 0 0 0 A7 c7 [] A8 c8 [] 0 0 0 0 0 none 0 [] none 0 [] 0 0 true w8 H8.out.hp H8.out.lp H8.out.hs H8.out.ls (Kd.C_nil _ _) (Nat.le_refl _) (Kd.C_nil _ _) (Nat.le_refl _) HS.out).mono ?_
    rintro _ w9 ⟨rfl, hb9⟩
    have HQ9 := Aside0.mk (blk_below HQ.out hb9)
    have HB9 := Aside0.mk (below_step HB8.out hb9)
    have HC9 := Aside0.mk (And.intro HC8.out.1 (Kd.C_below HC8.out.2 hb9))
    clear hb9 HQ HB8 HC8 H8
    go_wp2_with (first | ((with_reducible refine gate_builtin (b := .append) (xs := #[.const (.slice none 0 0), .tmp 63]) rfl ?_); at_builtin; refine Kd.R_append_rows (Kd.int .u8) (Rr := (Kd.int .u8).K w9) (w0 := w) w.heap.size rfl (.const (.slice none 0 0)) (.tmp 63) 35 5 (.int .u8 0) 1 rfl Try.underlying35 info5 rfl (by decide) (by decide) (.slice none 0 0) [] b (some ad) b.length c (fun _ => True) (fun _ => False) rfl rfl ?aO ?aR ?aK (fun _ hk => hk.elim) (fun _ _ => trivial) ?aB ?aS ?aL ?_; (case aO => exact Kd.R_nil _ _ _ _ _); (case aR => exact HC9.out.2); (case aK => exact fun x cs h => h); (case aB => exact HB9.out); (case aS => exact (HB9.out).size); (case aL => have := HBL.out; simp only [List.length_nil]; omega); intro vA wA ho hb hg hat; rw [List.nil_append] at ho; have HQA := Aside0.mk (blk_below HQ9.out (grown_none hg)); obtain ⟨AA, cA, rfl, _, _⟩ := Kd.R_reads ho; refine Aside0.out ?_) | fail)
    refine Aside0.mk ?_
    have HOA := Aside0.mk ho
    have HBA := Aside0.mk hb
    clear ho hb hg hat HQ9 HB9 HC9
    have HZB := Aside0.mk (show IsB (wA.alloc (.cells #[.int .u8 0] 5)) wA.heap.size #[.int .u8 0] 5 from blk_new wA _)
    have hbab : Below wA.heap.size wA (wA.alloc (.cells #[.int .u8 0] 5)) := (Below.refl _ _).alloc (Nat.le_refl _) _
    have HQB := Aside0.mk (blk_below HQA.out hbab)
    have HOB := Aside0.mk (Kd.R_below HOA.out hbab)
    have HBB := Aside0.mk (below_step HBA.out hbab)
    clear hbab
    have HW1 := Aside0.mk (one_u8 HZB.out)
    go_wp2_with (first | ((with_reducible refine gate_builtin (b := .append) (xs := #[.tmp 64, .tmp 65]) rfl ?_); at_builtin; refine Kd.R_append_rows (Kd.int .u8) (Rr := (Kd.int .u8).K (wA.alloc (.cells #[.int .u8 0] 5))) (w0 := w) w.heap.size rfl (.tmp 64) (.tmp 65) 35 5 (.int .u8 0) 1 rfl Try.underlying35 info5 rfl (by decide) (by decide) (.slice AA b.length cA) b [0] (some ⟨wA.heap.size, 0, none⟩) 1 1 (fun _ => True) (fun _ => False) rfl rfl ?aO ?aR ?aK (fun _ hk => hk.elim) (fun _ _ => trivial) ?aB ?aS ?aL ?_; (case aO => exact HOB.out); (case aR => exact HW1.out); (case aK => exact fun x cs h => h); (case aB => exact HBB.out); (case aS => exact (HBB.out).size); (case aL => have := HBL.out; omega); intro vC wC ho hb hg hat; have HQC := Aside0.mk (blk_grown HQB.out hg (Kd.R_ne HOB.out HQB.out (by decide))); obtain ⟨l2, hl2⟩ : ∃ l2, l2 = b ++ [0] := ⟨_, rfl⟩; rw [← hl2] at ho; have HL2 := Aside0.mk hl2; clear hl2; obtain ⟨AC, cC, rfl, hcC, hCC⟩ := Kd.R_reads ho; have HBC := Aside0.mk hb; have HCC := Aside0.mk (And.intro hcC hCC); clear ho hb hg hat hcC hCC HQB HOB HBB HZB HW1; refine Aside0.out ?_) | fail)
    refine Aside0.mk ?_
    replace HR2 := Aside0.mk (show state_Read.f l2 = some (0, 0, 0, [], [], 0, 0, (b.length : Int), 51) by rw [HL2.out]; exact HR2.out)
    clear HL2
    go_wp2_with fail
    refine (state_Read.calls AC cC l2 _ _ _ _ _ _ _ _ _ wC HCC.out.2 HCC.out.1 HR2.out).mono ?_
    rintro _ wD ⟨v3, v4, rfl, h3, h4, hbD⟩
    obtain ⟨AD, cD, rfl, hcD, hCD⟩ := Kd.R_reads (Kd.S_R h3)
    obtain ⟨AE, cE, rfl, hcE, hCE⟩ := Kd.R_reads h4
    have HQD := Aside0.mk (blk_below HQC.out hbD)
    have HBD := Aside0.mk (below_step HBC.out hbD)
    have HD := Aside0.mk (InW.mk hcD hCD hcE hCE)
    clear hbD hcD hCD hcE hCE h3 h4 HQC HBC HCC HR2
    have f0 := blk_frozen HQD.out 0
    have f1 := blk_frozen HQD.out 1
    have f2 := blk_frozen HQD.out 2
    have f3 := blk_frozen HQD.out 3
    have f4 := blk_frozen HQD.out 4
    have f5 := blk_frozen HQD.out 5
    have f6 := blk_frozen HQD.out 6
    have x0 := (blk_cell HQD.out 0).trans rfl
    have x1 := (blk_cell HQD.out 1).trans rfl
    have x2 := (blk_cell HQD.out 2).trans rfl
    have x3 := (blk_cell HQD.out 3).trans rfl
    have x4 := (blk_cell HQD.out 4).trans rfl
    have x5 := (blk_cell HQD.out 5).trans rfl
    have x6 := (blk_cell HQD.out 6).trans rfl
    go_wp2_with fail
    have HBF := Aside0.mk (show Below w.heap.size w (set7 wD q (.int .i64 0) (.int .i64 0) (.int .i64 0) (.slice AD 0 cD) (.slice AE 0 cE) (.int .i64 0) (.int .i64 0)) from below_set7 HBD.out HGW.out _ _ _ _ _ _ _)
    show Calls Try.prog 19 _ (set7 wD q (.int .i64 0) (.int .i64 0) (.int .i64 0) (.slice AD 0 cD) (.slice AE 0 cE) (.int .i64 0) (.int .i64 0)) _
    generalize set7 wD q (.int .i64 0) (.int .i64 0) (.int .i64 0) (.slice AD 0 cD) (.slice AE 0 cE) (.int .i64 0) (.int .i64 0) = wF at HBF ⊢
    refine (pupillaw23_same.calls k2 0 0 0 AD cD [] AE cE [] 0 0 0 0 0 none 0 [] none 0 [] 0 0 true wF (C_zero _ _ _) (Nat.zero_le _) (C_zero _ _ _) (Nat.zero_le _) (C_zero _ _ _) (Nat.le_refl _) (C_zero _ _ _) (Nat.le_refl _) HS.out).mono ?_
    rintro _ wG ⟨rfl, hbG⟩
    have HBG := Aside0.mk (below_step HBF.out hbG)
    clear hbG x0 x1 x2 x3 x4 x5 x6 f0 f1 f2 f3 f4 f5 f6 HBF HBD HQD HD
    go_wp2
    go_ret
    exact ⟨rfl, HBG.out⟩
  · have d1 : (e != 0) = true := by simpa using he
    clear he HM HS
    go_wp2_with fail
    refine (alive_calls _).mono ?_
    rintro _ w4 ⟨rfl, hb4⟩
    have HB4 := Aside0.mk (below_step HB3.out hb4)
    clear hb4
    go_wp2_with fail
    refine (alive_calls _).mono ?_
    rintro _ w5 ⟨rfl, hb5⟩
    have HB5 := Aside0.mk (below_step HB4.out hb5)
    clear hb5
    go_wp2
    go_ret
    exact ⟨rfl, HB5.out⟩
end Go.Proofs.Ytmiljlbbacbbpaa
