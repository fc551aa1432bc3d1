/- alive: a fixed matrix is turned. -/
import Derived.Test.YtklomikdihlcgaaTurn
namespace Go.Proofs.Ytklomikdihlcgaa
open Go.RowKit PBase
open Go.Proofs.YtklomikdihlcgaaW.PrintWords Go.Proofs.YtklomikdihlcgaaW.PrintLast Go.Proofs.YtklomikdihlcgaaW.PrintMore
set_option linter.unusedVariables false
set_option linter.unusedSimpArgs false

theorem j0_total (k : Nat) (a b : Int) (c : Bool) (d e f g : Int) : ∃ r, bits_Class.j0 (k + 1) a b c d e f g = some r := by
  rw [bits_Class.j0]
  repeat' split
  all_goals exact ⟨_, rfl⟩

theorem class_total (k : Nat) (x : Int) {wd : Int} (hw : wd = 32 ∨ wd = 64) : ∃ r, bits_Class.f (k + 1) x wd = some r := by
  unfold bits_Class.f
  rcases hw with rfl | rfl
  · have e1 : bits_of.f 32 = some (23, 255, -149, 2147483648, true) := rfl
    have e2 : bits_Valid.f x 32 = some (x == (x % 4294967296)) := rfl
    rw [e1, e2]
    simp only [Option.bind_some, if_true]
    rw [if_pos (by decide)]
    repeat' split
    all_goals exact j0_total _ _ _ _ _ _ _ _
  · have e1 : bits_of.f 64 = some (52, 2047, -1074, -9223372036854775808, true) := rfl
    have e2 : bits_Valid.f x 64 = some true := rfl
    rw [e1, e2]
    simp only [Option.bind_some, if_true]
    rw [if_pos (by decide)]
    repeat' split
    all_goals exact j0_total _ _ _ _ _ _ _ _

theorem clean_total (k : Nat) (x : Int) {wd : Int} (hw : wd = 32 ∨ wd = 64) : ∃ r, tensor_Clean.f (k + 1) x wd = some r := by
  unfold tensor_Clean.f
  obtain ⟨r, hr⟩ := class_total k x hw
  rw [hr, Option.bind_some]
  repeat' split
  all_goals exact ⟨_, rfl⟩

/-- one pattern for what is no number -/
def cleanV (wd x : Int) : Int := (tensor_Clean.f 1 x wd).getD 0
theorem j0_any (k : Nat) (a b : Int) (c : Bool) (d e f g : Int) : bits_Class.j0 (k + 1) a b c d e f g = bits_Class.j0 1 a b c d e f g := by
  rw [bits_Class.j0, bits_Class.j0]
theorem clean_any (k : Nat) (x wd : Int) : tensor_Clean.f (k + 1) x wd = tensor_Clean.f 1 x wd := by
  unfold tensor_Clean.f bits_Class.f
  simp only [j0_any k]
theorem clean_eq (x : Int) {wd : Int} (hw : wd = 32 ∨ wd = 64) : tensor_Clean.f 1 x wd = some (cleanV wd x) := by
  obtain ⟨r, hr⟩ := clean_total 0 x hw
  unfold cleanV
  rw [hr]; rfl
theorem clean_at (k : Nat) (x : Int) {wd : Int} (hw : wd = 32 ∨ wd = 64) : tensor_Clean.f (k + 1) x wd = some (cleanV wd x) := by rw [clean_any, clean_eq x hw]

theorem six_C (w : World) : (Kd.int .i64).C (w.alloc (.cells #[.int .i64 1, .int .i64 2, .int .i64 3, .int .i64 4, .int .i64 5, .int .i64 6] 3)) (some ⟨w.heap.size, 0, none⟩) 6 [1, 2, 3, 4, 5, 6] := by
  refine ⟨rfl, by omega, fun _ => ⟨_, rfl, fun j p hj => ⟨[.int .i64 p], rfl, rfl, fun i u hu => ?_⟩⟩⟩
  have hi : i = 0 := by
    cases i with
    | zero => rfl
    | succ i => simp at hu
  subst hi
  have h := blk_cell (blk_new w (.cells #[.int .i64 1, .int .i64 2, .int .i64 3, .int .i64 4, .int .i64 5, .int .i64 6] 3)) j
  have hz : (⟨w.heap.size, 0, none⟩ : Addr).add (j * (Kd.int .i64).sz + 0) = ⟨w.heap.size, j, none⟩ := by
    have : (Kd.int .i64).sz = 1 := rfl
    rw [this, Nat.mul_one, Nat.add_zero, at_zero]
  rw [hz, h]
  simp at hu
  subst hu
  rcases j with _ | _ | _ | _ | _ | _ | j <;> simp at hj ⊢ <;> exact hj

theorem six_check : tensor_Check.f 8 (2 : Nat) (3 : Nat) 64 [1, 2, 3, 4, 5, 6] = some 0 := by decide +kernel

set_option maxHeartbeats 1000000 in
set_option maxRecDepth 100000 in
theorem alive_calls (w : World) : Calls Try.prog 12 #[] w fun e w' => e = .returned (.bool true) ∧ Below w.heap.size w w' := by
  go_enter Try.func12, Try.ntmps12
  go_wp2_with fail
  refine (Turn_calls 8 2 3 64 (some ⟨w.heap.size, 0, none⟩) 6 [1, 2, 3, 4, 5, 6] (cleanV 64) _ (by omega) (by omega) rfl (by decide) (six_C w) (by decide) six_check (fun x => clean_at 7 x (Or.inr rfl))).mono ?_
  rintro e w1 ⟨v, rfl, hP, hb⟩
  have HB := Aside0.mk (below_step (below_alloc (Below.refl w.heap.size w) _) hb)
  have hv : (turnL 2 3 3).map (fun p => cleanV 64 (elemAt [(((2 : Nat) : Int), ((3 : Nat) : Int), 64, [1, 2, 3, 4, 5, 6])] p)) = [1, 4, 2, 5, 3, 6] := by decide +kernel
  obtain ⟨A, cp, rfl, hle, hC⟩ := Kd.R_reads hP
  rw [hv] at hC hle ⊢
  have h3 : ((3 : Nat) : Int) = 3 := rfl
  have h2 : ((2 : Nat) : Int) = 2 := rfl
  rw [h3, h2]
  obtain ⟨ad, hA, hc⟩ := Kd.at_int hC 1 (by decide) (by decide)
  subst hA
  have hc1 := hc
  have hlt := World.block_lt_of_cell? w1 _ hc1
  clear hP hb hC hle h3 h2 hv
  have hr : rd [1, 4, 2, 5, 3, 6] 1 = 4 := rfl
  rw [hr] at hc1
  have hi : Int.toNat 1 = 1 := rfl
  rw [hi] at hc1
  clear hr hi hc
  go_wp2_with fail
  have HI := Aside0.mk (blk_new w1 (Obj.cells #[.int .i64 3, .int .i64 2, .int .i64 64, .slice (some ad) 6 cp] 25))
  have hce := (World.cell?_alloc_lt w1 (Obj.cells #[.int .i64 3, .int .i64 2, .int .i64 64, .slice (some ad) 6 cp] 25) _ hlt).trans hc1
  have HB2 := Aside0.mk (below_alloc HB.out (Obj.cells #[.int .i64 3, .int .i64 2, .int .i64 64, .slice (some ad) 6 cp] 25))
  generalize w1.alloc (Obj.cells #[.int .i64 3, .int .i64 2, .int .i64 64, .slice (some ad) 6 cp] 25) = w2 at HI hce HB2 ⊢
  generalize w1.heap.size = g at HI ⊢
  clear hc1 hlt HB
  refine (pupillaw7_num.calls 0 0 w2 rfl).mono ?_
  rintro e w3 ⟨rfl, hb⟩
  replace hb := hb.below
  have HI3 := Aside0.mk (blk_below HI.out hb)
  have hce3 := (hb.cell (World.block_lt_of_cell? w2 _ hce)).trans hce
  replace hce3 : w3.cell? ⟨ad.block, ad.off + 1, none⟩ = some (.int .i64 4) := hce3
  have HB3 := Aside0.mk (below_step HB2.out hb)
  clear hb hce HI HB2
  have a0 := blk_cell HI3.out 0
  have a1 := blk_cell HI3.out 1
  have a3 := blk_cell HI3.out 3
  simp only [List.getElem?_toArray, List.getElem?_cons_zero, List.getElem?_cons_succ] at a0 a1 a3
  go_wp2
  go_ret
  exact ⟨rfl, HB3.out⟩

end Go.Proofs.Ytklomikdihlcgaa
