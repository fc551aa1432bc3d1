/- TensorBack: the law comes to true. -/
import Derived.Test.YtklomikdihlcgaaBkP
import Derived.Test.YtklomikdihlcgaaCvW
import Derived.Test.YtklomikdihlcgaaGlAW
import Derived.Test.YtklomikdihlcgaaStrW
import Derived.Deep.DeepCutAuto
import Derived.Outline
namespace Go.Proofs.Ytklomikdihlcgaa
open Go.RowKit PBase
open Go.Proofs.YtklomikdihlcgaaW.PrintWords Go.Proofs.YtklomikdihlcgaaW.PrintLast Go.Proofs.YtklomikdihlcgaaW.PrintMore
set_option linter.unusedVariables false
set_option linter.unusedSimpArgs false
namespace Bk

/-- a matrix in a block of its own -/
def MB (W : World) (g : Nat) (r c wd : Int) (A : Option Addr) (l : List Int) (cA : Nat) : Prop := IsB W g (row4 r c wd (.slice A l.length cA)) 25 ∧ l.length ≤ cA ∧ (Kd.int .i64).C W A l.length l
theorem MB.below {W W' : World} {g : Nat} {r c wd : Int} {A : Option Addr} {l : List Int} {cA : Nat} (h : MB W g r c wd A l cA) (hb : Below W.heap.size W W') : MB W' g r c wd A l cA := ⟨blk_below h.1 hb, h.2.1, Kd.C_below h.2.2 hb⟩
theorem MB.alloc {W : World} {g : Nat} {r c wd : Int} {A : Option Addr} {l : List Int} {cA : Nat} (h : MB W g r c wd A l cA) (o : Obj) : MB (W.alloc o) g r c wd A l cA := ⟨blk_alloc h.1 o, h.2.1, Kd.C_alloc h.2.2 o⟩
theorem MB.new {W : World} {r c wd : Int} {A : Option Addr} {l : List Int} {cA : Nat} (h1 : l.length ≤ cA) (h2 : (Kd.int .i64).C W A l.length l) : MB (W.alloc (Obj.cells (row4 r c wd (.slice A l.length cA)) 25)) W.heap.size r c wd A l cA := ⟨blk_new _ _, h1, Kd.C_alloc h2 _⟩
theorem MB.c0 {W : World} {g : Nat} {r c wd : Int} {A : Option Addr} {l : List Int} {cA : Nat} (h : MB W g r c wd A l cA) : W.cell? ⟨g, 0, none⟩ = some (.int .i64 r) := (blk_cell h.1 0).trans rfl
theorem MB.c1 {W : World} {g : Nat} {r c wd : Int} {A : Option Addr} {l : List Int} {cA : Nat} (h : MB W g r c wd A l cA) : W.cell? ⟨g, 1, none⟩ = some (.int .i64 c) := (blk_cell h.1 1).trans rfl
theorem MB.c2 {W : World} {g : Nat} {r c wd : Int} {A : Option Addr} {l : List Int} {cA : Nat} (h : MB W g r c wd A l cA) : W.cell? ⟨g, 2, none⟩ = some (.int .i64 wd) := (blk_cell h.1 2).trans rfl
theorem MB.c3 {W : World} {g : Nat} {r c wd : Int} {A : Option Addr} {l : List Int} {cA : Nat} (h : MB W g r c wd A l cA) : W.cell? ⟨g, 3, none⟩ = some (.slice A l.length cA) := (blk_cell h.1 3).trans rfl

/-- a call's answer: a matrix whose elements meet Q -/
def AnsM (W : World) (r0 r1 r2 : Int) (Q : List Int → Prop) (e : Ending) (w' : World) : Prop := ∃ (L : List Int) (A : Option Addr) (c : Nat), e = .returned (.tuple #[.agg #[.int .i64 r0, .int .i64 r1, .int .i64 r2, .slice A L.length c], .int .i64 0]) ∧ L.length ≤ c ∧ (Kd.int .i64).C w' A L.length L ∧ Q L ∧ Below W.heap.size W w'
theorem AnsM.of {W : World} {r0 r1 r2 : Int} {L : List Int} {Q : List Int → Prop} (hq : Q L) {e : Ending} {w' : World} (h : AnsP W 0 r0 r1 r2 L e w') : AnsM W r0 r1 r2 Q e w' := by
  obtain ⟨v, rfl, hP, hb⟩ := h
  obtain ⟨A, c, rfl, hle, hC⟩ := Kd.R_reads hP
  exact ⟨L, A, c, rfl, hle, hC, hq, hb⟩

theorem two_mat {W : World} {g : Nat} {a0 a1 a2 b0 b1 b2 : Int} {A B : Option Addr} {cA cB : Nat} {l k : List Int} (h : IsB W g #[.int .i64 a0, .int .i64 a1, .int .i64 a2, .slice A l.length cA, .int .i64 b0, .int .i64 b1, .int .i64 b2, .slice B k.length cB] 25)
    (hA : (Kd.int .i64).C W A l.length l) (hcA : l.length ≤ cA) (hB : (Kd.int .i64).C W B k.length k) (hcB : k.length ≤ cB) : matK.C W (some ⟨g, 0, none⟩) 2 [(a0, a1, a2, l), (b0, b1, b2, k)] := by
  refine ⟨rfl, by omega, fun _ => ⟨⟨g, 0, none⟩, rfl, fun j p hj => ?_⟩⟩
  rcases j with _ | _ | j
  · simp at hj
    subst hj
    refine ⟨[.int .i64 a0, .int .i64 a1, .int .i64 a2, .slice A l.length cA], rfl, ⟨[_], _, rfl, rfl, [_], _, rfl, rfl, [_], _, rfl, rfl, A, cA, rfl, hcA, hA⟩, fun i u hu => ?_⟩
    have h2 := blk_cell h i
    rw [Nat.zero_mul, Nat.zero_add, at_zero, h2]
    rcases i with _ | _ | _ | _ | i <;> simp at hu ⊢ <;> exact hu
  · simp at hj
    subst hj
    refine ⟨[.int .i64 b0, .int .i64 b1, .int .i64 b2, .slice B k.length cB], rfl, ⟨[_], _, rfl, rfl, [_], _, rfl, rfl, [_], _, rfl, rfl, B, cB, rfl, hcB, hB⟩, fun i u hu => ?_⟩
    have h2 := blk_cell h ((0 + 1) * matK.sz + i)
    rw [at_zero, h2]
    have hs : (0 + 1) * matK.sz = 4 := rfl
    rw [hs]
    rcases i with _ | _ | _ | _ | i <;> simp at hu ⊢ <;> exact hu
  · simp at hj

theorem mod_k {c : Nat} {atk : Int} (h1 : (1 : Int) < (c : Int)) (h2 : 0 < atk) : ∃ k : Nat, 1 ≤ k ∧ k < c ∧ atk % ((c : Int) - 1) + 1 = (k : Int) := by
  have := Int.emod_nonneg atk (show (c : Int) - 1 ≠ 0 by omega)
  have := Int.emod_lt_of_pos atk (show 0 < (c : Int) - 1 by omega)
  exact ⟨(atk % ((c : Int) - 1) + 1).toNat, by omega, by omega, by omega⟩
theorem check_any (k : Nat) (r c wd : Int) (l : List Int) (hk : l.length + 2 < k) : tensor_Check.f k r c wd l = some (checkV r c wd l) := by
  by_cases hl : l.length ≤ 1000000000
  · exact check_eq k r c wd l hl hk
  · unfold tensor_Check.f checkV
    rw [show k = (k - 2) + 2 by omega, Sized_eq, Option.bind_some]
    by_cases hs : sizedV r c wd = 0
    · rw [if_pos hs, if_pos hs]
      have hw : (wd = 32 ∨ wd = 64) ∧ 1 ≤ r ∧ 1 ≤ c ∧ r ≤ 4096 ∧ c ≤ 4096 := by
        unfold sizedV at hs
        split at hs
        · omega
        · split at hs
          · omega
          · split at hs
            · omega
            · omega
      obtain ⟨e, _, h3⟩ := mul_ok hw.2.1 hw.2.2.1 hw.2.2.2.1 hw.2.2.2.2
      rw [e]
      rw [if_neg (by omega), if_neg (by omega)]
    · rw [if_neg hs, if_neg hs]
theorem cL_lens {r c : Nat} {wd : Int} {l : List Int} (hk : checkV r c wd l = 0) {k : Nat} (h : k ≤ c) : (cL wd r c 0 k l).length ≤ 5000 ∧ (cL wd r c k (c - k) l).length ≤ 5000 := by
  obtain ⟨hw, c1, c2, c3, c4, c5, c6⟩ := nat_form hk
  unfold cL
  rw [tab2_length, tab2_length]
  have h1 : r * k ≤ r * c := Nat.mul_le_mul_left r h
  have h2 : r * (c - k) ≤ r * c := Nat.mul_le_mul_left r (by omega)
  omega
theorem rL_lens {r c : Nat} {wd : Int} {l : List Int} (hk : checkV r c wd l = 0) {k : Nat} (h : k ≤ r) : (rL wd c 0 k l).length ≤ 5000 ∧ (rL wd c k (r - k) l).length ≤ 5000 := by
  obtain ⟨hw, c1, c2, c3, c4, c5, c6⟩ := nat_form hk
  unfold rL
  rw [tab2_length, tab2_length]
  have h1 : k * c ≤ r * c := Nat.mul_le_mul_right c h
  have h2 : (r - k) * c ≤ r * c := Nat.mul_le_mul_right c (by omega)
  omega
theorem stretch_all {r c : Nat} {wd : Int} {l : List Int} (hk : checkV r c wd l = 0) (hr : r = 1) (h6 : l.length ≤ 600) : stretchE r c wd l (3 : Nat) c = 0 ∧ stretchL r c l (cleanV wd) c 3 = tab2 3 c (fun i j => cleanV wd (l.getD j 0)) ∧ checkV (3 : Nat) c wd (tab2 3 c (fun i j => cleanV wd (l.getD j 0))) = 0 ∧ rL wd c 2 1 (tab2 3 c (fun i j => cleanV wd (l.getD j 0))) = (l.map (cleanV wd)).map (cleanV wd) := by
  obtain ⟨hw, c1, c2, c3, c4, c5, c6⟩ := nat_form hk
  subst hr
  exact ⟨stretch_form hk (by omega), stretch_three hk, stretch_check hk (by omega), stretch_back hk⟩
theorem getD_at {l : List Int} (f : Int → Int) {i : Nat} (hi : i < l.length) : (l.map f).getD i 0 = f (l.getD i 0) := by
  rw [List.getD_eq_getElem?_getD, List.getD_eq_getElem?_getD, List.getElem?_map, List.getElem?_eq_getElem hi]; rfl
theorem up_at {l : List Int} (h : ∀ x ∈ l, okV 32 x) : ∀ i, i < l.length → ∀ W, Calls Try.prog 80 #[.int .i64 (l.getD i 0), .int .i64 32, .int .i64 64] W fun e w' => e = .returned (.int .i64 ((upL l).getD i 0)) ∧ Below W.heap.size W w' := by
  intro i hi W
  unfold upL
  rw [getD_at _ hi]
  obtain ⟨b, hb, e⟩ := ok_nat (getD_ok h i)
  rw [e, Int.toNat_natCast]
  exact conv_up hb W
theorem dn_at {l : List Int} (h : ∀ x ∈ l, okV 32 x) : ∀ i, i < (upL l).length → ∀ W, Calls Try.prog 80 #[.int .i64 ((upL l).getD i 0), .int .i64 64, .int .i64 32] W fun e w' => e = .returned (.int .i64 ((dnL l).getD i 0)) ∧ Below W.heap.size W w' := by
  intro i hi W
  have hi : i < l.length := by unfold upL at hi; rw [List.length_map] at hi; exact hi
  unfold upL dnL
  rw [getD_at _ hi, getD_at _ hi]
  obtain ⟨b, hb, e⟩ := ok_nat (getD_ok h i)
  rw [e, Int.toNat_natCast]
  exact conv_down hb W

set_option maxHeartbeats 4000000 in
set_option maxRecDepth 100000 in
theorem back_good (r c : Nat) (wd atk : Int) (A : Option Addr) (cA : Nat) (l : List Int) (w : World) (hC : (Kd.int .i64).C w A l.length l) (hcA : l.length ≤ cA) (hk : checkV r c wd l = 0) (h6 : l.length ≤ 600) (hat : atk ≤ 9223372036854775807) :
    Calls Try.prog 11 #[.agg #[.int .i64 r, .int .i64 c, .int .i64 wd, .slice A l.length cA], .int .i64 atk] w fun e w' => e = .returned (.bool true) ∧ Below w.heap.size w w' := by
  have HAT := Aside0.mk hat
  clear hat
  have HK := Aside0.mk hk
  obtain ⟨hw, c1, c2, c3, c4, c5, c6⟩ := nat_form hk
  have HF := Aside0.mk (And.intro hw (And.intro c1 (And.intro c2 (And.intro c3 (And.intro c4 (And.intro c5 c6))))))
  have HL6 := Aside0.mk h6
  have d1 : decide ((600 : Int) < (l.length : Int)) = false := decide_eq_false (by omega)
  have hrl : (1 : Nat) * l.length = r * c := by omega
  have HRL := Aside0.mk hrl
  clear hw c1 c2 c3 c4 c5 c6 h6 hrl
  go_enter Try.func11, Try.ntmps11
  go_wp2_with fail
  have Hm := Aside0.mk (MB.new (W := w) (r := r) (c := c) (wd := wd) hcA hC)
  have HB := Aside0.mk (below_alloc (Below.refl w.heap.size w) (Obj.cells (row4 r c wd (.slice A l.length cA)) 25))
  clear hC hcA
  generalize w.alloc (Obj.cells (row4 r c wd (.slice A l.length cA)) 25) = w1 at Hm HB ⊢
  have HGM := Aside0.mk (show ∃ g, g = w.heap.size from ⟨_, rfl⟩)
  refine (alive_calls w1).mono ?_
  rintro e w2 ⟨rfl, hb⟩
  replace Hm := Aside0.mk (Hm.out.below hb)
  replace HB := Aside0.mk (below_step HB.out hb)
  clear hb
  have xm0 := Hm.out.c0
  have xm1 := Hm.out.c1
  have xm2 := Hm.out.c2
  have xm3 := Hm.out.c3
  go_wp2_with fail
  clear xm0 xm1 xm2 xm3
  refine (tensor_Check.calls (l.length + 3) r c wd A cA l (checkV r c wd l) w2 Hm.out.2.2 Hm.out.2.1 (by rw [check_any _ _ _ _ _ (by omega)])).mono ?_
  rintro e w3 ⟨rfl, hb⟩
  replace Hm := Aside0.mk (Hm.out.below hb)
  replace HB := Aside0.mk (below_step HB.out hb)
  clear hb
  rw [hk]
  clear hk
  have xm0 := Hm.out.c0
  have xm1 := Hm.out.c1
  have xm2 := Hm.out.c2
  have xm3 := Hm.out.c3
  go_wp2_with fail
  clear xm0 xm1 xm2 xm3
  refine (pupillaw7_num.calls 0 0 w3 rfl).mono ?_
  rintro e w4 ⟨rfl, hb⟩
  replace hb := hb.below
  replace Hm := Aside0.mk (Hm.out.below hb)
  replace HB := Aside0.mk (below_step HB.out hb)
  clear hb
  have xm0 := Hm.out.c0
  have xm1 := Hm.out.c1
  have xm2 := Hm.out.c2
  have xm3 := Hm.out.c3
  go_wp2_with fail
  clear xm0 xm1 xm2 xm3
  refine (turn_ok HK.out A cA w4 Hm.out.2.2 Hm.out.2.1).mono ?_
  rintro e w5 h
  obtain ⟨La, Aa, ca, rfl, hle, hC, hQ, hb⟩ := AnsM.of (Q := fun L => L = tL wd r c l) (by first | exact rfl | exact hQq) h
  have HQa := Aside0.mk hQ
  clear hQ h
  replace Hm := Aside0.mk (Hm.out.below hb)
  replace HB := Aside0.mk (below_step HB.out hb)
  clear hb
  replace Hm := Aside0.mk (Hm.out.alloc (Obj.cells (row4 c r wd (.slice Aa La.length ca)) 25))
  have Ha := Aside0.mk (MB.new (W := w5) (r := c) (c := r) (wd := wd) hle hC)
  replace HB := Aside0.mk (below_alloc HB.out (Obj.cells (row4 c r wd (.slice Aa La.length ca)) 25))
  clear hle hC
  have xm0 := Hm.out.c0
  have xm1 := Hm.out.c1
  have xm2 := Hm.out.c2
  have xm3 := Hm.out.c3
  have xa0 := Ha.out.c0
  have xa1 := Ha.out.c1
  have xa2 := Ha.out.c2
  have xa3 := Ha.out.c3
  go_wp2_with fail
  generalize w5.alloc (Obj.cells (row4 c r wd (.slice Aa La.length ca)) 25) = w6 at Hm Ha HB ⊢
  generalize w5.heap.size = ga at Ha ⊢
  clear xm0 xm1 xm2 xm3
  clear xa0 xa1 xa2 xa3
  have HKa := Aside0.mk (show checkV c r wd La = 0 by rw [HQa.out]; exact tL_check HK.out)
  refine (turn_ok HKa.out Aa ca w6 Ha.out.2.2 Ha.out.2.1).mono ?_
  rintro e w7 h
  obtain ⟨Lb, Ab, cb, rfl, hle, hC, hQ, hb⟩ := AnsM.of (Q := fun L => L = tL wd c r La) (by first | exact rfl | exact hQq) h
  have HQb := Aside0.mk hQ
  clear hQ h
  replace Hm := Aside0.mk (Hm.out.below hb)
  replace Ha := Aside0.mk (Ha.out.below hb)
  replace HB := Aside0.mk (below_step HB.out hb)
  clear hb
  replace Hm := Aside0.mk (Hm.out.alloc (Obj.cells (row4 r c wd (.slice Ab Lb.length cb)) 25))
  replace Ha := Aside0.mk (Ha.out.alloc (Obj.cells (row4 r c wd (.slice Ab Lb.length cb)) 25))
  have Hb := Aside0.mk (MB.new (W := w7) (r := r) (c := c) (wd := wd) hle hC)
  replace HB := Aside0.mk (below_alloc HB.out (Obj.cells (row4 r c wd (.slice Ab Lb.length cb)) 25))
  clear hle hC
  clear Ha
  have xm0 := Hm.out.c0
  have xm1 := Hm.out.c1
  have xm2 := Hm.out.c2
  have xm3 := Hm.out.c3
  have xb0 := Hb.out.c0
  have xb1 := Hb.out.c1
  have xb2 := Hb.out.c2
  have xb3 := Hb.out.c3
  go_wp2_with fail
  generalize w7.alloc (Obj.cells (row4 r c wd (.slice Ab Lb.length cb)) 25) = w8 at Hm Hb HB ⊢
  generalize w7.heap.size = gb at Hb ⊢
  clear xm0 xm1 xm2 xm3
  clear xb0 xb1 xb2 xb3
  have HKb := Aside0.mk (show checkV r c wd Lb = 0 by rw [HQb.out]; exact tL_check HKa.out)
  have HSb := Aside0.mk (show SameL wd l Lb by rw [HQb.out, HQa.out]; exact tL_two HK.out)
  have HF1 := Aside0.mk (form_ok HK.out A cA w8 Hm.out.2.2 Hm.out.2.1 1 l.length HRL.out (by omega) (by have := HF.out.2.2.2.2.2.2; have := Nat.mul_pos HF.out.2.1 HF.out.2.2.1; omega))
  refine (HF1.out).mono ?_
  rintro e w9 h
  obtain ⟨Lc, Ac, cc, rfl, hle, hC, hQ, hb⟩ := AnsM.of (Q := fun L => L = l.map (cleanV wd)) (by first | exact rfl | exact hQq) h
  have HQc := Aside0.mk hQ
  clear hQ h
  replace Hm := Aside0.mk (Hm.out.below hb)
  replace Hb := Aside0.mk (Hb.out.below hb)
  replace HB := Aside0.mk (below_step HB.out hb)
  clear hb
  replace Hm := Aside0.mk (Hm.out.alloc (Obj.cells (row4 1 l.length wd (.slice Ac Lc.length cc)) 25))
  replace Hb := Aside0.mk (Hb.out.alloc (Obj.cells (row4 1 l.length wd (.slice Ac Lc.length cc)) 25))
  have Hc := Aside0.mk (MB.new (W := w9) (r := 1) (c := l.length) (wd := wd) hle hC)
  replace HB := Aside0.mk (below_alloc HB.out (Obj.cells (row4 1 l.length wd (.slice Ac Lc.length cc)) 25))
  clear hle hC
  clear HF1
  have xm0 := Hm.out.c0
  have xm1 := Hm.out.c1
  have xm2 := Hm.out.c2
  have xm3 := Hm.out.c3
  have xc0 := Hc.out.c0
  have xc1 := Hc.out.c1
  have xc2 := Hc.out.c2
  have xc3 := Hc.out.c3
  have xb0 := Hb.out.c0
  have xb1 := Hb.out.c1
  have xb2 := Hb.out.c2
  have xb3 := Hb.out.c3
  go_wp2_with fail
  generalize w9.alloc (Obj.cells (row4 1 l.length wd (.slice Ac Lc.length cc)) 25) = w10 at Hm Hb Hc HB ⊢
  generalize w9.heap.size = gc at Hc ⊢
  clear xm0 xm1 xm2 xm3
  clear xc0 xc1 xc2 xc3
  clear xb0 xb1 xb2 xb3
  have hl1 : 1 ≤ l.length := by have := HF.out.2.2.2.2.2.2; have := Nat.mul_pos HF.out.2.1 HF.out.2.2.1; omega
  have HKc := Aside0.mk (show checkV (1 : Nat) l.length wd Lc = 0 by rw [HQc.out]; exact map_check HK.out (by omega) hl1 HRL.out)
  clear hl1
  have HF1 := Aside0.mk (form_ok HKc.out Ac cc w10 Hc.out.2.2 Hc.out.2.1 r c HRL.out.symm HF.out.2.1 HF.out.2.2.1)
  refine (HF1.out).mono ?_
  rintro e w11 h
  obtain ⟨Ld, Ad, cd, rfl, hle, hC, hQ, hb⟩ := AnsM.of (Q := fun L => L = Lc.map (cleanV wd)) (by first | exact rfl | exact hQq) h
  have HQd := Aside0.mk hQ
  clear hQ h
  replace Hm := Aside0.mk (Hm.out.below hb)
  replace Hb := Aside0.mk (Hb.out.below hb)
  replace Hc := Aside0.mk (Hc.out.below hb)
  replace HB := Aside0.mk (below_step HB.out hb)
  clear hb
  replace Hm := Aside0.mk (Hm.out.alloc (Obj.cells (row4 r c wd (.slice Ad Ld.length cd)) 25))
  replace Hb := Aside0.mk (Hb.out.alloc (Obj.cells (row4 r c wd (.slice Ad Ld.length cd)) 25))
  replace Hc := Aside0.mk (Hc.out.alloc (Obj.cells (row4 r c wd (.slice Ad Ld.length cd)) 25))
  have Hd := Aside0.mk (MB.new (W := w11) (r := r) (c := c) (wd := wd) hle hC)
  replace HB := Aside0.mk (below_alloc HB.out (Obj.cells (row4 r c wd (.slice Ad Ld.length cd)) 25))
  clear hle hC
  clear HF1 Hc
  have xm0 := Hm.out.c0
  have xm1 := Hm.out.c1
  have xm2 := Hm.out.c2
  have xm3 := Hm.out.c3
  have xd0 := Hd.out.c0
  have xd1 := Hd.out.c1
  have xd2 := Hd.out.c2
  have xd3 := Hd.out.c3
  have xb0 := Hb.out.c0
  have xb1 := Hb.out.c1
  have xb2 := Hb.out.c2
  have xb3 := Hb.out.c3
  go_wp2_with fail
  generalize w11.alloc (Obj.cells (row4 r c wd (.slice Ad Ld.length cd)) 25) = w12 at Hm Hb Hd HB ⊢
  generalize w11.heap.size = gd at Hd ⊢
  clear xm0 xm1 xm2 xm3
  clear xd0 xd1 xd2 xd3
  clear xb0 xb1 xb2 xb3
  have HKd := Aside0.mk (show checkV r c wd Ld = 0 by rw [HQd.out]; exact map_check HKc.out HF.out.2.1 HF.out.2.2.1 HRL.out.symm)
  have HSd := Aside0.mk (show SameL wd l Ld by rw [HQd.out, HQc.out]; exact same_two HF.out.1 l)
  refine (Same_true r c wd A cA l Ab cb Lb w12 Hm.out.2.2 Hm.out.2.1 Hb.out.2.2 Hb.out.2.1 HK.out HKb.out HSb.out).mono ?_
  rintro e w13 ⟨rfl, hb⟩
  replace Hm := Aside0.mk (Hm.out.below hb)
  replace Hb := Aside0.mk (Hb.out.below hb)
  replace Hd := Aside0.mk (Hd.out.below hb)
  replace HB := Aside0.mk (below_step HB.out hb)
  clear hb
  clear Hb
  have xm0 := Hm.out.c0
  have xm1 := Hm.out.c1
  have xm2 := Hm.out.c2
  have xm3 := Hm.out.c3
  have xd0 := Hd.out.c0
  have xd1 := Hd.out.c1
  have xd2 := Hd.out.c2
  have xd3 := Hd.out.c3
  go_wp2_with fail
  clear xm0 xm1 xm2 xm3
  clear xd0 xd1 xd2 xd3
  refine (Same_true r c wd A cA l Ad cd Ld w13 Hm.out.2.2 Hm.out.2.1 Hd.out.2.2 Hd.out.2.1 HK.out HKd.out HSd.out).mono ?_
  rintro e w14 ⟨rfl, hb⟩
  replace Hm := Aside0.mk (Hm.out.below hb)
  replace Hd := Aside0.mk (Hd.out.below hb)
  replace HB := Aside0.mk (below_step HB.out hb)
  clear hb
  clear Hd HQa HQb HQc HQd HKa HKb HKc HKd HSb HSd
  have xm0 := Hm.out.c0
  have xm1 := Hm.out.c1
  have xm2 := Hm.out.c2
  have xm3 := Hm.out.c3
  obtain ⟨bq, hbq⟩ : ∃ b : Bool, b = decide ((1 : Int) < (c : Int) ∧ 0 < atk) := ⟨_, rfl⟩
  have HBQ := Aside0.mk hbq
  clear hbq
  have xm0 := Hm.out.c0
  have xm1 := Hm.out.c1
  have xm2 := Hm.out.c2
  have xm3 := Hm.out.c3
  go_upto_region 11 with (fail)
  go_cut [97] (fun v97 wc => v97 = .bool bq ∧ Aside0 (MB wc w.heap.size (r : Int) (c : Int) wd A l cA) ∧ Aside0 (Below w.heap.size w wc))
  case first =>
    by_cases hA : (1 : Int) < (c : Int)
    · by_cases hB : 0 < atk
      ·
        have d1 : decide ((1 : Int) < (c : Int)) = true := decide_eq_true hA
        have d2 : decide (0 < atk) = true := decide_eq_true hB
        go_wp2_with fail
        go_meet
        case rel => exact ⟨congrArg Value.bool (by rw [HBQ.out]; first | exact (decide_eq_true (by omega)).symm | exact (decide_eq_false (by omega)).symm), Hm, HB⟩
      ·
        have d1 : decide ((1 : Int) < (c : Int)) = true := decide_eq_true hA
        have d2 : decide (0 < atk) = false := decide_eq_false hB
        go_wp2_with fail
        go_meet
        case rel => exact ⟨congrArg Value.bool (by rw [HBQ.out]; first | exact (decide_eq_true (by omega)).symm | exact (decide_eq_false (by omega)).symm), Hm, HB⟩
    ·
      have d1 : decide ((1 : Int) < (c : Int)) = false := decide_eq_false hA
      go_wp2_with fail
      go_meet
      case rel => exact ⟨congrArg Value.bool (by rw [HBQ.out]; first | exact (decide_eq_true (by omega)).symm | exact (decide_eq_false (by omega)).symm), Hm, HB⟩
  case rest =>
    clear xm0 xm1 xm2 xm3
    clear Hm HB
    obtain ⟨rfl, Hm, HB⟩ := hcut
    obtain ⟨w15, rfl⟩ : ∃ W : World, W = wc := ⟨_, rfl⟩
    have xm0 := Hm.out.c0
    have xm1 := Hm.out.c1
    have xm2 := Hm.out.c2
    have xm3 := Hm.out.c3
    go_upto_if 97 with (fail)
    go_cut [] (fun wc => Aside0 (MB wc w.heap.size (r : Int) (c : Int) wd A l cA) ∧ Aside0 (Below w.heap.size w wc))
    case first =>
      by_cases hP : (1 : Int) < (c : Int) ∧ 0 < atk
      · obtain rfl : bq = true := by rw [HBQ.out]; exact decide_eq_true hP
        obtain ⟨k, hk1, hk2, hkk⟩ : ∃ k : Nat, 1 ≤ k ∧ k < c ∧ atk % ((c : Int) - 1) + 1 = (k : Int) := mod_k hP.1 hP.2
        have hP1 := hP.1
        have hP2 := hP.2
        have hc4 : (c : Int) ≤ 4096 := by have := HF.out.2.2.2.2.1; omega
        have hat1 : atk ≤ 9223372036854775807 := HAT.out
        have HK12 := Aside0.mk (And.intro hk1 hk2)
        have hm0 : 0 ≤ atk % ((c : Int) - 1) := Int.emod_nonneg _ (by omega)
        have hm1 : atk % ((c : Int) - 1) < 4096 := by have := Int.emod_lt_of_pos atk (show 0 < (c : Int) - 1 by omega); omega
        have hne : ¬ ((c : Int) - 1 = 0) := by omega
        clear hk1 hk2 hP
        go_wp2_with fail
        have HF1 := Aside0.mk (cols_ok HK.out A cA w15 Hm.out.2.2 Hm.out.2.1 0 k HK12.out.1 (by have := HK12.out.2; omega))
        replace HF1 := HF1.out
        rw [Nat.sub_zero, show ((0 : Nat) : Int) = 0 from rfl] at HF1
        clear xm0 xm1 xm2 xm3
        refine (HF1).mono ?_
        rintro e w16 h
        obtain ⟨Lx, Ax, cx, rfl, hle, hC, hQ, hb⟩ := AnsM.of (Q := fun L => L = cL wd r c 0 k l) (by first | exact rfl | exact hQq) h
        have HQx := Aside0.mk hQ
        clear hQ h
        replace Hm := Aside0.mk (Hm.out.below hb)
        replace HB := Aside0.mk (below_step HB.out hb)
        clear hb
        replace Hm := Aside0.mk (Hm.out.alloc (Obj.cells (row4 r (k : Int) wd (.slice Ax Lx.length cx)) 25))
        have Hx := Aside0.mk (MB.new (W := w16) (r := r) (c := (k : Int)) (wd := wd) hle hC)
        replace HB := Aside0.mk (below_alloc HB.out (Obj.cells (row4 r (k : Int) wd (.slice Ax Lx.length cx)) 25))
        clear hle hC
        clear HF1
        have xm0 := Hm.out.c0
        have xm1 := Hm.out.c1
        have xm2 := Hm.out.c2
        have xm3 := Hm.out.c3
        go_wp2_with fail
        generalize w16.alloc (Obj.cells (row4 r (k : Int) wd (.slice Ax Lx.length cx)) 25) = w17 at Hm Hx HB ⊢
        generalize w16.heap.size = gx at Hx ⊢
        clear xm0 xm1 xm2 xm3
        have HF1 := cols_ok HK.out A cA w17 Hm.out.2.2 Hm.out.2.1 k c HK12.out.2 (Nat.le_refl _)
        refine (HF1).mono ?_
        rintro e w18 h
        obtain ⟨Ly, Ay, cy, rfl, hle, hC, hQ, hb⟩ := AnsM.of (Q := fun L => L = cL wd r c k (c - k) l) (by first | exact rfl | exact hQq) h
        have HQy := Aside0.mk hQ
        clear hQ h
        replace Hm := Aside0.mk (Hm.out.below hb)
        replace Hx := Aside0.mk (Hx.out.below hb)
        replace HB := Aside0.mk (below_step HB.out hb)
        clear hb
        replace Hm := Aside0.mk (Hm.out.alloc (Obj.cells (row4 r ((c - k : Nat) : Int) wd (.slice Ay Ly.length cy)) 25))
        replace Hx := Aside0.mk (Hx.out.alloc (Obj.cells (row4 r ((c - k : Nat) : Int) wd (.slice Ay Ly.length cy)) 25))
        have Hy := Aside0.mk (MB.new (W := w18) (r := r) (c := ((c - k : Nat) : Int)) (wd := wd) hle hC)
        replace HB := Aside0.mk (below_alloc HB.out (Obj.cells (row4 r ((c - k : Nat) : Int) wd (.slice Ay Ly.length cy)) 25))
        clear hle hC
        clear HF1
        have xm0 := Hm.out.c0
        have xm1 := Hm.out.c1
        have xm2 := Hm.out.c2
        have xm3 := Hm.out.c3
        have xx0 := Hx.out.c0
        have xx1 := Hx.out.c1
        have xx2 := Hx.out.c2
        have xx3 := Hx.out.c3
        have xy0 := Hy.out.c0
        have xy1 := Hy.out.c1
        have xy2 := Hy.out.c2
        have xy3 := Hy.out.c3
        go_wp2_with fail
        have HSZ := Aside0.mk (show (w18.alloc (Obj.cells (row4 r ((c - k : Nat) : Int) wd (.slice Ay Ly.length cy)) 25)).heap.size = w18.heap.size + 1 by simp only [World.size_alloc])
        generalize w18.alloc (Obj.cells (row4 r ((c - k : Nat) : Int) wd (.slice Ay Ly.length cy)) 25) = w19 at Hm Hx Hy HB HSZ ⊢
        generalize w18.heap.size = gy at Hy HSZ ⊢
        clear xm0 xm1 xm2 xm3
        clear xx0 xx1 xx2 xx3
        clear xy0 xy1 xy2 xy3
        replace Hm := Aside0.mk (Hm.out.alloc (Obj.cells #[.int .i64 r, .int .i64 (k : Int), .int .i64 wd, .slice Ax Lx.length cx, .int .i64 r, .int .i64 ((c - k : Nat) : Int), .int .i64 wd, .slice Ay Ly.length cy] 25))
        replace Hx := Aside0.mk (Hx.out.alloc (Obj.cells #[.int .i64 r, .int .i64 (k : Int), .int .i64 wd, .slice Ax Lx.length cx, .int .i64 r, .int .i64 ((c - k : Nat) : Int), .int .i64 wd, .slice Ay Ly.length cy] 25))
        replace Hy := Aside0.mk (Hy.out.alloc (Obj.cells #[.int .i64 r, .int .i64 (k : Int), .int .i64 wd, .slice Ax Lx.length cx, .int .i64 r, .int .i64 ((c - k : Nat) : Int), .int .i64 wd, .slice Ay Ly.length cy] 25))
        have HG := Aside0.mk (show IsB (w19.alloc (Obj.cells #[.int .i64 r, .int .i64 (k : Int), .int .i64 wd, .slice Ax Lx.length cx, .int .i64 r, .int .i64 ((c - k : Nat) : Int), .int .i64 wd, .slice Ay Ly.length cy] 25)) (gy + 1) _ 25 by rw [← HSZ.out]; exact blk_new w19 (Obj.cells #[.int .i64 r, .int .i64 (k : Int), .int .i64 wd, .slice Ax Lx.length cx, .int .i64 r, .int .i64 ((c - k : Nat) : Int), .int .i64 wd, .slice Ay Ly.length cy] 25))
        replace HB := Aside0.mk (below_alloc HB.out (Obj.cells #[.int .i64 r, .int .i64 (k : Int), .int .i64 wd, .slice Ax Lx.length cx, .int .i64 r, .int .i64 ((c - k : Nat) : Int), .int .i64 wd, .slice Ay Ly.length cy] 25))
        generalize w19.alloc (Obj.cells #[.int .i64 r, .int .i64 (k : Int), .int .i64 wd, .slice Ax Lx.length cx, .int .i64 r, .int .i64 ((c - k : Nat) : Int), .int .i64 wd, .slice Ay Ly.length cy] 25) = w20 at Hm Hx Hy HG HB ⊢
        clear HSZ
        have HM2 := two_mat HG.out Hx.out.2.2 Hx.out.2.1 Hy.out.2.2 Hy.out.2.1
        have HLs := Aside0.mk (show Lx.length ≤ 5000 ∧ Ly.length ≤ 5000 by rw [HQx.out, HQy.out]; exact cL_lens HK.out (by have := HK12.out.2; omega))
        have HF1 := glue_cols (some ⟨gy + 1, 0, none⟩) 2 _ w20 HM2 (Nat.le_refl _) (by simp) (by intro q hq; simp only [List.mem_cons, List.not_mem_nil, or_false] at hq; rcases hq with rfl | rfl; exact HLs.out.1; exact HLs.out.2)
        have hgl := glue_cut HK.out HK12.out.1 HK12.out.2
        simp only at hgl
        rw [← HQx.out, ← HQy.out] at hgl
        rw [hgl.1, hgl.2.1, hgl.2.2.1, hgl.2.2.2.1] at HF1
        have hQq := hgl.2.2.2.2
        clear HM2 hgl
        refine (HF1).mono ?_
        rintro e w21 h
        obtain ⟨Lz, Az, cz, rfl, hle, hC, hQ, hb⟩ := AnsM.of (Q := fun L => SameL wd l L ∧ checkV r c wd L = 0) (by first | exact rfl | exact hQq) h
        have HQz := Aside0.mk hQ
        clear hQ h
        replace Hm := Aside0.mk (Hm.out.below hb)
        replace Hx := Aside0.mk (Hx.out.below hb)
        replace Hy := Aside0.mk (Hy.out.below hb)
        replace HB := Aside0.mk (below_step HB.out hb)
        clear hb
        replace Hm := Aside0.mk (Hm.out.alloc (Obj.cells (row4 r c wd (.slice Az Lz.length cz)) 25))
        replace Hx := Aside0.mk (Hx.out.alloc (Obj.cells (row4 r c wd (.slice Az Lz.length cz)) 25))
        replace Hy := Aside0.mk (Hy.out.alloc (Obj.cells (row4 r c wd (.slice Az Lz.length cz)) 25))
        have Hz := Aside0.mk (MB.new (W := w21) (r := r) (c := c) (wd := wd) hle hC)
        replace HB := Aside0.mk (below_alloc HB.out (Obj.cells (row4 r c wd (.slice Az Lz.length cz)) 25))
        clear hle hC
        clear HF1 hQq HG Hx Hy HQx HQy HLs
        have xm0 := Hm.out.c0
        have xm1 := Hm.out.c1
        have xm2 := Hm.out.c2
        have xm3 := Hm.out.c3
        have xz0 := Hz.out.c0
        have xz1 := Hz.out.c1
        have xz2 := Hz.out.c2
        have xz3 := Hz.out.c3
        go_wp2_with fail
        generalize w21.alloc (Obj.cells (row4 r c wd (.slice Az Lz.length cz)) 25) = w22 at Hm Hz HB ⊢
        generalize w21.heap.size = gz at Hz ⊢
        clear xm0 xm1 xm2 xm3
        clear xz0 xz1 xz2 xz3
        refine (Same_true r c wd A cA l Az cz Lz w22 Hm.out.2.2 Hm.out.2.1 Hz.out.2.2 Hz.out.2.1 HK.out HQz.out.2 HQz.out.1).mono ?_
        rintro e w23 ⟨rfl, hb⟩
        replace Hm := Aside0.mk (Hm.out.below hb)
        replace Hz := Aside0.mk (Hz.out.below hb)
        replace HB := Aside0.mk (below_step HB.out hb)
        clear hb
        clear Hz HQz HK12
        go_wp2_with fail
        go_meet
        case rel => exact ⟨Hm, HB⟩
      · obtain rfl : bq = false := by rw [HBQ.out]; exact decide_eq_false hP
        clear hP
        go_wp2_with fail
        go_meet
        case rel => exact ⟨Hm, HB⟩
    case rest =>
      clear xm0 xm1 xm2 xm3
      clear Hm HB
      obtain ⟨Hm, HB⟩ := hcut
      obtain ⟨w24, rfl⟩ : ∃ W : World, W = wc := ⟨_, rfl⟩
      clear HBQ
      obtain ⟨bq, hbq⟩ : ∃ b : Bool, b = decide ((1 : Int) < (r : Int) ∧ 0 < atk) := ⟨_, rfl⟩
      have HBQ := Aside0.mk hbq
      clear hbq
      have xm0 := Hm.out.c0
      have xm1 := Hm.out.c1
      have xm2 := Hm.out.c2
      have xm3 := Hm.out.c3
      go_upto_region 18 with (fail)
      go_cut [135] (fun v135 wc => v135 = .bool bq ∧ Aside0 (MB wc w.heap.size (r : Int) (c : Int) wd A l cA) ∧ Aside0 (Below w.heap.size w wc))
      case first =>
        by_cases hA : (1 : Int) < (r : Int)
        · by_cases hB : 0 < atk
          ·
            have d1 : decide ((1 : Int) < (r : Int)) = true := decide_eq_true hA
            have d2 : decide (0 < atk) = true := decide_eq_true hB
            go_wp2_with fail
            go_meet
            case rel => exact ⟨congrArg Value.bool (by rw [HBQ.out]; first | exact (decide_eq_true (by omega)).symm | exact (decide_eq_false (by omega)).symm), Hm, HB⟩
          ·
            have d1 : decide ((1 : Int) < (r : Int)) = true := decide_eq_true hA
            have d2 : decide (0 < atk) = false := decide_eq_false hB
            go_wp2_with fail
            go_meet
            case rel => exact ⟨congrArg Value.bool (by rw [HBQ.out]; first | exact (decide_eq_true (by omega)).symm | exact (decide_eq_false (by omega)).symm), Hm, HB⟩
        ·
          have d1 : decide ((1 : Int) < (r : Int)) = false := decide_eq_false hA
          go_wp2_with fail
          go_meet
          case rel => exact ⟨congrArg Value.bool (by rw [HBQ.out]; first | exact (decide_eq_true (by omega)).symm | exact (decide_eq_false (by omega)).symm), Hm, HB⟩
      case rest =>
        clear xm0 xm1 xm2 xm3
        clear Hm HB
        obtain ⟨rfl, Hm, HB⟩ := hcut
        obtain ⟨w25, rfl⟩ : ∃ W : World, W = wc := ⟨_, rfl⟩
        have xm0 := Hm.out.c0
        have xm1 := Hm.out.c1
        have xm2 := Hm.out.c2
        have xm3 := Hm.out.c3
        go_upto_if 135 with (fail)
        go_cut [] (fun wc => Aside0 (MB wc w.heap.size (r : Int) (c : Int) wd A l cA) ∧ Aside0 (Below w.heap.size w wc))
        case first =>
          by_cases hP : (1 : Int) < (r : Int) ∧ 0 < atk
          · obtain rfl : bq = true := by rw [HBQ.out]; exact decide_eq_true hP
            obtain ⟨k, hk1, hk2, hkk⟩ : ∃ k : Nat, 1 ≤ k ∧ k < r ∧ atk % ((r : Int) - 1) + 1 = (k : Int) := mod_k hP.1 hP.2
            have hP1 := hP.1
            have hP2 := hP.2
            have hc4 : (r : Int) ≤ 4096 := by have := HF.out.2.2.2.1; omega
            have hat1 : atk ≤ 9223372036854775807 := HAT.out
            have HK12 := Aside0.mk (And.intro hk1 hk2)
            have hm0 : 0 ≤ atk % ((r : Int) - 1) := Int.emod_nonneg _ (by omega)
            have hm1 : atk % ((r : Int) - 1) < 4096 := by have := Int.emod_lt_of_pos atk (show 0 < (r : Int) - 1 by omega); omega
            have hne : ¬ ((r : Int) - 1 = 0) := by omega
            clear hk1 hk2 hP
            go_wp2_with fail
            have HF1 := Aside0.mk (rows_ok HK.out A cA w25 Hm.out.2.2 Hm.out.2.1 0 k HK12.out.1 (by have := HK12.out.2; omega))
            replace HF1 := HF1.out
            rw [Nat.sub_zero, show ((0 : Nat) : Int) = 0 from rfl] at HF1
            clear xm0 xm1 xm2 xm3
            refine (HF1).mono ?_
            rintro e w26 h
            obtain ⟨Lx, Ax, cx, rfl, hle, hC, hQ, hb⟩ := AnsM.of (Q := fun L => L = rL wd c 0 k l) (by first | exact rfl | exact hQq) h
            have HQx := Aside0.mk hQ
            clear hQ h
            replace Hm := Aside0.mk (Hm.out.below hb)
            replace HB := Aside0.mk (below_step HB.out hb)
            clear hb
            replace Hm := Aside0.mk (Hm.out.alloc (Obj.cells (row4 (k : Int) c wd (.slice Ax Lx.length cx)) 25))
            have Hx := Aside0.mk (MB.new (W := w26) (r := (k : Int)) (c := c) (wd := wd) hle hC)
            replace HB := Aside0.mk (below_alloc HB.out (Obj.cells (row4 (k : Int) c wd (.slice Ax Lx.length cx)) 25))
            clear hle hC
            clear HF1
            have xm0 := Hm.out.c0
            have xm1 := Hm.out.c1
            have xm2 := Hm.out.c2
            have xm3 := Hm.out.c3
            go_wp2_with fail
            generalize w26.alloc (Obj.cells (row4 (k : Int) c wd (.slice Ax Lx.length cx)) 25) = w27 at Hm Hx HB ⊢
            generalize w26.heap.size = gx at Hx ⊢
            clear xm0 xm1 xm2 xm3
            have HF1 := rows_ok HK.out A cA w27 Hm.out.2.2 Hm.out.2.1 k r HK12.out.2 (Nat.le_refl _)
            refine (HF1).mono ?_
            rintro e w28 h
            obtain ⟨Ly, Ay, cy, rfl, hle, hC, hQ, hb⟩ := AnsM.of (Q := fun L => L = rL wd c k (r - k) l) (by first | exact rfl | exact hQq) h
            have HQy := Aside0.mk hQ
            clear hQ h
            replace Hm := Aside0.mk (Hm.out.below hb)
            replace Hx := Aside0.mk (Hx.out.below hb)
            replace HB := Aside0.mk (below_step HB.out hb)
            clear hb
            replace Hm := Aside0.mk (Hm.out.alloc (Obj.cells (row4 ((r - k : Nat) : Int) c wd (.slice Ay Ly.length cy)) 25))
            replace Hx := Aside0.mk (Hx.out.alloc (Obj.cells (row4 ((r - k : Nat) : Int) c wd (.slice Ay Ly.length cy)) 25))
            have Hy := Aside0.mk (MB.new (W := w28) (r := ((r - k : Nat) : Int)) (c := c) (wd := wd) hle hC)
            replace HB := Aside0.mk (below_alloc HB.out (Obj.cells (row4 ((r - k : Nat) : Int) c wd (.slice Ay Ly.length cy)) 25))
            clear hle hC
            clear HF1
            have xm0 := Hm.out.c0
            have xm1 := Hm.out.c1
            have xm2 := Hm.out.c2
            have xm3 := Hm.out.c3
            have xx0 := Hx.out.c0
            have xx1 := Hx.out.c1
            have xx2 := Hx.out.c2
            have xx3 := Hx.out.c3
            have xy0 := Hy.out.c0
            have xy1 := Hy.out.c1
            have xy2 := Hy.out.c2
            have xy3 := Hy.out.c3
            go_wp2_with fail
            have HSZ := Aside0.mk (show (w28.alloc (Obj.cells (row4 ((r - k : Nat) : Int) c wd (.slice Ay Ly.length cy)) 25)).heap.size = w28.heap.size + 1 by simp only [World.size_alloc])
            generalize w28.alloc (Obj.cells (row4 ((r - k : Nat) : Int) c wd (.slice Ay Ly.length cy)) 25) = w29 at Hm Hx Hy HB HSZ ⊢
            generalize w28.heap.size = gy at Hy HSZ ⊢
            clear xm0 xm1 xm2 xm3
            clear xx0 xx1 xx2 xx3
            clear xy0 xy1 xy2 xy3
            replace Hm := Aside0.mk (Hm.out.alloc (Obj.cells #[.int .i64 (k : Int), .int .i64 c, .int .i64 wd, .slice Ax Lx.length cx, .int .i64 ((r - k : Nat) : Int), .int .i64 c, .int .i64 wd, .slice Ay Ly.length cy] 25))
            replace Hx := Aside0.mk (Hx.out.alloc (Obj.cells #[.int .i64 (k : Int), .int .i64 c, .int .i64 wd, .slice Ax Lx.length cx, .int .i64 ((r - k : Nat) : Int), .int .i64 c, .int .i64 wd, .slice Ay Ly.length cy] 25))
            replace Hy := Aside0.mk (Hy.out.alloc (Obj.cells #[.int .i64 (k : Int), .int .i64 c, .int .i64 wd, .slice Ax Lx.length cx, .int .i64 ((r - k : Nat) : Int), .int .i64 c, .int .i64 wd, .slice Ay Ly.length cy] 25))
            have HG := Aside0.mk (show IsB (w29.alloc (Obj.cells #[.int .i64 (k : Int), .int .i64 c, .int .i64 wd, .slice Ax Lx.length cx, .int .i64 ((r - k : Nat) : Int), .int .i64 c, .int .i64 wd, .slice Ay Ly.length cy] 25)) (gy + 1) _ 25 by rw [← HSZ.out]; exact blk_new w29 (Obj.cells #[.int .i64 (k : Int), .int .i64 c, .int .i64 wd, .slice Ax Lx.length cx, .int .i64 ((r - k : Nat) : Int), .int .i64 c, .int .i64 wd, .slice Ay Ly.length cy] 25))
            replace HB := Aside0.mk (below_alloc HB.out (Obj.cells #[.int .i64 (k : Int), .int .i64 c, .int .i64 wd, .slice Ax Lx.length cx, .int .i64 ((r - k : Nat) : Int), .int .i64 c, .int .i64 wd, .slice Ay Ly.length cy] 25))
            generalize w29.alloc (Obj.cells #[.int .i64 (k : Int), .int .i64 c, .int .i64 wd, .slice Ax Lx.length cx, .int .i64 ((r - k : Nat) : Int), .int .i64 c, .int .i64 wd, .slice Ay Ly.length cy] 25) = w30 at Hm Hx Hy HG HB ⊢
            clear HSZ
            have HM2 := two_mat HG.out Hx.out.2.2 Hx.out.2.1 Hy.out.2.2 Hy.out.2.1
            have HLs := Aside0.mk (show Lx.length ≤ 5000 ∧ Ly.length ≤ 5000 by rw [HQx.out, HQy.out]; exact rL_lens HK.out (by have := HK12.out.2; omega))
            have HF1 := glue_rows (some ⟨gy + 1, 0, none⟩) 2 _ w30 HM2 (Nat.le_refl _) (by simp) (by intro q hq; simp only [List.mem_cons, List.not_mem_nil, or_false] at hq; rcases hq with rfl | rfl; exact HLs.out.1; exact HLs.out.2)
            have hgl := glue_cut2 HK.out HK12.out.1 HK12.out.2
            simp only at hgl
            rw [← HQx.out, ← HQy.out] at hgl
            rw [hgl.1, hgl.2.1, hgl.2.2.1, hgl.2.2.2.1] at HF1
            have hQq := hgl.2.2.2.2
            clear HM2 hgl
            refine (HF1).mono ?_
            rintro e w31 h
            obtain ⟨Lz, Az, cz, rfl, hle, hC, hQ, hb⟩ := AnsM.of (Q := fun L => SameL wd l L ∧ checkV r c wd L = 0) (by first | exact rfl | exact hQq) h
            have HQz := Aside0.mk hQ
            clear hQ h
            replace Hm := Aside0.mk (Hm.out.below hb)
            replace Hx := Aside0.mk (Hx.out.below hb)
            replace Hy := Aside0.mk (Hy.out.below hb)
            replace HB := Aside0.mk (below_step HB.out hb)
            clear hb
            replace Hm := Aside0.mk (Hm.out.alloc (Obj.cells (row4 r c wd (.slice Az Lz.length cz)) 25))
            replace Hx := Aside0.mk (Hx.out.alloc (Obj.cells (row4 r c wd (.slice Az Lz.length cz)) 25))
            replace Hy := Aside0.mk (Hy.out.alloc (Obj.cells (row4 r c wd (.slice Az Lz.length cz)) 25))
            have Hz := Aside0.mk (MB.new (W := w31) (r := r) (c := c) (wd := wd) hle hC)
            replace HB := Aside0.mk (below_alloc HB.out (Obj.cells (row4 r c wd (.slice Az Lz.length cz)) 25))
            clear hle hC
            clear HF1 hQq HG Hx Hy HQx HQy HLs
            have xm0 := Hm.out.c0
            have xm1 := Hm.out.c1
            have xm2 := Hm.out.c2
            have xm3 := Hm.out.c3
            have xz0 := Hz.out.c0
            have xz1 := Hz.out.c1
            have xz2 := Hz.out.c2
            have xz3 := Hz.out.c3
            go_wp2_with fail
            generalize w31.alloc (Obj.cells (row4 r c wd (.slice Az Lz.length cz)) 25) = w32 at Hm Hz HB ⊢
            generalize w31.heap.size = gz at Hz ⊢
            clear xm0 xm1 xm2 xm3
            clear xz0 xz1 xz2 xz3
            refine (Same_true r c wd A cA l Az cz Lz w32 Hm.out.2.2 Hm.out.2.1 Hz.out.2.2 Hz.out.2.1 HK.out HQz.out.2 HQz.out.1).mono ?_
            rintro e w33 ⟨rfl, hb⟩
            replace Hm := Aside0.mk (Hm.out.below hb)
            replace Hz := Aside0.mk (Hz.out.below hb)
            replace HB := Aside0.mk (below_step HB.out hb)
            clear hb
            clear Hz HQz HK12
            go_wp2_with fail
            go_meet
            case rel => exact ⟨Hm, HB⟩
          · obtain rfl : bq = false := by rw [HBQ.out]; exact decide_eq_false hP
            clear hP
            go_wp2_with fail
            go_meet
            case rel => exact ⟨Hm, HB⟩
        case rest =>
          clear xm0 xm1 xm2 xm3
          clear Hm HB
          obtain ⟨Hm, HB⟩ := hcut
          obtain ⟨w34, rfl⟩ : ∃ W : World, W = wc := ⟨_, rfl⟩
          clear HBQ
          have xm0 := Hm.out.c0
          have xm1 := Hm.out.c1
          have xm2 := Hm.out.c2
          have xm3 := Hm.out.c3
          obtain ⟨bq, hbq⟩ : ∃ b : Bool, b = ((r : Int) == 1) := ⟨_, rfl⟩
          have HBQ := Aside0.mk hbq
          have hbq2 := hbq.symm
          clear hbq
          go_upto_if 169 with (fail)
          clear hbq2
          go_cut [] (fun wc => Aside0 (MB wc w.heap.size (r : Int) (c : Int) wd A l cA) ∧ Aside0 (Below w.heap.size w wc))
          case first =>
            by_cases hP : r = 1
            · obtain rfl : bq = true := by rw [HBQ.out, hP]; rfl
              have HR1 := Aside0.mk hP
              clear hP
              go_wp2_with fail
              clear xm0 xm1 xm2 xm3
              have hst : stretchE r c wd l (3 : Nat) c = 0 ∧ stretchL r c l (cleanV wd) c 3 = tab2 3 c (fun i j => cleanV wd (l.getD j 0)) ∧ checkV (3 : Nat) c wd (tab2 3 c (fun i j => cleanV wd (l.getD j 0))) = 0 ∧ rL wd c 2 1 (tab2 3 c (fun i j => cleanV wd (l.getD j 0))) = (l.map (cleanV wd)).map (cleanV wd) := stretch_all HK.out HR1.out HL6.out
              have HST := Aside0.mk hst
              clear hst
              have HF1 := stretch_good 8 r c wd A cA l 3 c w34 Hm.out.2.2 Hm.out.2.1 (by have := HL6.out; omega) HST.out.1
              rw [HST.out.2.1, show ((3 : Nat) : Int) = 3 from rfl] at HF1
              refine (HF1).mono ?_
              rintro e w35 h
              obtain ⟨Ls, As, cs, rfl, hle, hC, hQ, hb⟩ := AnsM.of (Q := fun L => L = tab2 3 c (fun i j => cleanV wd (l.getD j 0))) (by first | exact rfl | exact hQq) h
              have HQs := Aside0.mk hQ
              clear hQ h
              replace Hm := Aside0.mk (Hm.out.below hb)
              replace HB := Aside0.mk (below_step HB.out hb)
              clear hb
              replace Hm := Aside0.mk (Hm.out.alloc (Obj.cells (row4 3 c wd (.slice As Ls.length cs)) 25))
              have Hs := Aside0.mk (MB.new (W := w35) (r := 3) (c := c) (wd := wd) hle hC)
              replace HB := Aside0.mk (below_alloc HB.out (Obj.cells (row4 3 c wd (.slice As Ls.length cs)) 25))
              clear hle hC
              clear HF1
              have xm0 := Hm.out.c0
              have xm1 := Hm.out.c1
              have xm2 := Hm.out.c2
              have xm3 := Hm.out.c3
              have xs0 := Hs.out.c0
              have xs1 := Hs.out.c1
              have xs2 := Hs.out.c2
              have xs3 := Hs.out.c3
              go_wp2_with fail
              generalize w35.alloc (Obj.cells (row4 3 c wd (.slice As Ls.length cs)) 25) = w36 at Hm Hs HB ⊢
              generalize w35.heap.size = gs at Hs ⊢
              clear xm0 xm1 xm2 xm3
              clear xs0 xs1 xs2 xs3
              have HKs := Aside0.mk (show checkV (3 : Nat) c wd Ls = 0 by rw [HQs.out]; exact HST.out.2.2.1)
              have HF1 := rows_ok HKs.out As cs w36 Hs.out.2.2 Hs.out.2.1 2 3 (by decide) (by decide)
              rw [show ((3 : Nat) : Int) = 3 from rfl, show ((2 : Nat) : Int) = 2 from rfl, show ((3 - 2 : Nat) : Int) = (r : Int) by rw [HR1.out]] at HF1
              refine (HF1).mono ?_
              rintro e w37 h
              obtain ⟨Lt, At, ct, rfl, hle, hC, hQ, hb⟩ := AnsM.of (Q := fun L => L = rL wd c 2 1 Ls) (by first | exact rfl | exact hQq) h
              have HQt := Aside0.mk hQ
              clear hQ h
              replace Hm := Aside0.mk (Hm.out.below hb)
              replace Hs := Aside0.mk (Hs.out.below hb)
              replace HB := Aside0.mk (below_step HB.out hb)
              clear hb
              replace Hm := Aside0.mk (Hm.out.alloc (Obj.cells (row4 r c wd (.slice At Lt.length ct)) 25))
              replace Hs := Aside0.mk (Hs.out.alloc (Obj.cells (row4 r c wd (.slice At Lt.length ct)) 25))
              have Ht := Aside0.mk (MB.new (W := w37) (r := r) (c := c) (wd := wd) hle hC)
              replace HB := Aside0.mk (below_alloc HB.out (Obj.cells (row4 r c wd (.slice At Lt.length ct)) 25))
              clear hle hC
              clear HF1 Hs
              have xm0 := Hm.out.c0
              have xm1 := Hm.out.c1
              have xm2 := Hm.out.c2
              have xm3 := Hm.out.c3
              have xt0 := Ht.out.c0
              have xt1 := Ht.out.c1
              have xt2 := Ht.out.c2
              have xt3 := Ht.out.c3
              go_wp2_with fail
              generalize w37.alloc (Obj.cells (row4 r c wd (.slice At Lt.length ct)) 25) = w38 at Hm Ht HB ⊢
              generalize w37.heap.size = gt at Ht ⊢
              clear xm0 xm1 xm2 xm3
              clear xt0 xt1 xt2 xt3
              have HSt := Aside0.mk (show SameL wd l Lt ∧ checkV r c wd Lt = 0 by rw [HQt.out, HQs.out, HST.out.2.2.2]; exact ⟨same_two HF.out.1 l, map_check (map_check HK.out HF.out.2.1 HF.out.2.2.1 rfl) HF.out.2.1 HF.out.2.2.1 rfl⟩)
              have HF1 := Same_true r c wd A cA l At ct Lt w38 Hm.out.2.2 Hm.out.2.1 Ht.out.2.2 Ht.out.2.1 HK.out HSt.out.2 HSt.out.1
              refine (HF1).mono ?_
              rintro e w39 ⟨rfl, hb⟩
              replace Hm := Aside0.mk (Hm.out.below hb)
              replace Ht := Aside0.mk (Ht.out.below hb)
              replace HB := Aside0.mk (below_step HB.out hb)
              clear hb
              clear HF1 Ht HQt HQs HKs HST HSt
              go_wp2_with fail
              go_meet
              case rel => exact ⟨Hm, HB⟩
            · obtain rfl : bq = false := by rw [HBQ.out]; exact beq_eq_false_iff_ne.2 (by omega)
              clear hP
              go_wp2_with fail
              go_meet
              case rel => exact ⟨Hm, HB⟩
          case rest =>
            clear xm0 xm1 xm2 xm3
            clear Hm HB
            obtain ⟨Hm, HB⟩ := hcut
            obtain ⟨w40, rfl⟩ : ∃ W : World, W = wc := ⟨_, rfl⟩
            clear HBQ
            have xm0 := Hm.out.c0
            have xm1 := Hm.out.c1
            have xm2 := Hm.out.c2
            have xm3 := Hm.out.c3
            by_cases hP : wd = 32
            · have d5 : (wd == 32) = true := by rw [hP]; rfl
              have HW := Aside0.mk hP
              clear hP
              have HK32 := Aside0.mk (show checkV r c 32 l = 0 by have h := HK.out; rw [HW.out] at h; exact h)
              go_wp2_with fail
              clear xm0 xm1 xm2 xm3
              have HF1 := convert_calls (upL l) r c wd 64 A cA l w40 Hm.out.2.2 Hm.out.2.1 HK.out (.inr rfl) (by unfold upL; rw [List.length_map]) (by rw [HW.out]; exact up_at (check_ok HK32.out))
              rw [upL_clean (check_ok HK32.out)] at HF1
              refine (HF1).mono ?_
              rintro e w41 h
              obtain ⟨Lu, Au, cu, rfl, hle, hC, hQ, hb⟩ := AnsM.of (Q := fun L => L = upL l) (by first | exact rfl | exact hQq) h
              have HQu := Aside0.mk hQ
              clear hQ h
              replace Hm := Aside0.mk (Hm.out.below hb)
              replace HB := Aside0.mk (below_step HB.out hb)
              clear hb
              replace Hm := Aside0.mk (Hm.out.alloc (Obj.cells (row4 r c 64 (.slice Au Lu.length cu)) 25))
              have Hu := Aside0.mk (MB.new (W := w41) (r := r) (c := c) (wd := 64) hle hC)
              replace HB := Aside0.mk (below_alloc HB.out (Obj.cells (row4 r c 64 (.slice Au Lu.length cu)) 25))
              clear hle hC
              clear HF1
              have xm0 := Hm.out.c0
              have xm1 := Hm.out.c1
              have xm2 := Hm.out.c2
              have xm3 := Hm.out.c3
              have xu0 := Hu.out.c0
              have xu1 := Hu.out.c1
              have xu2 := Hu.out.c2
              have xu3 := Hu.out.c3
              go_wp2_with fail
              generalize w41.alloc (Obj.cells (row4 r c 64 (.slice Au Lu.length cu)) 25) = w42 at Hm Hu HB ⊢
              generalize w41.heap.size = gu at Hu ⊢
              clear xm0 xm1 xm2 xm3
              clear xu0 xu1 xu2 xu3
              have HKu := Aside0.mk (show checkV r c 64 Lu = 0 by rw [HQu.out]; exact upL_check HK32.out)
              have HF1 := convert_calls (dnL l) r c 64 32 Au cu Lu w42 Hu.out.2.2 Hu.out.2.1 HKu.out (.inl rfl) (by rw [HQu.out]; unfold dnL upL; rw [List.length_map, List.length_map]) (by rw [HQu.out]; exact dn_at (check_ok HK32.out))
              refine (HF1).mono ?_
              rintro e w43 h
              obtain ⟨Lv, Av, cv, rfl, hle, hC, hQ, hb⟩ := AnsM.of (Q := fun L => L = (dnL l).map (cleanV 32)) (by first | exact rfl | exact hQq) h
              have HQv := Aside0.mk hQ
              clear hQ h
              replace Hm := Aside0.mk (Hm.out.below hb)
              replace Hu := Aside0.mk (Hu.out.below hb)
              replace HB := Aside0.mk (below_step HB.out hb)
              clear hb
              replace Hm := Aside0.mk (Hm.out.alloc (Obj.cells (row4 r c 32 (.slice Av Lv.length cv)) 25))
              replace Hu := Aside0.mk (Hu.out.alloc (Obj.cells (row4 r c 32 (.slice Av Lv.length cv)) 25))
              have Hv := Aside0.mk (MB.new (W := w43) (r := r) (c := c) (wd := 32) hle hC)
              replace HB := Aside0.mk (below_alloc HB.out (Obj.cells (row4 r c 32 (.slice Av Lv.length cv)) 25))
              clear hle hC
              clear HF1 Hu
              have xm0 := Hm.out.c0
              have xm1 := Hm.out.c1
              have xm2 := Hm.out.c2
              have xm3 := Hm.out.c3
              have xv0 := Hv.out.c0
              have xv1 := Hv.out.c1
              have xv2 := Hv.out.c2
              have xv3 := Hv.out.c3
              go_wp2_with fail
              generalize w43.alloc (Obj.cells (row4 r c 32 (.slice Av Lv.length cv)) 25) = w44 at Hm Hv HB ⊢
              generalize w43.heap.size = gv at Hv ⊢
              clear xm0 xm1 xm2 xm3
              clear xv0 xv1 xv2 xv3
              have HSv := Aside0.mk (show SameL 32 l Lv ∧ checkV r c 32 Lv = 0 by rw [HQv.out]; exact ⟨dnL_same (check_ok HK32.out), dnL_check HK32.out⟩)
              have HF1 := Same_true r c 32 A cA l Av cv Lv w44 Hm.out.2.2 Hm.out.2.1 Hv.out.2.2 Hv.out.2.1 HK32.out HSv.out.2 HSv.out.1
              rw [HW.out]
              refine (HF1).mono ?_
              rintro e w45 ⟨rfl, hb⟩
              replace Hm := Aside0.mk (Hm.out.below hb)
              replace Hv := Aside0.mk (Hv.out.below hb)
              replace HB := Aside0.mk (below_step HB.out hb)
              clear hb
              clear HF1
              go_wp2
              go_ret
              exact ⟨rfl, HB.out⟩
            · have d5 : (wd == 32) = false := beq_eq_false_iff_ne.2 hP
              clear hP
              go_wp2
              go_ret
              exact ⟨rfl, HB.out⟩

set_option maxHeartbeats 4000000 in
set_option maxRecDepth 100000 in
theorem back_bad (r c : Int) (wd atk : Int) (A : Option Addr) (cA : Nat) (l : List Int) (w : World) (hC : (Kd.int .i64).C w A l.length l) (hcA : l.length ≤ cA) (hk : ¬ checkV r c wd l = 0) :
    Calls Try.prog 11 #[.agg #[.int .i64 r, .int .i64 c, .int .i64 wd, .slice A l.length cA], .int .i64 atk] w fun e w' => e = .returned (.bool true) ∧ Below w.heap.size w w' := by
  have hne : (checkV r c wd l != 0) = true := by simpa using hk
  clear hk
  go_enter Try.func11, Try.ntmps11
  go_wp2_with fail
  have Hm := Aside0.mk (MB.new (W := w) (r := r) (c := c) (wd := wd) hcA hC)
  have HB := Aside0.mk (below_alloc (Below.refl w.heap.size w) (Obj.cells (row4 r c wd (.slice A l.length cA)) 25))
  clear hC hcA
  generalize w.alloc (Obj.cells (row4 r c wd (.slice A l.length cA)) 25) = w1 at Hm HB ⊢
  have HGM := Aside0.mk (show ∃ g, g = w.heap.size from ⟨_, rfl⟩)
  refine (alive_calls w1).mono ?_
  rintro e w2 ⟨rfl, hb⟩
  replace Hm := Aside0.mk (Hm.out.below hb)
  replace HB := Aside0.mk (below_step HB.out hb)
  clear hb
  have xm0 := Hm.out.c0
  have xm1 := Hm.out.c1
  have xm2 := Hm.out.c2
  have xm3 := Hm.out.c3
  go_wp2_with fail
  clear xm0 xm1 xm2 xm3
  refine (tensor_Check.calls (l.length + 3) r c wd A cA l (checkV r c wd l) w2 Hm.out.2.2 Hm.out.2.1 (by rw [check_any _ _ _ _ _ (by omega)])).mono ?_
  rintro e w3 ⟨rfl, hb⟩
  replace Hm := Aside0.mk (Hm.out.below hb)
  replace HB := Aside0.mk (below_step HB.out hb)
  clear hb
  generalize checkV r c wd l = er at hne ⊢
  have xm0 := Hm.out.c0
  have xm1 := Hm.out.c1
  have xm2 := Hm.out.c2
  have xm3 := Hm.out.c3
  go_wp2_with fail
  clear xm0 xm1 xm2 xm3
  refine (pupillaw7_num.calls er er w3 rfl).mono ?_
  rintro e w4 ⟨rfl, hb⟩
  replace hb := hb.below
  replace Hm := Aside0.mk (Hm.out.below hb)
  replace HB := Aside0.mk (below_step HB.out hb)
  clear hb
  have xm0 := Hm.out.c0
  have xm1 := Hm.out.c1
  have xm2 := Hm.out.c2
  have xm3 := Hm.out.c3
  go_wp2
  go_ret
  exact ⟨rfl, HB.out⟩

set_option maxHeartbeats 4000000 in
set_option maxRecDepth 100000 in
theorem back_long (r c : Int) (wd atk : Int) (A : Option Addr) (cA : Nat) (l : List Int) (w : World) (hC : (Kd.int .i64).C w A l.length l) (hcA : l.length ≤ cA) (hk : checkV r c wd l = 0) (h6 : 600 < l.length) :
    Calls Try.prog 11 #[.agg #[.int .i64 r, .int .i64 c, .int .i64 wd, .slice A l.length cA], .int .i64 atk] w fun e w' => e = .returned (.bool true) ∧ Below w.heap.size w w' := by
  have HK := Aside0.mk hk
  have d1 : decide ((600 : Int) < (l.length : Int)) = true := decide_eq_true (by omega)
  clear hk h6
  go_enter Try.func11, Try.ntmps11
  go_wp2_with fail
  have Hm := Aside0.mk (MB.new (W := w) (r := r) (c := c) (wd := wd) hcA hC)
  have HB := Aside0.mk (below_alloc (Below.refl w.heap.size w) (Obj.cells (row4 r c wd (.slice A l.length cA)) 25))
  clear hC hcA
  generalize w.alloc (Obj.cells (row4 r c wd (.slice A l.length cA)) 25) = w1 at Hm HB ⊢
  have HGM := Aside0.mk (show ∃ g, g = w.heap.size from ⟨_, rfl⟩)
  refine (alive_calls w1).mono ?_
  rintro e w2 ⟨rfl, hb⟩
  replace Hm := Aside0.mk (Hm.out.below hb)
  replace HB := Aside0.mk (below_step HB.out hb)
  clear hb
  have xm0 := Hm.out.c0
  have xm1 := Hm.out.c1
  have xm2 := Hm.out.c2
  have xm3 := Hm.out.c3
  go_wp2_with fail
  clear xm0 xm1 xm2 xm3
  refine (tensor_Check.calls (l.length + 3) r c wd A cA l (checkV r c wd l) w2 Hm.out.2.2 Hm.out.2.1 (by rw [check_any _ _ _ _ _ (by omega)])).mono ?_
  rintro e w3 ⟨rfl, hb⟩
  replace Hm := Aside0.mk (Hm.out.below hb)
  replace HB := Aside0.mk (below_step HB.out hb)
  clear hb
  rw [HK.out]
  have xm0 := Hm.out.c0
  have xm1 := Hm.out.c1
  have xm2 := Hm.out.c2
  have xm3 := Hm.out.c3
  go_wp2_with fail
  clear xm0 xm1 xm2 xm3
  refine (pupillaw7_num.calls 0 0 w3 rfl).mono ?_
  rintro e w4 ⟨rfl, hb⟩
  replace hb := hb.below
  replace Hm := Aside0.mk (Hm.out.below hb)
  replace HB := Aside0.mk (below_step HB.out hb)
  clear hb
  have xm0 := Hm.out.c0
  have xm1 := Hm.out.c1
  have xm2 := Hm.out.c2
  have xm3 := Hm.out.c3
  go_wp2
  go_ret
  exact ⟨rfl, HB.out⟩

theorem back_calls (r c wd atk : Int) (A : Option Addr) (cA : Nat) (l : List Int) (w : World) (hC : (Kd.int .i64).C w A l.length l) (hcA : l.length ≤ cA) (hat : atk ≤ 9223372036854775807) :
    Calls Try.prog 11 #[.agg #[.int .i64 r, .int .i64 c, .int .i64 wd, .slice A l.length cA], .int .i64 atk] w fun e w' => e = .returned (.bool true) ∧ Below w.heap.size w w' := by
  by_cases hk : checkV r c wd l = 0
  · by_cases h6 : l.length ≤ 600
    · obtain ⟨_, h1, h2, _⟩ := check_form hk
      obtain ⟨R, rfl⟩ : ∃ n : Nat, r = n := ⟨r.toNat, by omega⟩
      obtain ⟨C, rfl⟩ : ∃ n : Nat, c = n := ⟨c.toNat, by omega⟩
      exact back_good R C wd atk A cA l w hC hcA hk h6 hat
    · exact back_long r c wd atk A cA l w hC hcA hk (by omega)
  · exact back_bad r c wd atk A cA l w hC hcA hk
end Bk
end Go.Proofs.Ytklomikdihlcgaa
