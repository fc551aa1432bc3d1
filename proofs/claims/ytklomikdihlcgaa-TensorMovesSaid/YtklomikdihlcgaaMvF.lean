/- TensorMoves: the law comes to true. -/
import Derived.Test.YtklomikdihlcgaaMvG
namespace Go.Proofs.Ytklomikdihlcgaa
open Go.RowKit PBase
open Go.Proofs.YtklomikdihlcgaaW.PrintWords Go.Proofs.YtklomikdihlcgaaW.PrintLast Go.Proofs.YtklomikdihlcgaaW.PrintMore
set_option linter.unusedVariables false
set_option linter.unusedSimpArgs false

theorem facts_len {ms : List Mat} {wd er r0 r1 r2 : Int} {pl : List (Int × Int)} (h : MoveFacts ms wd er r0 r1 r2 pl) (f : Int × Int → Int) : (pl.map f).length ≤ 100000 := by
  rw [List.length_map]; exact h.1

theorem mv_calls (r c wd : Int) (A : Option Addr) (cA : Nat) (l : List Int) (a b : Int) (w : World) (hC : (Kd.int .i64).C w A l.length l) (hcA : l.length ≤ cA) (hr : InR l) :
    Calls Try.prog 7 #[.agg #[.int .i64 r, .int .i64 c, .int .i64 wd, .slice A l.length cA], .int .i64 a, .int .i64 b] w fun e w' => e = .returned (.bool true) ∧ Below w.heap.size w w' := by
  by_cases hl : l.length > 5000
  · exact mv_long r c wd A cA l a b hl w hC hcA hr
  · by_cases hE : checkV r c wd l = 0
    · obtain ⟨hw, c1, c2, c3, c4, c5, c6, c7⟩ := check_form hE
      obtain ⟨R, rfl⟩ : ∃ n : Nat, r = n := ⟨r.toNat, by omega⟩
      obtain ⟨C, rfl⟩ : ∃ n : Nat, c = n := ⟨c.toNat, by omega⟩
      obtain ⟨hw, c1, c2, c3, c4, c5, c6⟩ := nat_form hE
      obtain ⟨e1, p1, q1, s1, pl1, F1, T1, U1⟩ := same_form R C wd l a b hE
      obtain ⟨e2, p2, q2, s2, pl2, F2, T2, U2⟩ := same_cols R C wd l a b hE
      obtain ⟨e3, p3, q3, s3, pl3, F3, T3, U3⟩ := same_rows R C wd l a b hE
      obtain ⟨e4, p4, q4, s4, pl4, F4, T4, U4⟩ := same_win R C wd l a b hE
      have F0 : MoveFacts [((R : Int), (C : Int), wd, l)] wd 0 C R wd (turnL R C C) := ⟨by rw [turnL_length, Nat.mul_comm]; omega, turn_in R C wd l c6, fun h => absurd rfl h, fun _ => rfl⟩
      exact mv_good R C wd A cA l a b 0 C R wd _ (turnL R C C) e1 p1 q1 s1 _ pl1 e2 p2 q2 s2 _ pl2 e3 p3 q3 s3 _ pl3 e4 p4 q4 s4 _ pl4
        (fun A cA w hC hcA => Turn_calls (l.length + 3) R C wd A cA l (cleanV wd) w c3 c4 c6 (by omega) hC hcA (by rw [check_eq _ _ _ _ _ (by omega) (by omega), hE]) (fun x => clean_at (l.length + 2) x hw)) (facts_len F0 _)
        T1 (facts_len F1 _) T2 (facts_len F2 _) T3 (facts_len F3 _) T4 (facts_len F4 _)
        (fun w => refTurn_calls R C wd w c3 c4) F0 rfl U1 F1 rfl U2 F2 rfl U3 F3 rfl U4 F4 rfl rfl (by omega) hE w hC hcA hr
    · have hk : checkV r c wd l = checkV r c wd l ∧ checkV r c wd l ≠ 0 := ⟨rfl, hE⟩
      have hl6 : l.length ≤ 1000000 := by omega
      exact mv_bad r c wd A cA l a b (checkV r c wd l) (fun A cA w hC hcA => turn_bad r c wd A cA l _ w hC hcA hl6 hk)
        (fun A cA w hC hcA => outer_33 r c wd A cA l.length a b _ 0 0 0 [] w fun W1 hB _ _ => moved_badC _ r c wd A cA l _ W1 (Kd.C_below hC hB) hcA hl6 hk)
        (fun A cA w hC hcA => outer_34 r c wd A cA l.length a b _ 0 0 0 [] w fun W1 hB _ _ => moved_badC _ r c wd A cA l _ W1 (Kd.C_below hC hB) hcA hl6 hk)
        (fun A cA w hC hcA => outer_35 r c wd A cA l.length a b _ 0 0 0 [] w fun W1 hB _ _ => moved_badC _ r c wd A cA l _ W1 (Kd.C_below hC hB) hcA hl6 hk)
        (fun A cA w hC hcA => outer_36 r c wd A cA l.length a b _ 0 0 0 [] w fun W1 hB _ _ => moved_badC _ r c wd A cA l _ W1 (Kd.C_below hC hB) hcA hl6 hk)
        (by omega) hk w hC hcA hr

end Go.Proofs.Ytklomikdihlcgaa
