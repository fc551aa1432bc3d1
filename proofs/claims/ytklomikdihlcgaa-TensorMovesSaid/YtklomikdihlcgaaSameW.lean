/- Both sides' moves of a matrix in form are one. -/
import Derived.Test.YtklomikdihlcgaaLmW
namespace Go.Proofs.Ytklomikdihlcgaa
open Go.RowKit PBase
open Go.Proofs.YtklomikdihlcgaaW.PrintWords Go.Proofs.YtklomikdihlcgaaW.PrintLast Go.Proofs.YtklomikdihlcgaaW.PrintMore
set_option linter.unusedVariables false
set_option linter.unusedSimpArgs false

/-- what is known of a move of a matrix in form -/
def MoveFacts (ms : List Mat) (wd er r0 r1 r2 : Int) (pl : List (Int × Int)) : Prop := pl.length ≤ 100000 ∧ (∀ p ∈ pl, inMs ms p) ∧ (er ≠ 0 → r0 = 0 ∧ r1 = 0 ∧ r2 = 0 ∧ pl = []) ∧ (er = 0 → r2 = wd)
theorem facts_bad (ms : List Mat) (wd er : Int) (h : er ≠ 0) : MoveFacts ms wd er 0 0 0 [] := ⟨by simp, (fun p hp => by cases hp), (fun _ => ⟨rfl, rfl, rfl, rfl⟩), (fun e => absurd e h)⟩

theorem grid_in {f : Nat → Nat → Nat} {p0 q0 n m N : Nat} {r c wd : Int} {l : List Int} (hl : l.length = N) (h : ∀ a b, p0 ≤ a → a < p0 + m → q0 ≤ b → b < q0 + n → f a b < N) : ∀ p ∈ gridP f p0 q0 n m, inMs [(r, c, wd, l)] p := by
  intro p hp
  simp only [gridP, rowP, List.mem_flatMap, List.mem_map, List.mem_range] at hp
  obtain ⟨i, hi, j, hj, rfl⟩ := hp
  have := h (p0 + i) (q0 + j) (by omega) (by omega) (by omega) (by omega)
  refine ⟨by simp, by simp, by simp only []; omega, ?_⟩
  simp only [matAt, Int.toNat_zero, List.getD_cons_zero, hl]
  omega
theorem row_in {n N : Nat} {r c wd : Int} {l : List Int} (hl : l.length = N) (hn : n ≤ N) : ∀ p ∈ rowP (fun _ b => b) 0 0 n, inMs [(r, c, wd, l)] p := by
  intro p hp
  simp only [rowP, List.mem_map, List.mem_range] at hp
  obtain ⟨j, hj, rfl⟩ := hp
  refine ⟨by simp, by simp, by simp only []; omega, ?_⟩
  simp only [matAt, Int.toNat_zero, List.getD_cons_zero, hl]
  omega
theorem cut_lt {R C a b : Nat} (ha : a < R) (hb : b < C) : a * C + b < R * C := by
  have h2 : (a + 1) * C ≤ R * C := Nat.mul_le_mul_right C ha
  have h3 : (a + 1) * C = a * C + C := by rw [Nat.add_mul, Nat.one_mul]
  omega

theorem nat_form {R C : Nat} {wd : Int} {l : List Int} (h : checkV R C wd l = 0) : (wd = 32 ∨ wd = 64) ∧ 1 ≤ R ∧ 1 ≤ C ∧ R ≤ 4096 ∧ C ≤ 4096 ∧ R * C ≤ 4096 ∧ l.length = R * C := by
  obtain ⟨c0, c1, c2, c3, c4, c5, c6, c7⟩ := check_form h
  rw [← Int.natCast_mul] at c5 c6
  exact ⟨c0, by omega, by omega, by omega, by omega, by omega, by omega⟩

theorem same_form (R C : Nat) (wd : Int) (l : List Int) (a b : Int) (hck : checkV R C wd l = 0) : ∃ er r0 r1 r2 pl, MoveFacts [((R : Int), (C : Int), wd, l)] wd er r0 r1 r2 pl ∧
    (∀ (A : Option Addr) (cA : Nat) (w : World), (Kd.int .i64).C w A l.length l → l.length ≤ cA → Calls Try.prog 33 #[.agg #[.int .i64 (R : Int), .int .i64 (C : Int), .int .i64 wd, .slice A l.length cA], .int .i64 a, .int .i64 b] w (AnsP w er r0 r1 r2 (pl.map fun p => cleanV wd (elemAt [((R : Int), (C : Int), wd, l)] p)))) ∧
    (∀ w : World, Calls Try.prog 39 #[.agg #[.int .i64 (R : Int), .int .i64 (C : Int), .int .i64 wd], .int .i64 a, .int .i64 b] w (MoveP w er r0 r1 r2 pl)) := by
  obtain ⟨hw, c1, c2, c3, c4, c5, c6⟩ := nat_form hck
  have hl6 : l.length ≤ 1000000 := by omega
  by_cases h : formOk a b ((R * C : Nat) : Int)
  · obtain ⟨h1, h2, h3, h4, h5⟩ := h
    obtain ⟨r, rfl⟩ : ∃ n : Nat, a = n := ⟨a.toNat, by omega⟩
    obtain ⟨c, rfl⟩ : ∃ n : Nat, b = n := ⟨b.toNat, by omega⟩
    have h6 : r * c = R * C := by rw [← Int.natCast_mul] at h5; omega
    have h7 : 1 ≤ R * C := Nat.mul_pos c1 c2
    refine ⟨0, (r : Int), (c : Int), wd, rowP (fun _ b => b) 0 0 (R * C - 0), ⟨(by rw [rowP_length]; omega), (row_in c6 (by omega)), fun h => absurd rfl h, fun _ => rfl⟩, fun A cA w hC hcA => ?_, fun w => refForm_good R C wd r c (R * C) w c5 rfl h6 h7 (by omega) (by omega)⟩
    refine outer_33 R C wd A cA l.length r c 0 r c wd _ w fun W1 hB h1 h2 => ?_
    exact moved_calls (l.length + 3) 72 #[.pointer (some ⟨w.heap.size + 1, 0, none⟩), .pointer (some ⟨w.heap.size + 1 + 1, 0, none⟩)] R C wd r c wd A cA l _ (cleanV wd) W1 (Kd.C_below hC hB) hcA (by rw [check_eq _ _ _ _ _ (by omega) (by omega), hck]) (fun W' hW' => ⟨fun args => enters_ Try.func72 (by kernel_rfl) (by kernel_rfl) args W', clos_72 R C wd r c 0 r c wd _ _ _ W' (blk_below h1 hW') (blk_below h2 hW') fun W2 hW2 => Forming_good R C wd r c (R * C) W2 c5 rfl h6 h7 (by omega) (by omega)⟩) (by rw [rowP_length]; omega) (row_in c6 (by omega)) (fun x => clean_at (l.length + 2) x hw)
  · skip
    refine ⟨4, 0, 0, 0, [], facts_bad _ _ _ (by decide), fun A cA w hC hcA => ?_, fun w => (refForm_bad R C (R * C) wd a b w rfl c5 h).mono fun e w' h => moveP_none h⟩
    refine outer_33 R C wd A cA l.length a b 4 0 0 0 _ w fun W1 hB h1 h2 => ?_
    exact moved_badF 72 #[.pointer (some ⟨w.heap.size + 1, 0, none⟩), .pointer (some ⟨w.heap.size + 1 + 1, 0, none⟩)] R C wd A cA l 4 W1 (Kd.C_below hC hB) hcA hl6 hck (by decide) fun W' hW' => ⟨fun args => enters_ Try.func72 (by kernel_rfl) (by kernel_rfl) args W', clos_72 R C wd a b 4 0 0 0 _ _ [] W' (blk_below h1 hW') (blk_below h2 hW') fun W2 hW2 => (Forming_bad R C (R * C) wd a b W2 rfl c5 h).mono fun e w' h => moveP_none h⟩

theorem same_cols (R C : Nat) (wd : Int) (l : List Int) (a b : Int) (hck : checkV R C wd l = 0) : ∃ er r0 r1 r2 pl, MoveFacts [((R : Int), (C : Int), wd, l)] wd er r0 r1 r2 pl ∧
    (∀ (A : Option Addr) (cA : Nat) (w : World), (Kd.int .i64).C w A l.length l → l.length ≤ cA → Calls Try.prog 34 #[.agg #[.int .i64 (R : Int), .int .i64 (C : Int), .int .i64 wd, .slice A l.length cA], .int .i64 a, .int .i64 b] w (AnsP w er r0 r1 r2 (pl.map fun p => cleanV wd (elemAt [((R : Int), (C : Int), wd, l)] p)))) ∧
    (∀ w : World, Calls Try.prog 40 #[.agg #[.int .i64 (R : Int), .int .i64 (C : Int), .int .i64 wd], .int .i64 0, .int .i64 (R : Int), .int .i64 a, .int .i64 b] w (MoveP w er r0 r1 r2 pl)) := by
  obtain ⟨hw, c1, c2, c3, c4, c5, c6⟩ := nat_form hck
  have hl6 : l.length ≤ 1000000 := by omega
  by_cases h : a < 0 ∨ b > C ∨ a ≥ b
  · skip
    refine ⟨5, 0, 0, 0, [], facts_bad _ _ _ (by decide), fun A cA w hC hcA => ?_, fun w => (refCut_bad R C wd 0 R a b w (by omega)).mono fun e w' h => moveP_none h⟩
    refine outer_34 R C wd A cA l.length a b 5 0 0 0 _ w fun W1 hB h1 h2 => ?_
    exact moved_badF 74 #[.pointer (some ⟨w.heap.size + 1, 0, none⟩), .pointer (some ⟨w.heap.size + 1 + 1, 0, none⟩)] R C wd A cA l 5 W1 (Kd.C_below hC hB) hcA hl6 hck (by decide) fun W' hW' => ⟨fun args => enters_ Try.func74 (by kernel_rfl) (by kernel_rfl) args W', clos_74 R C wd a b 5 0 0 0 _ _ [] W' (blk_below h1 hW') (blk_below h2 hW') fun W2 hW2 => (Cutting_bad R C wd 0 R a b W2 (by omega)).mono fun e w' h => moveP_none h⟩
  · obtain ⟨r, rfl⟩ : ∃ n : Nat, a = n := ⟨a.toNat, by omega⟩
    obtain ⟨c, rfl⟩ : ∃ n : Nat, b = n := ⟨b.toNat, by omega⟩
    refine ⟨0, ((R - 0 : Nat) : Int), ((c - r : Nat) : Int), wd, gridP (fun a b => a * C + b) 0 r (c - r) (R - 0), ⟨(by rw [gridP_length]; have : (R - 0) * (c - r) ≤ 4096 * 4096 := Nat.mul_le_mul (by omega) (by omega); exact Nat.le_trans (Nat.mul_le_mul (Nat.le_refl _) (show c - r ≤ C by omega)) (by rw [Nat.sub_zero]; omega)), (grid_in c6 (fun p q _ hp _ hq => cut_lt (by omega) (by omega))), fun h => absurd rfl h, fun _ => rfl⟩, fun A cA w hC hcA => ?_, fun w => refCut_good R C wd 0 R r c w c3 c4 (by omega) (Nat.le_refl _) (by omega) (by omega)⟩
    refine outer_34 R C wd A cA l.length r c 0 ((R - 0 : Nat) : Int) ((c - r : Nat) : Int) wd _ w fun W1 hB h1 h2 => ?_
    exact moved_calls (l.length + 3) 74 #[.pointer (some ⟨w.heap.size + 1, 0, none⟩), .pointer (some ⟨w.heap.size + 1 + 1, 0, none⟩)] R C wd ((R - 0 : Nat) : Int) ((c - r : Nat) : Int) wd A cA l _ (cleanV wd) W1 (Kd.C_below hC hB) hcA (by rw [check_eq _ _ _ _ _ (by omega) (by omega), hck]) (fun W' hW' => ⟨fun args => enters_ Try.func74 (by kernel_rfl) (by kernel_rfl) args W', clos_74 R C wd r c 0 ((R - 0 : Nat) : Int) ((c - r : Nat) : Int) wd _ _ _ W' (blk_below h1 hW') (blk_below h2 hW') fun W2 hW2 => Cutting_good R C wd 0 R r c W2 c3 c4 (by omega) (Nat.le_refl _) (by omega) (by omega)⟩) (by rw [gridP_length]; have : (R - 0) * (c - r) ≤ 4096 * 4096 := Nat.mul_le_mul (by omega) (by omega); exact Nat.le_trans (Nat.mul_le_mul (Nat.le_refl _) (show c - r ≤ C by omega)) (by rw [Nat.sub_zero]; omega)) (grid_in c6 (fun p q _ hp _ hq => cut_lt (by omega) (by omega))) (fun x => clean_at (l.length + 2) x hw)

theorem same_rows (R C : Nat) (wd : Int) (l : List Int) (a b : Int) (hck : checkV R C wd l = 0) : ∃ er r0 r1 r2 pl, MoveFacts [((R : Int), (C : Int), wd, l)] wd er r0 r1 r2 pl ∧
    (∀ (A : Option Addr) (cA : Nat) (w : World), (Kd.int .i64).C w A l.length l → l.length ≤ cA → Calls Try.prog 35 #[.agg #[.int .i64 (R : Int), .int .i64 (C : Int), .int .i64 wd, .slice A l.length cA], .int .i64 a, .int .i64 b] w (AnsP w er r0 r1 r2 (pl.map fun p => cleanV wd (elemAt [((R : Int), (C : Int), wd, l)] p)))) ∧
    (∀ w : World, Calls Try.prog 40 #[.agg #[.int .i64 (R : Int), .int .i64 (C : Int), .int .i64 wd], .int .i64 a, .int .i64 b, .int .i64 0, .int .i64 (C : Int)] w (MoveP w er r0 r1 r2 pl)) := by
  obtain ⟨hw, c1, c2, c3, c4, c5, c6⟩ := nat_form hck
  have hl6 : l.length ≤ 1000000 := by omega
  by_cases h : a < 0 ∨ b > R ∨ a ≥ b
  · skip
    refine ⟨5, 0, 0, 0, [], facts_bad _ _ _ (by decide), fun A cA w hC hcA => ?_, fun w => (refCut_bad R C wd a b 0 C w (by omega)).mono fun e w' h => moveP_none h⟩
    refine outer_35 R C wd A cA l.length a b 5 0 0 0 _ w fun W1 hB h1 h2 => ?_
    exact moved_badF 76 #[.pointer (some ⟨w.heap.size + 1, 0, none⟩), .pointer (some ⟨w.heap.size + 1 + 1, 0, none⟩)] R C wd A cA l 5 W1 (Kd.C_below hC hB) hcA hl6 hck (by decide) fun W' hW' => ⟨fun args => enters_ Try.func76 (by kernel_rfl) (by kernel_rfl) args W', clos_76 R C wd a b 5 0 0 0 _ _ [] W' (blk_below h1 hW') (blk_below h2 hW') fun W2 hW2 => (Cutting_bad R C wd a b 0 C W2 (by omega)).mono fun e w' h => moveP_none h⟩
  · obtain ⟨r, rfl⟩ : ∃ n : Nat, a = n := ⟨a.toNat, by omega⟩
    obtain ⟨c, rfl⟩ : ∃ n : Nat, b = n := ⟨b.toNat, by omega⟩
    refine ⟨0, ((c - r : Nat) : Int), ((C - 0 : Nat) : Int), wd, gridP (fun a b => a * C + b) r 0 (C - 0) (c - r), ⟨(by rw [gridP_length]; exact Nat.le_trans (Nat.mul_le_mul (show c - r ≤ R by omega) (Nat.le_refl _)) (by rw [Nat.sub_zero]; omega)), (grid_in c6 (fun p q _ hp _ hq => cut_lt (by omega) (by omega))), fun h => absurd rfl h, fun _ => rfl⟩, fun A cA w hC hcA => ?_, fun w => refCut_good R C wd r c 0 C w c3 c4 (by omega) (by omega) (by omega) (Nat.le_refl _)⟩
    refine outer_35 R C wd A cA l.length r c 0 ((c - r : Nat) : Int) ((C - 0 : Nat) : Int) wd _ w fun W1 hB h1 h2 => ?_
    exact moved_calls (l.length + 3) 76 #[.pointer (some ⟨w.heap.size + 1, 0, none⟩), .pointer (some ⟨w.heap.size + 1 + 1, 0, none⟩)] R C wd ((c - r : Nat) : Int) ((C - 0 : Nat) : Int) wd A cA l _ (cleanV wd) W1 (Kd.C_below hC hB) hcA (by rw [check_eq _ _ _ _ _ (by omega) (by omega), hck]) (fun W' hW' => ⟨fun args => enters_ Try.func76 (by kernel_rfl) (by kernel_rfl) args W', clos_76 R C wd r c 0 ((c - r : Nat) : Int) ((C - 0 : Nat) : Int) wd _ _ _ W' (blk_below h1 hW') (blk_below h2 hW') fun W2 hW2 => Cutting_good R C wd r c 0 C W2 c3 c4 (by omega) (by omega) (by omega) (Nat.le_refl _)⟩) (by rw [gridP_length]; exact Nat.le_trans (Nat.mul_le_mul (show c - r ≤ R by omega) (Nat.le_refl _)) (by rw [Nat.sub_zero]; omega)) (grid_in c6 (fun p q _ hp _ hq => cut_lt (by omega) (by omega))) (fun x => clean_at (l.length + 2) x hw)

theorem same_win (R C : Nat) (wd : Int) (l : List Int) (a b : Int) (hck : checkV R C wd l = 0) : ∃ er r0 r1 r2 pl, MoveFacts [((R : Int), (C : Int), wd, l)] wd er r0 r1 r2 pl ∧
    (∀ (A : Option Addr) (cA : Nat) (w : World), (Kd.int .i64).C w A l.length l → l.length ≤ cA → Calls Try.prog 36 #[.agg #[.int .i64 (R : Int), .int .i64 (C : Int), .int .i64 wd, .slice A l.length cA], .int .i64 a, .int .i64 b] w (AnsP w er r0 r1 r2 (pl.map fun p => cleanV wd (elemAt [((R : Int), (C : Int), wd, l)] p)))) ∧
    (∀ w : World, Calls Try.prog 41 #[.agg #[.int .i64 (R : Int), .int .i64 (C : Int), .int .i64 wd], .int .i64 a, .int .i64 b] w (MoveP w er r0 r1 r2 pl)) := by
  obtain ⟨hw, c1, c2, c3, c4, c5, c6⟩ := nat_form hck
  have hl6 : l.length ≤ 1000000 := by omega
  by_cases h : winE R C wd a b = 0
  case neg =>
    refine ⟨(winE R C wd a b), 0, 0, 0, [], facts_bad _ _ _ h, fun A cA w hC hcA => ?_, fun w => (refWin_bad R C wd a b _ w c4 rfl h).mono fun e w' h => moveP_none h⟩
    refine outer_36 R C wd A cA l.length a b (winE R C wd a b) 0 0 0 _ w fun W1 hB h1 h2 => ?_
    exact moved_badF 77 #[.pointer (some ⟨w.heap.size + 1, 0, none⟩), .pointer (some ⟨w.heap.size + 1 + 1, 0, none⟩)] R C wd A cA l (winE R C wd a b) W1 (Kd.C_below hC hB) hcA hl6 hck h fun W' hW' => ⟨fun args => enters_ Try.func77 (by kernel_rfl) (by kernel_rfl) args W', clos_77 R C wd a b (winE R C wd a b) 0 0 0 _ _ [] W' (blk_below h1 hW') (blk_below h2 hW') fun W2 hW2 => (Windowing_bad R C wd a b _ W2 c4 rfl h).mono fun e w' h => moveP_none h⟩
  case pos =>
    rcases win_err h c4 with ⟨_, e⟩ | ⟨_, _, e⟩ | ⟨_, _, _, _, e⟩ | ⟨hR, n, st, m, rfl, rfl, hn1, hst, hn, hm, hm4, hsz⟩
    · exact absurd e (by decide)
    · exact absurd e (by decide)
    · exact absurd e (by decide)
    have hz := sized_form2 hsz
    rw [← Int.natCast_mul] at hz
    refine ⟨0, (m : Int), (n : Int), wd, gridP (fun a b => a * st + b) 0 0 (n - 0) (m - 0), ⟨(by rw [gridP_length, Nat.sub_zero, Nat.sub_zero]; omega), (grid_in c6 (fun p q _ hp _ hq => by have := (win_place (p := p) (q := q) c4 hn hm (by omega) (by omega)).2; subst hR; omega)), fun h => absurd rfl h, fun _ => rfl⟩, fun A cA w hC hcA => ?_, fun w => refWin_good R C wd n st m w hR c4 hn1 hst hn hm hsz hm4 (by omega)⟩
    refine outer_36 R C wd A cA l.length n st 0 m n wd _ w fun W1 hB h1 h2 => ?_
    exact moved_calls (l.length + 3) 77 #[.pointer (some ⟨w.heap.size + 1, 0, none⟩), .pointer (some ⟨w.heap.size + 1 + 1, 0, none⟩)] R C wd m n wd A cA l _ (cleanV wd) W1 (Kd.C_below hC hB) hcA (by rw [check_eq _ _ _ _ _ (by omega) (by omega), hck]) (fun W' hW' => ⟨fun args => enters_ Try.func77 (by kernel_rfl) (by kernel_rfl) args W', clos_77 R C wd n st 0 m n wd _ _ _ W' (blk_below h1 hW') (blk_below h2 hW') fun W2 hW2 => Windowing_good R C wd n st m W2 hR c4 hn1 hst hn hm hsz hm4 (by omega)⟩) (by rw [gridP_length, Nat.sub_zero, Nat.sub_zero]; omega) (grid_in c6 (fun p q _ hp _ hq => by have := (win_place (p := p) (q := q) c4 hn hm (by omega) (by omega)).2; subst hR; omega)) (fun x => clean_at (l.length + 2) x hw)


end Go.Proofs.Ytklomikdihlcgaa
