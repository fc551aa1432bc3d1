/- What the row of words is, in plain numbers: a word's place and value, the number that is drawn below n, an order. No program in sight. -/
import Derived.Test.YtpobladocccnmaaMix
import Derived.RowKit
namespace Go.Proofs.Ytpobladocccnmaa
open Go.RowKit Mix

/-- an int as a word -/
def uw (x : Int) : Nat := (x % 18446744073709551616).toNat

theorem uw_lt (x : Int) : uw x < 18446744073709551616 := by
  unfold uw; omega

theorem uw_wrap (x : Int) : uw (wrap64 x) = uw x := by
  unfold uw wrap64; omega

theorem uw_cast (x : Int) : ((uw x : Nat) : Int) = x % 18446744073709551616 := by
  unfold uw; omega

theorem uw_inj {x y : Int} (hx : -9223372036854775808 ≤ x ∧ x ≤ 9223372036854775807) (hy : -9223372036854775808 ≤ y ∧ y ≤ 9223372036854775807) (h : uw x = uw y) : x = y := by
  unfold uw at h; omega

def keyN (s t : Int) : Nat := mix (uw s ^^^ mix ((uw t + 7146057691288625177) % 18446744073709551616))

theorem keyN_lt (s t : Int) : keyN s t < 18446744073709551616 := mix_lt _

/-- the word at a place -/
def wordP (s t : Int) (p : Nat) : Nat := mix ((keyN s t + p * 11400714819323198485) % 18446744073709551616)

theorem wordP_lt (s t : Int) (p : Nat) : wordP s t p < 18446744073709551616 := mix_lt _

theorem wordP_mod (s t : Int) (p : Nat) : wordP s t (p % 18446744073709551616) = wordP s t p := by
  unfold wordP
  rw [Nat.add_mod, Nat.mod_mul_mod, ← Nat.add_mod]

theorem add_cancel {k x y : Nat} (h : (k + x) % 18446744073709551616 = (k + y) % 18446744073709551616) : x % 18446744073709551616 = y % 18446744073709551616 := by
  omega

theorem step_inj {k p q : Nat} (hp : p < 18446744073709551616) (hq : q < 18446744073709551616)
    (h : (k + p * 11400714819323198485) % 18446744073709551616 = (k + q * 11400714819323198485) % 18446744073709551616) : p = q := by
  exact mul_inj (M := 18446744073709551616) (C := 11400714819323198485) (I := 17428512612931826493) invS hp hq (add_cancel h)

theorem wordP_inj {s t : Int} {p q : Nat} (hp : p < 18446744073709551616) (hq : q < 18446744073709551616) (h : wordP s t p = wordP s t q) : p = q :=
  step_inj hp hq (mix_inj (Nat.mod_lt _ (by omega)) (Nat.mod_lt _ (by omega)) h)

/-- so many words are too many for n -/
def over (n : Nat) : Nat := (18446744073709551616 - n) % n

theorem over_lt {n : Nat} (hn : 0 < n) : over n < n := Nat.mod_lt _ hn

/-- is the word that stands j on taken for a number below n? -/
def okAt (s t at_ : Int) (n j : Nat) : Prop := wordP s t (uw at_ + j + 1) ≤ 18446744073709551615 - over n

instance (s t at_ : Int) (n j : Nat) : Decidable (okAt s t at_ n j) := by unfold okAt; infer_instance

/-- of over n + 1 words in line one is taken -/
theorem ok_soon (s t at_ : Int) {n : Nat} (hn : 0 < n) (hn2 : n ≤ 9223372036854775807) : ∃ j, j ≤ over n ∧ okAt s t at_ n j := by
  by_cases h : ∃ j, j ≤ over n ∧ okAt s t at_ n j
  · exact h
  · exfalso
    have ho := over_lt hn
    have hbad : ∀ j, j ≤ over n → 18446744073709551615 - over n < wordP s t (uw at_ + j + 1) := by
      intro j hj
      have h1 : ¬ okAt s t at_ n j := fun hk => h ⟨j, hj, hk⟩
      unfold okAt at h1
      omega
    have := pigeon (over n) (over n + 1) (fun j => wordP s t (uw at_ + j + 1) - (18446744073709551616 - over n)) (by
      intro j hj
      have h1 := hbad j (by omega)
      have h2 := wordP_lt s t (uw at_ + j + 1)
      show wordP s t (uw at_ + j + 1) - (18446744073709551616 - over n) < over n
      omega) (by
      intro i j hi hj e
      have h1 := hbad i (by omega)
      have h2 := hbad j (by omega)
      have e' : wordP s t (uw at_ + i + 1) = wordP s t (uw at_ + j + 1) := by
        have e0 : wordP s t (uw at_ + i + 1) - (18446744073709551616 - over n) = wordP s t (uw at_ + j + 1) - (18446744073709551616 - over n) := e
        omega
      rw [← wordP_mod s t (uw at_ + i + 1), ← wordP_mod s t (uw at_ + j + 1)] at e'
      have e2 := wordP_inj (Nat.mod_lt _ (by omega)) (Nat.mod_lt _ (by omega)) e'
      omega)
    omega

theorem least_of {p : Nat → Prop} [DecidablePred p] : ∀ (m : Nat), p m → ∃ j, j ≤ m ∧ p j ∧ ∀ i, i < j → ¬ p i := by
  intro m
  induction m using Nat.strongRecOn with
  | _ m ih =>
    intro hm
    by_cases h : ∃ i, i < m ∧ p i
    · obtain ⟨i, hi, hp⟩ := h
      obtain ⟨j, hj, h1, h2⟩ := ih i hi hp
      exact ⟨j, by omega, h1, h2⟩
    · exact ⟨m, Nat.le_refl _, hm, fun i hi hp => h ⟨i, hi, hp⟩⟩

theorem first_ok (s t at_ : Int) {n : Nat} (hn : 0 < n) (hn2 : n ≤ 9223372036854775807) :
    ∃ j, j ≤ over n ∧ okAt s t at_ n j ∧ ∀ i, i < j → ¬ okAt s t at_ n i := by
  obtain ⟨m, hm, h⟩ := ok_soon s t at_ hn hn2
  obtain ⟨j, hj, h1, h2⟩ := least_of (p := okAt s t at_ n) m h
  exact ⟨j, by omega, h1, h2⟩

open Classical in
/-- how many words are passed over ahead of the one that is taken -/
noncomputable def passed (s t at_ : Int) (n : Nat) : Nat :=
  if h : 0 < n ∧ n ≤ 9223372036854775807 then Classical.choose (first_ok s t at_ h.1 h.2) else 0

theorem passed_spec (s t at_ : Int) {n : Nat} (hn : 0 < n) (hn2 : n ≤ 9223372036854775807) :
    passed s t at_ n ≤ over n ∧ okAt s t at_ n (passed s t at_ n) ∧ ∀ i, i < passed s t at_ n → ¬ okAt s t at_ n i := by
  unfold passed
  rw [dif_pos ⟨hn, hn2⟩]
  exact Classical.choose_spec (first_ok s t at_ hn hn2)

/-- the number that is drawn -/
noncomputable def belowV (s t at_ : Int) (n : Nat) : Nat := wordP s t (uw at_ + passed s t at_ n + 1) % n
/-- the place behind it -/
noncomputable def belowA (s t at_ : Int) (n : Nat) : Int := wrap64 (at_ + passed s t at_ n + 1)

theorem belowV_lt (s t at_ : Int) {n : Nat} (hn : 0 < n) : belowV s t at_ n < n := Nat.mod_lt _ hn

theorem wrap64_range (x : Int) : -9223372036854775808 ≤ wrap64 x ∧ wrap64 x ≤ 9223372036854775807 := by
  unfold wrap64; omega

theorem wrap64_id {x : Int} (h : -9223372036854775808 ≤ x ∧ x ≤ 9223372036854775807) : wrap64 x = x := by
  unfold wrap64; omega

/-- two elements change places -/
def swapL (l : List Int) (i j : Nat) : List Int := (l.set i (l.getD j 0)).set j (l.getD i 0)

theorem swapL_length (l : List Int) (i j : Nat) : (swapL l i j).length = l.length := by simp [swapL]

/-- the rest of a shuffle: from place i downward -/
noncomputable def shufGo (s t : Int) : Nat → List Int → Int → List Int × Int
  | 0, l, a => (l, a)
  | i + 1, l, a => shufGo s t i (swapL l (i + 1) (belowV s t a (i + 2))) (belowA s t a (i + 2))

def upTo (n : Nat) : List Int := (List.range n).map (fun i : Nat => (i : Int))

theorem upTo_length (n : Nat) : (upTo n).length = n := by simp [upTo]

theorem upTo_succ (n : Nat) : upTo (n + 1) = upTo n ++ [(n : Int)] := by simp [upTo, List.range_succ]

noncomputable def shuf (s t a : Int) (n : Nat) : List Int × Int := shufGo s t (n - 1) (upTo n) a

theorem shufGo_length (s t : Int) : ∀ (i : Nat) (l : List Int) (a : Int), (shufGo s t i l a).1.length = l.length
  | 0, _, _ => rfl
  | i + 1, l, a => by rw [shufGo, shufGo_length s t i, swapL_length]

theorem shuf_length (s t a : Int) (n : Nat) : (shuf s t a n).1.length = n := by rw [shuf, shufGo_length, upTo_length]

/-- another row's beginning -/
def splitN (s t k : Int) : Int := wrap64 (mix (keyN s t ^^^ mix ((uw k + 15111065706836454659) % 18446744073709551616)) : Nat)

end Go.Proofs.Ytpobladocccnmaa
