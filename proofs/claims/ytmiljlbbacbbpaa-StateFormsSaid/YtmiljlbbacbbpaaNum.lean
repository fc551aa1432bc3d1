/- (state.reader).number, within: what they tell, or the stop that they panic with. -/
import Derived.Test.YtmiljlbbacbbpaaFin
import Derived.Test.YtmiljlbbacbbpaaPBasestatehead
namespace Go.Proofs.Ytmiljlbbacbbpaa
open Go.RowKit PBase
open Go.Proofs.YtmiljlbbacbbpaaW.PrintWords Go.Proofs.YtmiljlbbacbbpaaW.PrintLast Go.Proofs.YtmiljlbbacbbpaaW.PrintMore
set_option linter.unusedVariables false
set_option linter.unusedSimpArgs false

abbrev IsB (W : World) (g : Nat) (cs : Array Value) (t : Nat) : Prop := W.heap[g]? = some (.cells cs t (0, 0))
/-- only block g has changed, and what is new -/
def Moves (g : Nat) (w w' : World) : Prop := Below g w w' ∧ KeepBut w w' g none
theorem Moves.refl (g : Nat) {w : World} (h : g ≤ w.heap.size) : Moves g w w := ⟨Below.refl _ _, KeepBut.refl _ _ _⟩

/-- a number in n bytes, the lowest first -/
def numU (b : List Int) (at_ : Nat) : Nat → Nat
  | 0 => 0
  | i + 1 => numU b at_ i + (b.getD (at_ + i) 0).toNat * 256 ^ i
def Bytes (b : List Int) : Prop := ∀ x ∈ b, 0 ≤ x ∧ x < 256
theorem byte_at {b : List Int} (h : Bytes b) (i : Nat) : 0 ≤ b.getD i 0 ∧ b.getD i 0 < 256 := by
  rw [List.getD_eq_getElem?_getD]
  by_cases hi : i < b.length
  · rw [List.getElem?_eq_getElem hi]; exact h _ (List.getElem_mem hi)
  · rw [List.getElem?_eq_none (by omega)]; exact ⟨by decide, by decide⟩
theorem numU_lt {b : List Int} (h : Bytes b) (at_ : Nat) : ∀ n, numU b at_ n < 256 ^ n
  | 0 => by simp [numU]
  | n + 1 => by
    have h1 := numU_lt h at_ n
    have h2 := byte_at h (at_ + n)
    have h3 : (b.getD (at_ + n) 0).toNat * 256 ^ n ≤ 255 * 256 ^ n := Nat.mul_le_mul_right _ (by omega)
    unfold numU
    rw [Nat.pow_succ]
    omega

/-- what reading comes to: a value and the next place, or a stop and its place -/
inductive PR (α : Type) where
  | ok (v : α) (at_ : Nat)
  | stop (e p : Int)
def numberP (b : List Int) (n at_ : Nat) : PR Int := if b.length < at_ + n then .stop 50 b.length else .ok (wrap64 (numU b at_ n : Nat)) (at_ + n)
def withinP (b : List Int) (n : Nat) (lo hi : Int) (at_ : Nat) : PR Int :=
  match numberP b n at_ with
  | .stop e p => .stop e p
  | .ok x a => if x < lo ∨ hi < x then .stop 51 at_ else .ok x a

/-- the stop that reading gives up with -/
abbrev stopV (e at_ : Int) : Ending := .panicked [{ v := .iface 70 (.agg #[.int .i64 e, .int .i64 at_]), recovered := false }]

set_option maxHeartbeats 1000000 in
set_option maxRecDepth 100000 in
theorem number_end (g : Nat) (A : Option Addr) (c : Nat) (l : List Int) (at_ n : Nat) (w : World) (hI : IsB w g #[.slice A l.length c, .int .i64 at_] 74) (hl : l.length ≤ 100000000) (ha : at_ ≤ l.length) (hn : n ≤ 8) (h : l.length < at_ + n) :
    Calls Try.prog 36 #[.pointer (some ⟨g, 0, none⟩), .int .i64 n] w fun e w' => e = stopV 50 l.length ∧ Drawn0 w w' := by
  have d1 : decide ((l.length : Int) - (at_ : Int) < (n : Int)) = true := decide_eq_true (by omega)
  have b1 : (l.length : Int) ≤ 100000000 := by omega
  have b2 : (at_ : Int) ≤ 100000000 := by omega
  have c0 := (blk_cell hI 0).trans rfl
  have c1 := (blk_cell hI 1).trans rfl
  have HI := Aside0.mk hI
  clear hI hl ha hn h
  go_enter Try.func36, Try.ntmps36
  go_wp2
  go_quiet (fail)
  rename_i nq
  go_wp2
  exact ⟨rfl, rfl, ⟨⟨nq, rfl⟩⟩⟩

theorem shl_byte {x : Int} (h0 : 0 ≤ x) (h1 : x < 256) {i : Nat} (hi : i < 8) : x * 2 ^ (8 * i) = ((x.toNat * 256 ^ i : Nat) : Int) ∧ x.toNat * 256 ^ i < 18446744073709551616 := by
  have e : (256 : Nat) ^ i = 2 ^ (8 * i) := by rw [show (256 : Nat) = 2 ^ 8 from rfl, ← Nat.pow_mul]
  refine ⟨?_, ?_⟩
  · rw [e, Int.natCast_mul]
    rw [Int.toNat_of_nonneg h0]
    simp
  · rw [e]
    have h2 : x.toNat * 2 ^ (8 * i) ≤ 255 * 2 ^ (8 * 7) := Nat.mul_le_mul (by omega) (Nat.pow_le_pow_right (by omega) (by omega))
    have h3 : 255 * 2 ^ (8 * 7) < 18446744073709551616 := by decide
    omega
theorem or_step {b : List Int} (h : Bytes b) {at_ i : Nat} (hi : i < 8) : bits .or .u64 ((numU b at_ i : Nat) : Int) (((b.getD (at_ + i) 0).toNat * 256 ^ i : Nat) : Int) = ((numU b at_ (i + 1) : Nat) : Int) := by
  have h1 := numU_lt h at_ i
  have h2 := (shl_byte (byte_at h (at_ + i)).1 (byte_at h (at_ + i)).2 hi).2
  have e : (256 : Nat) ^ i = 2 ^ (8 * i) := by rw [show (256 : Nat) = 2 ^ 8 from rfl, ← Nat.pow_mul]
  have h3 : numU b at_ i < 18446744073709551616 := by
    have : (256 : Nat) ^ i ≤ 256 ^ 7 := Nat.pow_le_pow_right (by omega) (by omega)
    have h4 : (256 : Nat) ^ 7 < 18446744073709551616 := by decide
    omega
  have h4 := numU_lt h at_ (i + 1)
  have h5 : (256 : Nat) ^ (i + 1) ≤ 256 ^ 8 := Nat.pow_le_pow_right (by omega) (by omega)
  have h6 : (256 : Nat) ^ 8 = 18446744073709551616 := by decide
  have b1 : (BitVec.ofInt 64 ((numU b at_ i : Nat) : Int)).toNat = numU b at_ i := by rw [BitVec.ofInt_natCast, BitVec.toNat_ofNat]; exact Nat.mod_eq_of_lt h3
  have b2 : (BitVec.ofInt 64 (((b.getD (at_ + i) 0).toNat * 256 ^ i : Nat) : Int)).toNat = (b.getD (at_ + i) 0).toNat * 256 ^ i := by rw [BitVec.ofInt_natCast, BitVec.toNat_ofNat]; exact Nat.mod_eq_of_lt h2
  show IntKind.u64.wrap ((BitVec.ofInt 64 ((numU b at_ i : Nat) : Int) ||| BitVec.ofInt 64 (((b.getD (at_ + i) 0).toNat * 256 ^ i : Nat) : Int)).toNat : Int) = _
  rw [BitVec.toNat_or, b1, b2]
  have hor : numU b at_ i ||| (b.getD (at_ + i) 0).toNat * 256 ^ i = numU b at_ (i + 1) := by
    rw [Nat.or_comm, e, ← Nat.shiftLeft_eq, ← Nat.shiftLeft_add_eq_or_of_lt (by rw [← e]; exact h1), Nat.shiftLeft_eq, ← e]
    show _ = numU b at_ i + (b.getD (at_ + i) 0).toNat * 256 ^ i
    exact Nat.add_comm _ _
  rw [hor, IntKind.wrap_u64]
  omega
theorem u8_at {w : World} {A : Option Addr} {l : List Int} (hC : (Kd.int .u8).C w A l.length l) (i : Nat) (hi : i < l.length) : ∃ ad, A = some ad ∧ w.cell? (ad.add i) = some (.int .u8 (l.getD i 0)) := by
  obtain ⟨ad, hA, hc⟩ := Kd.at_int hC (i : Int) (by omega) (by omega)
  exact ⟨ad, hA, by simpa [rd] using hc⟩

set_option maxHeartbeats 2000000 in
set_option maxRecDepth 100000 in
theorem number_ok (g : Nat) (A : Option Addr) (c : Nat) (l : List Int) (at_ n : Nat) (w : World) (hI : IsB w g #[.slice A l.length c, .int .i64 at_] 74) (hC : (Kd.int .u8).C w A l.length l) (hl : l.length ≤ 100000000) (hB : Bytes l) (hn : n ≤ 8) (h : at_ + n ≤ l.length) :
    Calls Try.prog 36 #[.pointer (some ⟨g, 0, none⟩), .int .i64 n] w fun e w' => e = .returned (.int .i64 (wrap64 (numU l at_ n : Nat))) ∧ IsB w' g #[.slice A l.length c, .int .i64 (at_ + n : Nat)] 74 ∧ Moves g w w' := by
  have d1 : decide ((l.length : Int) - (at_ : Int) < (n : Int)) = false := decide_eq_false (by omega)
  have b1 : (l.length : Int) ≤ 100000000 := by omega
  have b2 : (at_ : Int) ≤ 100000000 := by omega
  have b3 : (n : Int) ≤ 8 := by omega
  have c0 := (blk_cell hI 0).trans rfl
  have c1 := (blk_cell hI 1).trans rfl
  have HI := Aside0.mk hI
  have HH := Aside0.mk (And.intro hC (And.intro hB (And.intro hn h)))
  clear hI hl hC hB hn h
  go_enter Try.func36, Try.ntmps36
  go_wp2
  go_quiet (fail)
  rename_i nq
  go_wp2
  have HD := Aside0.mk (show Drawn0 w (w.drewN nq) from ⟨⟨nq, rfl⟩⟩)
  generalize w.drewN nq = w1 at HD ⊢
  clear c0 c1 d1
  go_loopg [5, 6, 27] n (fun kq v5 v6 v27 w' => ∃ i : Nat, v5 = .int .u64 (numU l at_ i : Nat) ∧ v27 = .int .i64 i ∧ Aside0 (i + kq = n) ∧ Aside0 (Drawn0 w w'))
  case atStart => exact ⟨0, rfl, rfl, ⟨by omega⟩, HD⟩
  case round =>
    clear HD
    obtain ⟨i, rfl, rfl, HI2, HD⟩ := hrel
    have hIr : IsB wr g #[.slice A l.length c, .int .i64 at_] 74 := by obtain ⟨q, rfl⟩ := HD.out.out; exact blk_drewN HI.out q
    have HIr := Aside0.mk hIr
    clear hIr
    have c0 := (blk_cell HIr.out 0).trans rfl
    have c1 := (blk_cell HIr.out 1).trans rfl
    by_cases hlt : i < n
    · have hq := HH.out.2.2
      have d1 : decide (i < n) = true := decide_eq_true hlt
      obtain ⟨ad, hA, g0⟩ := u8_at HH.out.1 (at_ + i) (by omega)
      have g0' : wr.cell? (ad.add (at_ + i)) = some (.int .u8 (l.getD (at_ + i) 0)) := by obtain ⟨q, rfl⟩ := HD.out.out; exact g0
      have HY := byte_at HH.out.2.1 (at_ + i)
      have hsl := shl_byte HY.1 HY.2 (i := i) (by omega)
      have hor := or_step HH.out.2.1 (at_ := at_) (i := i) (by omega)
      have HLT := Aside0.mk hlt
      have hS1 : IntKind.u64.wrap ((((l.getD (at_ + i) 0).toNat * 256 ^ i : Nat) : Int)) = (((l.getD (at_ + i) 0).toNat * 256 ^ i : Nat) : Int) := by rw [IntKind.wrap_u64]; have := hsl.2; omega
      rw [← hsl.1] at hS1
      have hor2 := hor
      rw [← hsl.1] at hor2
      clear hor hsl
      generalize l.getD (at_ + i) 0 = y at g0' HY hS1 hor2
      obtain ⟨y0, y1⟩ := HY
      obtain ⟨U1, hU1⟩ : ∃ U, U = numU l at_ (i + 1) := ⟨_, rfl⟩
      rw [← hU1] at hor2
      have HU1 := Aside0.mk hU1
      generalize numU l at_ i = U at hor2
      clear hU1 g0
      subst hA
      have hi8 : (i : Int) ≤ 8 := by omega
      have hbd : at_ + i < l.length := by omega
      have hbd1 : ((at_ : Int) + (i : Int)) < (l.length : Int) := by omega
      have htn : ((at_ : Int) + (i : Int)).toNat = at_ + i := by omega
      clear hq
      go_wp2
      go_quiet (fail)
      rename_i nq
      go_wp2
      have HD2 := Aside0.mk (Drawn0.step HD.out nq)
      go_roundg (gk - 1)
      case measure => have := HI2.out; have := HLT.out; omega
      case rel => exact ⟨i + 1, by rw [HU1.out], rfl, ⟨by have := HI2.out; have := HLT.out; omega⟩, HD2⟩
    · have d1 : decide (i < n) = false := decide_eq_false hlt
      have hin : i = n := by have := HI2.out; omega
      have HIN := Aside0.mk hin
      rw [hin]
      clear hin hlt
      have f1 := blk_frozen HIr.out 1
      go_wp2
      go_ret
      have hset := blk_set HIr.out 1 (.int .i64 ((at_ : Int) + (n : Int)))
      have hdr := HD.out
      refine ⟨rfl, hset, ?_, ?_⟩
      · exact (hdr.below.mono (Nat.le_of_lt (blk_lt HI.out))).setCell (Nat.le_refl _) _
      · exact (KeepBut.of_below hdr.below g none).set_ 1 _

theorem Moves.trans {g : Nat} {a b c : World} (h : Moves g a b) (k : Moves g b c) : Moves g a c := ⟨h.1.trans k.1, h.2.trans k.2 (.inl rfl)⟩
theorem Moves.of_drawn {g : Nat} {w w' : World} (h : Drawn0 w w') (hg : g ≤ w.heap.size) : Moves g w w' := ⟨h.below.mono hg, KeepBut.of_below h.below g none⟩
/-- what a call of a reader's function does -/
def PostP (g : Nat) (A : Option Addr) (c : Nat) (l : List Int) (w : World) (r : PR Int) (e : Ending) (w' : World) : Prop :=
  match r with
  | .ok x a => e = .returned (.int .i64 x) ∧ IsB w' g #[.slice A l.length c, .int .i64 (a : Nat)] 74 ∧ Moves g w w' ∧ a ≤ l.length
  | .stop q p => e = stopV q p ∧ Moves g w w'
theorem number_any (g : Nat) (A : Option Addr) (c : Nat) (l : List Int) (at_ n : Nat) (w : World) (hI : IsB w g #[.slice A l.length c, .int .i64 at_] 74) (hC : (Kd.int .u8).C w A l.length l) (hl : l.length ≤ 100000000) (hB : Bytes l) (ha : at_ ≤ l.length) (hn : n ≤ 8) :
    Calls Try.prog 36 #[.pointer (some ⟨g, 0, none⟩), .int .i64 n] w (PostP g A c l w (numberP l n at_)) := by
  unfold numberP
  by_cases h : l.length < at_ + n
  · rw [if_pos h]
    exact (number_end g A c l at_ n w hI hl ha hn h).mono fun e w' hh => ⟨hh.1, Moves.of_drawn hh.2 (Nat.le_of_lt (blk_lt hI))⟩
  · rw [if_neg h]
    exact (number_ok g A c l at_ n w hI hC hl hB hn (by omega)).mono fun e w' hh => ⟨hh.1, hh.2.1, hh.2.2, by omega⟩

set_option maxHeartbeats 2000000 in
set_option maxRecDepth 100000 in
theorem within_any (g : Nat) (A : Option Addr) (c : Nat) (l : List Int) (at_ n : Nat) (lo hi : Int) (w : World) (hI : IsB w g #[.slice A l.length c, .int .i64 at_] 74) (hC : (Kd.int .u8).C w A l.length l) (hl : l.length ≤ 100000000) (hB : Bytes l) (ha : at_ ≤ l.length) (hn : n ≤ 8) :
    Calls Try.prog 35 #[.pointer (some ⟨g, 0, none⟩), .int .i64 n, .int .i64 lo, .int .i64 hi] w (PostP g A c l w (withinP l n lo hi at_)) := by
  have HN := Aside0.mk (number_any g A c l at_ n w hI hC hl hB ha hn)
  have c1 := (blk_cell hI 1).trans rfl
  obtain ⟨r2, hr2⟩ : ∃ r2, r2 = withinP l n lo hi at_ := ⟨_, rfl⟩
  rw [← hr2]
  unfold withinP at hr2
  clear hI hC hl hB ha hn
  generalize numberP l n at_ = r at HN hr2
  have HR2 := Aside0.mk hr2
  clear hr2
  go_enter Try.func35, Try.ntmps35
  go_wp2_with fail
  cases r with
  | stop q p =>
    refine (HN.out).mono ?_
    rintro e w2 ⟨rfl, hm⟩
    have HM := Aside0.mk hm
    clear hm HN
    go_wp2
    refine ⟨rfl, ?_⟩
    rw [HR2.out]
    exact ⟨rfl, HM.out⟩
  | ok x a =>
    refine (HN.out).mono ?_
    rintro e w2 ⟨rfl, hI2, hm, ha⟩
    have HM := Aside0.mk (And.intro hm (And.intro hI2 ha))
    clear hm HN hI2 ha c1
    by_cases h1 : x < lo
    · have d1 : decide (x < lo) = true := decide_eq_true h1
      have HIF := Aside0.mk (show r2 = PR.stop 51 at_ by rw [HR2.out]; exact if_pos (.inl h1))
      clear h1 HR2
      go_wp2
      refine ⟨rfl, ?_⟩
      rw [HIF.out]
      exact ⟨rfl, HM.out.1⟩
    · by_cases h2 : hi < x
      · have d1 : decide (x < lo) = false := decide_eq_false h1
        have d2 : decide (hi < x) = true := decide_eq_true h2
        have HIF := Aside0.mk (show r2 = PR.stop 51 at_ by rw [HR2.out]; exact if_pos (.inr h2))
        clear h1 h2 HR2
        go_wp2
        refine ⟨rfl, ?_⟩
        rw [HIF.out]
        exact ⟨rfl, HM.out.1⟩
      · have d1 : decide (x < lo) = false := decide_eq_false h1
        have d2 : decide (hi < x) = false := decide_eq_false h2
        have HIF := Aside0.mk (show r2 = PR.ok x a by rw [HR2.out]; exact if_neg (by omega))
        clear h1 h2 HR2
        go_wp2
        go_ret
        rw [HIF.out]
        exact ⟨rfl, HM.out.2.1, HM.out.1, HM.out.2.2⟩
end Go.Proofs.Ytmiljlbbacbbpaa
