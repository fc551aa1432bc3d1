/- state.Read: the state that is read, or the stop and its place. -/
import Derived.Test.YtmiljlbbacbbpaaRdA
import Derived.Test.YtmiljlbbacbbpaaPBasestateSum
namespace Go.Proofs.Ytmiljlbbacbbpaa
open Go.RowKit PBase
open Go.Proofs.YtmiljlbbacbbpaaW.PrintWords Go.Proofs.YtmiljlbbacbbpaaW.PrintLast Go.Proofs.YtmiljlbbacbbpaaW.PrintMore
set_option linter.unusedVariables false
set_option linter.unusedSimpArgs false

def PR.bind {α β : Type} (x : PR α) (f : α → Nat → PR β) : PR β :=
  match x with
  | .ok v a => f v a
  | .stop q p => .stop q p
@[simp] theorem PR.bind_ok {α β : Type} (v : α) (a : Nat) (f : α → Nat → PR β) : (PR.ok v a).bind f = f v a := rfl
@[simp] theorem PR.bind_stop {α β : Type} (q p : Int) (f : α → Nat → PR β) : (PR.stop q p : PR α).bind f = .stop q p := rfl

def headP (b : List Int) : List Int → Nat → PR Unit
  | [], a => .ok () a
  | x :: xs, a => (withinP b 1 x x a).bind fun _ a => headP b xs a
def matsP (b : List Int) : Nat → Nat → List S56 → PR (List S56)
  | 0, a, acc => .ok acc a
  | k + 1, a, acc => (matrixP b a).bind fun m a => matsP b k a (acc ++ [m])
def slotsP (b : List Int) : Nat → Nat → List (List S56) → PR (List (List S56))
  | 0, a, acc => .ok acc a
  | k + 1, a, acc => (withinP b 1 0 4 a).bind fun n a => (matsP b n.toNat a []).bind fun s a => slotsP b k a (acc ++ [s])
structure Row where
  step : Int
  epoch : Int
  batch : Int
  params : List S56
  slots : List (List S56)
  loss : Int
  rate : Int
def sumV (l : List Int) : Int := (state_Sum.f (l.length + 1) l).getD 0
def read4 (b : List Int) (x : Row) (a : Nat) : PR Row :=
  (numberP b 4 a).bind fun s a' => if s ≠ sumV (b.take a) then .stop 52 a else if a' < b.length then .stop 51 a' else .ok x a'
def read3 (b : List Int) (s0 s1 s2 l r : Int) (ps : List S56) (a : Nat) : PR Row :=
  (withinP b 2 0 64 a).bind fun n a => (slotsP b n.toNat a []).bind fun ss a => read4 b ⟨s0, s1, s2, ps, ss, l, r⟩ a
def read2 (b : List Int) (s0 s1 s2 : Int) (a : Nat) : PR Row :=
  (numberP b 8 a).bind fun l a => (numberP b 8 a).bind fun r a => (withinP b 2 0 64 a).bind fun n a => (matsP b n.toNat a []).bind fun ps a => read3 b s0 s1 s2 l r ps a
def read1 (b : List Int) (a : Nat) : PR Row :=
  (withinP b 8 0 1099511627776 a).bind fun s0 a => (withinP b 8 0 1099511627776 a).bind fun s1 a => (withinP b 8 0 1099511627776 a).bind fun s2 a => read2 b s0 s1 s2 a
def readP (b : List Int) : PR Row :=
  if b.length > 16777216 then .stop 2 0 else (headP b [112, 115, 116, 1] 0).bind fun _ a => read1 b a

abbrev cells7 (s0 s1 s2 : Int) (v3 v4 : Value) (l r : Int) : Array Value := #[.int .i64 s0, .int .i64 s1, .int .i64 s2, v3, v4, .int .i64 l, .int .i64 r]
def PostR (w : World) (r : PR Row) (e : Ending) (w' : World) : Prop :=
  match r with
  | .ok x _ => ∃ v3 v4, e = .returned (.tuple #[.agg (cells7 x.step x.epoch x.batch v3 v4 x.loss x.rate), .int .i64 0, .int .i64 0]) ∧ Kd.S k56 56 w' w.heap.size (fun _ => True) v3 x.params ∧ Kd.R (Kd.slice 56 k56) 22 w' w.heap.size (fun k => some k ≠ v3.ownBlock) v4 x.slots ∧ Below w.heap.size w w'
  | .stop q p => e = .returned (.tuple #[.agg zeros7, .int .i64 p, .int .i64 q]) ∧ Below w.heap.size w w'

/-- where the reading stands: the named results, the reader -/
structure RD (w W : World) (g : Nat) (cs : Array Value) (A : Option Addr) (n c a : Nat) : Prop where
  HB : Below w.heap.size w W
  HS : IsB W w.heap.size cs 25
  HP : IsB W (w.heap.size + 1) #[.int .i64 0] 3
  HE : IsB W (w.heap.size + 2) #[.int .i64 0] 42
  HI : IsB W g #[.slice A n c, .int .i64 a] 74
  HG : w.heap.size + 2 < g
  HA : a ≤ n
theorem RD.moves {w W W' : World} {g : Nat} {cs : Array Value} {A : Option Addr} {n c a a' : Nat} (h : RD w W g cs A n c a) (hm : Moves g W W') (hI : IsB W' g #[.slice A n c, .int .i64 a'] 74) (ha : a' ≤ n) : RD w W' g cs A n c a' :=
  ⟨h.HB.trans (hm.1.mono (by have := h.HG; omega)), hm.blk h.HS (by have := h.HG; omega), hm.blk h.HP (by have := h.HG; omega), hm.blk h.HE (by have := h.HG; omega), hI, h.HG, ha⟩
theorem RD.stop {w W W' : World} {g : Nat} {s0 s1 s2 l r : Int} {v3 v4 : Value} {A : Option Addr} {n c a : Nat} (h : RD w W g (cells7 s0 s1 s2 v3 v4 l r) A n c a) (hm : Moves g W W') {tmps : Array Value} (hn : Named tmps w.heap.size) {q p : Int} {res : PR Row} (hr : res = .stop q p) :
    Leaves Try.prog Try.f18 tmps (PostR w res) [dfr w.heap.size] (.panicking [entry q p false]) W' := by
  have hg := h.HG
  subst hr
  refine read_stop hn (hm.blk h.HS (by omega)) (hm.blk h.HP (by omega)) (hm.blk h.HE (by omega)) (Below.refl _ W') ?_
  intro W2 hb
  exact ⟨rfl, (h.HB.trans (hm.1.mono (by omega))).trans hb⟩
theorem RD.C {w W : World} {g : Nat} {cs : Array Value} {A : Option Addr} {n c a : Nat} (h : RD w W g cs A n c a) {l : List Int} (hC : (Kd.int .u8).C w A l.length l) : (Kd.int .u8).C W A l.length l := Kd.C_below hC h.HB

theorem blk_newE {W : World} {o : Obj} {k : Nat} (h : k = W.heap.size) : (W.alloc o).heap[k]? = some o := h ▸ blk_new W o
theorem RD.below {w W W' : World} {g : Nat} {cs : Array Value} {A : Option Addr} {n c a : Nat} (h : RD w W g cs A n c a) (hb : Below W.heap.size W W') : RD w W' g cs A n c a :=
  ⟨h.HB.trans (hb.mono h.HB.size), blk_below h.HS hb, blk_below h.HP hb, blk_below h.HE hb, blk_below h.HI hb, h.HG, h.HA⟩
theorem RD.put {w W : World} {g : Nat} {cs cs' : Array Value} {A : Option Addr} {n c a : Nat} (h : RD w W g cs A n c a) (i : Nat) (v : Value) (e : cs.setIfInBounds i v = cs') : RD w (W.setCell ⟨w.heap.size, i, none⟩ v) g cs' A n c a :=
  ⟨h.HB.setCell (Nat.le_refl _) v, blk_put h.HS i v e, blk_far h.HP (by show w.heap.size + 1 ≠ w.heap.size; omega) v, blk_far h.HE (by show w.heap.size + 2 ≠ w.heap.size; omega) v, blk_far h.HI (by have := h.HG; show g ≠ w.heap.size; omega) v, h.HG, h.HA⟩
theorem goesE_ {ops : Array Oper} {Q : Exit → Act → World → Prop} {oi : Oper} {N : Option Tmp} {a : Act} {w : World} {K : Act → World → Prop} {f : FuncId} {fn : Func} {as_ : Array Operand} {ts : Array TypeId} (hf : Try.prog.funcs[f]? = some fn) (hname : (fn.name == "runtime.NumGoroutine") = false) (hb : fn.body.isSome = true) (args : Array Value)
    (hw : Region.wanted oi (yielded ops a.tmps) = true) (hN : oi.dst = N) (hop : oi.op = .call { callee := .value (.func f), args := as_, argTypes := ts }) (hargs : as_.map a.eval = args)
    (h : Calls Try.prog f args w fun
      | .returned v, w' => K (a.put N v) w'
      | .panicked c, w' => Q (.panic c) a w'
      | .outgrown, _ => LetsOut Q) : if Region.wanted oi (yielded ops a.tmps) = true then Oper.wp Try.prog oi a w K Q else K (a.put N undef) w := by
  rw [if_pos hw]
  have he := enters_ hf hname hb args w
  have hrun : (execOp a.eval oi).run Try.prog w = .ok (.enter f args) w := by
    unfold execOp
    simp [hop, resolve, Deferred.ofValue, invoke, Act.eval, hargs, he]
  unfold Oper.wp
  rw [hrun, Oper.upon_enter]
  subst hN
  exact h
theorem RD.grown {w W W' : World} {g : Nat} {cs : Array Value} {A : Option Addr} {n c a : Nat} {row : Option Nat} (h : RD w W g cs A n c a) (hb : Below w.heap.size W W') (hg : W.grownBy W' row) (h0 : some w.heap.size ≠ row) (h1 : some (w.heap.size + 1) ≠ row) (h2 : some (w.heap.size + 2) ≠ row) (h3 : some g ≠ row) : RD w W' g cs A n c a :=
  ⟨h.HB.trans hb, blk_grown h.HS hg h0, blk_grown h.HP hg h1, blk_grown h.HE hg h2, blk_grown h.HI hg h3, h.HG, h.HA⟩
theorem RD.drew {w W : World} {g : Nat} {cs : Array Value} {A : Option Addr} {n c a : Nat} (h : RD w W g cs A n c a) : RD w W.drew g cs A n c a := h.below (below_drew (Below.refl _ _))
theorem S_moved {W W' : World} {g base : Nat} {ok : Nat → Prop} {cs : Array Value} {v : Value} {xs : List S56} (h : Kd.S k56 56 W base ok v xs) (hI : IsB W g cs 74) (hm : Moves g W W') : Kd.S k56 56 W' base ok v xs :=
  Kd.S_mono (Kd.S_keep (Kd.S_types h hI (by decide)) hm.2 (fun k hk => hk.2)) (fun k hk => hk.1)
theorem R_moved {α : Type} {d : Kd α} {e base : Nat} {W W' : World} {g : Nat} {ok : Nat → Prop} {cs : Array Value} {v : Value} {xs : List α} (h : d.R e W base ok v xs) (hI : IsB W g cs 74) (ht : ∀ q, q ∈ e :: d.E → q ≠ 74) (hm : Moves g W W') : d.R e W' base ok v xs :=
  Kd.R_mono (Kd.R_keep (Kd.R_types h hI ht) hm.2 (fun k hk => hk.2)) (fun k hk => hk.1)
theorem info22s : (Try.prog.info? 22).map (fun i => (i.zero, i.size, i.bytes)) = some (some (.slice none 0 0), 1, 24) := by kernel_rfl
theorem RD.room {w W : World} {g : Nat} {cs : Array Value} {A : Option Addr} {n c a : Nat} (h : RD w W g cs A n c a) : w.heap.size + 3 ≤ W.heap.size := by
  have h1 := blk_lt h.HI
  have h2 := h.HG
  omega
theorem sum_go (l : List Int) (hl : l.length ≤ 100000000) : ∀ (n i k : Nat) (x : Int), i + n = l.length → n < k → ∃ r, state_Sum.l0 k l x (l.length : Int) (i : Int) = some r
  | 0, i, k + 1, x, h, hk => by
    unfold state_Sum.l0
    rw [if_neg (by omega)]
    exact ⟨_, rfl⟩
  | n + 1, i, k + 1, x, h, hk => by
    unfold state_Sum.l0
    rw [if_pos (by omega), if_pos (by omega), if_pos (by omega), show wrap64 ((i : Int) + 1) = ((i + 1 : Nat) : Int) by unfold wrap64; omega]
    exact sum_go l hl n (i + 1) k _ (by omega) (by omega)
theorem sum_some (l : List Int) (hl : l.length ≤ 100000000) : state_Sum.f (l.length + 1) l = some (sumV l) := by
  obtain ⟨r, hr⟩ := sum_go l hl l.length 0 (l.length + 1) 0 (by omega) (by omega)
  have h : state_Sum.f (l.length + 1) l = some r := hr
  rw [h, sumV, h]
  rfl
theorem sum_calls (A : Option Addr) (c : Nat) (l : List Int) (a : Nat) (w3 : World) (hC : (Kd.int .u8).C w3 A l.length l) {w : World} (hB : Below w.heap.size w w3) (hl : l.length ≤ 100000000) (ha : a ≤ l.length) (hc : l.length ≤ c) :
    Calls Try.prog 27 #[.slice A a c] w3 fun e w' => e = .returned (.int .i64 (sumV (l.take a))) ∧ Drawn0 w3 w' := by
  have h1 := Kd.C_take hC ha
  have hln : (l.take a).length = a := by rw [List.length_take]; omega
  have h2 := state_Sum.calls ((l.take a).length + 1) A c (l.take a) _ w3 h1 (by omega) (sum_some (l.take a) (by omega))
  rw [hln] at h2
  exact h2
theorem keep9 {W : World} {h : Nat} (s0 s1 s2 v3 v4 lo ra x y : Value) (k : Nat) (hk : h + 3 ≤ k) : (((set7 W h s0 s1 s2 v3 v4 lo ra).setCell ⟨h + 1, 0, none⟩ x).setCell ⟨h + 2, 0, none⟩ y).heap[k]? = W.heap[k]? := by
  unfold set7
  rw [Below.heap_setCell _ ⟨h + 2, 0, none⟩ y k (by show k ≠ h + 2; omega), Below.heap_setCell _ ⟨h + 1, 0, none⟩ x k (by show k ≠ h + 1; omega)]
  have hne : k ≠ h := by omega
  rw [Below.heap_setCell _ ⟨h, 6, none⟩ ra k hne, Below.heap_setCell _ ⟨h, 5, none⟩ lo k hne, Below.heap_setCell _ ⟨h, 4, none⟩ v4 k hne, Below.heap_setCell _ ⟨h, 3, none⟩ v3 k hne, Below.heap_setCell _ ⟨h, 2, none⟩ s2 k hne, Below.heap_setCell _ ⟨h, 1, none⟩ s1 k hne, Below.heap_setCell _ ⟨h, 0, none⟩ s0 k hne]
theorem RD.done {w W : World} {g M0 : Nat} {s0 s1 s2 lo ra : Int} {v3 v4 : Value} {A : Option Addr} {n c a a' : Nat} (h : RD w W g (cells7 s0 s1 s2 v3 v4 lo ra) A n c a) {tmps : Array Value} (hn : Named tmps w.heap.size) {ps : List S56} {ss : List (List S56)}
    (HV : Kd.S k56 56 W (w.heap.size + 3) (fun k => k < M0) v3 ps) (HQ : Kd.R (Kd.slice 56 k56) 22 W M0 (fun _ => True) v4 ss) (hM : w.heap.size + 3 ≤ M0) {res : PR Row} (hr : res = .ok ⟨s0, s1, s2, ps, ss, lo, ra⟩ a') :
    Leaves Try.prog Try.f18 tmps (PostR w res) [dfr w.heap.size] .returning (((set7 W w.heap.size (.int .i64 s0) (.int .i64 s1) (.int .i64 s2) v3 v4 (.int .i64 lo) (.int .i64 ra)).setCell ⟨w.heap.size + 1, 0, none⟩ (.int .i64 0)).setCell ⟨w.heap.size + 2, 0, none⟩ (.int .i64 0)) := by
  subst hr
  have hS := isB_set7 h.HS (.int .i64 s0) (.int .i64 s1) (.int .i64 s2) v3 v4 (.int .i64 lo) (.int .i64 ra)
  have hP := isB_far7 h.HP (by omega : w.heap.size + 1 ≠ w.heap.size) (.int .i64 s0) (.int .i64 s1) (.int .i64 s2) v3 v4 (.int .i64 lo) (.int .i64 ra)
  have hE := isB_far7 h.HE (by omega : w.heap.size + 2 ≠ w.heap.size) (.int .i64 s0) (.int .i64 s1) (.int .i64 s2) v3 v4 (.int .i64 lo) (.int .i64 ra)
  have hB := below_set7 h.HB (Nat.le_refl _) (.int .i64 s0) (.int .i64 s1) (.int .i64 s2) v3 v4 (.int .i64 lo) (.int .i64 ra)
  have hS1 := blk_far (p := ⟨w.heap.size + 1, 0, none⟩) hS (by show w.heap.size ≠ w.heap.size + 1; omega) (.int .i64 0)
  have hE1 := blk_far (p := ⟨w.heap.size + 1, 0, none⟩) hE (by show w.heap.size + 2 ≠ w.heap.size + 1; omega) (.int .i64 0)
  have hP1 : IsB _ (w.heap.size + 1) #[.int .i64 0] 3 := blk_put hP 0 (.int .i64 0) rfl
  have hS2 := blk_far (p := ⟨w.heap.size + 2, 0, none⟩) hS1 (by show w.heap.size ≠ w.heap.size + 2; omega) (.int .i64 0)
  have hP2 := blk_far (p := ⟨w.heap.size + 2, 0, none⟩) hP1 (by show w.heap.size + 1 ≠ w.heap.size + 2; omega) (.int .i64 0)
  have hE2 : IsB _ (w.heap.size + 2) #[.int .i64 0] 42 := blk_put hE1 0 (.int .i64 0) rfl
  have hB2 := (hB.setCell (p := ⟨w.heap.size + 1, 0, none⟩) (by show w.heap.size ≤ w.heap.size + 1; omega) (.int .i64 0)).setCell (p := ⟨w.heap.size + 2, 0, none⟩) (by show w.heap.size ≤ w.heap.size + 2; omega) (.int .i64 0)
  have hk := keep9 (W := W) (h := w.heap.size) (.int .i64 s0) (.int .i64 s1) (.int .i64 s2) v3 v4 (.int .i64 lo) (.int .i64 ra) (.int .i64 0) (.int .i64 0)
  have HV2 := Kd.S_move (Kd.S_bound HV) (w1 := ((set7 W w.heap.size (.int .i64 s0) (.int .i64 s1) (.int .i64 s2) v3 v4 (.int .i64 lo) (.int .i64 ra)).setCell ⟨w.heap.size + 1, 0, none⟩ (.int .i64 0)).setCell ⟨w.heap.size + 2, 0, none⟩ (.int .i64 0)) (fun k hb => hk k hb.2.1)
  have HQ2 := Kd.R_move (Kd.R_bound HQ) (w1 := ((set7 W w.heap.size (.int .i64 s0) (.int .i64 s1) (.int .i64 s2) v3 v4 (.int .i64 lo) (.int .i64 ra)).setCell ⟨w.heap.size + 1, 0, none⟩ (.int .i64 0)).setCell ⟨w.heap.size + 2, 0, none⟩ (.int .i64 0)) (fun k hb => hk k (by have := hb.2.1; omega))
  have hlow : ∀ k, v3.ownBlock = some k → k < M0 := fun k he => (Kd.S_R HV).1 k he
  refine read_done hn hS2 hP2 hE2 ?_
  exact ⟨v3, v4, rfl, Kd.S_mono (Kd.S_lower HV2 (by omega)) (fun _ _ => trivial), Kd.R_mono (Kd.R_lower HQ2 (by omega)) (fun k hb he => by have h1 := hlow k he.symm; have h2 := hb.2.1; omega), hB2⟩
def F18RT26 : Bool × List (List Nat × List Nat) := (true, [([], []), ([0], [0]), ([], []), ([], []), ([2, 3], [2, 3]), ([4, 1], [4]), ([1, 5], [1, 5])])
def F18RB26 : List Nat := [0, 1, 0, 0, 12, 31, 63]
theorem F18Rtab26 : rtab .any (opsOf Try.f18 26) = F18RT26 := by kernel_rfl
theorem F18Rbits26 : waitsOk F18RT26.2 F18RB26 = true := by kernel_rfl
def F18RT14 : Bool × List (List Nat × List Nat) := (true, [([], []), ([0], [0]), ([], []), ([2], [2]), ([3], [3]), ([1, 4, 3], [1, 4]), ([0, 1, 2, 3, 4, 5], []), ([6, 5, 5, 0, 1, 2, 3, 4, 5], [5, 6])])
def F18RB14 : List Nat := [0, 1, 0, 4, 12, 31, 63, 127]
theorem F18Rtab14 : rtab .any (opsOf Try.f18 14) = F18RT14 := by kernel_rfl
theorem F18Rbits14 : waitsOk F18RT14.2 F18RB14 = true := by kernel_rfl
theorem wrap_u8 {x : Int} (h : 0 ≤ x ∧ x < 256) : IntKind.i64.wrap x = x := by rw [IntKind.wrap_i64]; omega

set_option maxHeartbeats 4000000 in
set_option maxRecDepth 100000 in
theorem read_any (A : Option Addr) (c : Nat) (l : List Int) (w : World) (hC : (Kd.int .u8).C w A l.length l) (hc : l.length ≤ c) (hB : Bytes l) :
    Calls Try.prog 18 #[.slice A l.length c] w (PostR w (readP l)) := by
  obtain ⟨res, hres⟩ : ∃ r, r = readP l := ⟨_, rfl⟩
  rw [← hres]
  unfold readP at hres
  have hmf : ∀ (fn : Fn) (first cap : Array Value) (w : World), (Instr.makeFunc fn first cap).run Try.prog w = .ok (.func fn first cap) w := fun _ _ _ _ => rfl
  have HC := Aside0.mk hC
  have HL := Aside0.mk (And.intro hc hB)
  obtain ⟨h, hh⟩ : ∃ h, h = w.heap.size := ⟨_, rfl⟩
  by_cases hlen : l.length > 16777216
  · rw [if_pos hlen] at hres
    have HRES := Aside0.mk hres
    have hd : decide ((16777216 : Int) < (l.length : Int)) = true := decide_eq_true (by omega)
    have hd2 : decide (16777216 < l.length) = true := decide_eq_true (by omega)
    clear hres hlen hC hc hB
    go_enter_defers Try.func18, Try.ntmps18
    have HS : Aside0 (IsB (((w.alloc (.cells zeros7 25)).alloc (.cells #[.int .i64 0] 3)).alloc (.cells #[.int .i64 0] 42)) w.heap.size zeros7 25) := ⟨blk_alloc (blk_alloc (blk_new w _) _) _⟩
    have HP : Aside0 (IsB (((w.alloc (.cells zeros7 25)).alloc (.cells #[.int .i64 0] 3)).alloc (.cells #[.int .i64 0] 42)) (w.heap.size + 1) #[.int .i64 0] 3) := ⟨blk_alloc (blk_newE (by simp)) _⟩
    have HE : Aside0 (IsB (((w.alloc (.cells zeros7 25)).alloc (.cells #[.int .i64 0] 3)).alloc (.cells #[.int .i64 0] 42)) (w.heap.size + 2) #[.int .i64 0] 42) := ⟨blk_newE (by simp)⟩
    have HB : Aside0 (Below w.heap.size w (((w.alloc (.cells zeros7 25)).alloc (.cells #[.int .i64 0] 3)).alloc (.cells #[.int .i64 0] 42))) := ⟨((Below.refl w.heap.size w).alloc (by omega) (.cells zeros7 25)).alloc (by simp) (.cells #[.int .i64 0] 3) |>.alloc (by simp; omega) (.cells #[.int .i64 0] 42)⟩
    go_wp2
    refine read_stop ⟨rfl, rfl, rfl⟩ HS.out HP.out HE.out (Below.refl _ _) ?_
    intro W' hb
    rw [HRES.out]
    exact ⟨rfl, HB.out.trans hb⟩
  · rw [if_neg hlen] at hres
    have HRES := Aside0.mk hres
    have HLEN := Aside0.mk hlen
    have hd : decide ((16777216 : Int) < (l.length : Int)) = false := decide_eq_false (by omega)
    have hd2 : decide (16777216 < l.length) = false := decide_eq_false (by omega)
    clear hres hlen hC hc hB
    go_enter_defers Try.func18, Try.ntmps18
    have HRD : Aside0 (RD w _ (w.heap.size + 3) zeros7 A l.length c 0) := ⟨⟨(((Below.refl w.heap.size w).alloc (by omega) (.cells zeros7 25)).alloc (by simp) (.cells #[.int .i64 0] 3) |>.alloc (by simp; omega) (.cells #[.int .i64 0] 42)).alloc (by simp; omega) (.cells #[.slice A l.length c, .int .i64 (0 : Nat)] 74),
      blk_alloc (blk_alloc (blk_alloc (blk_new w _) _) _) _, blk_alloc (blk_alloc (blk_newE (by simp)) _) _, blk_alloc (blk_newE (by simp)) _, blk_newE (by simp), by omega, by omega⟩⟩
    go_wp2_with fail
    refine (state_head.calls [112, 115, 116, 1] _ rfl).mono ?_
    rintro e w5 ⟨v0, rfl, HV, hb⟩
    have HRD5 := Aside0.mk (HRD.out.below hb)
    replace HV := Aside0.mk (Kd.R_lower HV (show w.heap.size ≤ _ by simp; omega))
    clear hb HRD
    obtain ⟨A0, c0, hv0⟩ := Kd.R_slice HV.out
    subst hv0
    obtain ⟨hdr, hhdr⟩ : ∃ r, r = headP l [112, 115, 116, 1] 0 := ⟨_, rfl⟩
    rw [← hhdr] at HRES
    have HHD := Aside0.mk hhdr.symm
    clear hhdr
    go_wp2_with fail
    have hdef4 : (([112, 115, 116, 1] : List Int).length : Int) = ((4 : Nat) : Int) := rfl
    obtain ⟨g, hg⟩ : ∃ g, g = w.heap.size + 3 := ⟨_, rfl⟩
    rw [show w.heap.size + 1 + 1 + 1 = g from hg.symm]
    rw [← hg] at HRD5
    clear hg
    go_loopg [7, 21] 4 (fun kq v7 v21 w' => ∃ (i a : Nat), v21 = .int .i64 i ∧ Aside0 (i + kq = 4 ∧ headP l (([112, 115, 116, 1] : List Int).drop i) a = hdr) ∧ Aside0 (RD w w' g zeros7 A l.length c a) ∧ Aside0 (Kd.R (Kd.int .u8) 5 w' w.heap.size (fun _ => True) (.slice A0 ([112, 115, 116, 1] : List Int).length c0) [112, 115, 116, 1]))
    case atStart => exact ⟨0, 0, rfl, ⟨⟨rfl, HHD.out⟩⟩, HRD5, HV⟩
    case round =>
      clear HRD5 HV
      obtain ⟨i, a, rfl, HS, HRD, HV⟩ := hrel
      by_cases hlt : i < 4
      · have d4 : decide ((i : Int) < (4 : Int)) = true := decide_eq_true (by omega)
        have d5 : decide ((i : Int) < ((4 : Nat) : Int)) = true := decide_eq_true (by omega)
        have HLT := Aside0.mk hlt
        obtain ⟨ad, hA0, hcell⟩ := u8_at (Kd.R_reads' HV.out).2.2 i hlt
        subst hA0
        obtain ⟨x, hx⟩ : ∃ x, x = ([112, 115, 116, 1] : List Int).getD i 0 := ⟨_, rfl⟩
        rw [← hx] at hcell
        have hxb : 0 ≤ x ∧ x < 256 := by rcases (show i = 0 ∨ i = 1 ∨ i = 2 ∨ i = 3 by omega) with rfl | rfl | rfl | rfl <;> (subst hx; decide)
        have hdrop : ([112, 115, 116, 1] : List Int).drop i = x :: ([112, 115, 116, 1] : List Int).drop (i + 1) := by rcases (show i = 0 ∨ i = 1 ∨ i = 2 ∨ i = 3 by omega) with rfl | rfl | rfl | rfl <;> (subst hx; rfl)
        have HH := Aside0.mk (show hdr = (withinP l 1 x x a).bind fun _ a => headP l (([112, 115, 116, 1] : List Int).drop (i + 1)) a by rw [← HS.out.2, hdrop]; rfl)
        have hwx := wrap_u8 hxb
        clear hx hdrop hlt
        have i0 : (0 : Int) ≤ (i : Int) := by omega
        have i1 : (i : Int) < 4 := by have := HLT.out; omega
        go_wp2_with fail
        have HN := Aside0.mk (within_any g A c l a 1 x x wr HRD.out.HI (HRD.out.C HC.out) (by have := HLEN.out; omega) HL.out.2 HRD.out.HA (by decide))
        cases hN : withinP l 1 x x a with
        | stop q p =>
          rw [hN] at HN
          have hst : res = .stop q p := by rw [HRES.out, HH.out, hN]; rfl
          have HST := Aside0.mk hst
          clear hst hN
          refine (HN.out).mono ?_
          rintro e wz ⟨rfl, hm⟩
          have HM := Aside0.mk hm
          clear hm HN
          go_wp2
          exact HRD.out.stop HM.out ⟨rfl, rfl, rfl⟩ HST.out
        | ok y a' =>
          rw [hN] at HN
          replace HH := Aside0.mk (show headP l (([112, 115, 116, 1] : List Int).drop (i + 1)) a' = hdr by rw [HH.out, hN]; rfl)
          clear hN
          refine (HN.out).mono ?_
          rintro e w6 ⟨rfl, hi, hm, ha⟩
          have HV6 := Aside0.mk (show Kd.R (Kd.int .u8) 5 w6 w.heap.size (fun _ => True) _ _ from Kd.R_mono (Kd.R_keep (Kd.R_types HV.out HRD.out.HI (by decide)) hm.2 (fun k hk => hk.2)) (fun _ _ => trivial))
          have HRD6 := Aside0.mk (HRD.out.moves hm hi ha)
          clear HN hi hm ha HRD HV
          go_wp2_with fail
          go_roundg (gk - 1)
          case measure => have := HS.out; have := HLT.out; omega
          case rel => exact ⟨i + 1, a', (by first | rfl | exact next_i6 (by have := HLT.out; omega)), ⟨⟨by have := HS.out; have := HLT.out; omega, HH.out⟩⟩, HRD6, HV6⟩
      · have hi4 : i = 4 := by have := HS.out; omega
        subst hi4
        have HH : Aside0 (hdr = .ok () a) := ⟨HS.out.2.symm⟩
        replace HRES := Aside0.mk (show res = read1 l a by rw [HRES.out, HH.out]; rfl)
        clear HH HS HV hlt HHD
        have d4 : decide (((4 : Nat) : Int) < (4 : Int)) = false := by decide
        have d5 : decide (((4 : Nat) : Int) < ((4 : Nat) : Int)) = false := by decide
        go_wp2_with fail
        replace HRES := Aside0.mk (show res = (withinP l 8 0 1099511627776 a).bind fun s0 a => (withinP l 8 0 1099511627776 a).bind fun s1 a => (withinP l 8 0 1099511627776 a).bind fun s2 a => read2 l s0 s1 s2 a from HRES.out)
        have HN := Aside0.mk (within_any g A c l a 8 0 1099511627776 wr HRD.out.HI (HRD.out.C HC.out) (by have := HLEN.out; omega) HL.out.2 HRD.out.HA (by decide))
        cases hN : withinP l 8 0 1099511627776 a with
        | stop q p =>
          rw [hN] at HN
          have hst : res = .stop q p := by have h0 := HRES.out; rw [hN] at h0; exact h0
          have HST := Aside0.mk hst
          clear hst hN
          refine (HN.out).mono ?_
          rintro e wz ⟨rfl, hm⟩
          have HM := Aside0.mk hm
          clear hm HN
          go_wp2
          exact HRD.out.stop HM.out ⟨rfl, rfl, rfl⟩ HST.out
        | ok s0 a1 =>
          have h0 := HRES.out
          rw [hN] at HN h0
          replace HRES := Aside0.mk (show res = (withinP l 8 0 1099511627776 a1).bind fun s1 a => (withinP l 8 0 1099511627776 a).bind fun s2 a => read2 l s0 s1 s2 a from h0)
          clear h0
          refine (HN.out).mono ?_
          rintro e wa ⟨rfl, hi, hm, ha⟩
          replace HRD := Aside0.mk (HRD.out.moves hm hi ha)
          clear HN hi hm ha
          clear hN
          go_wp2_with fail
          have HN := Aside0.mk (within_any g A c l a1 8 0 1099511627776 wa HRD.out.HI (HRD.out.C HC.out) (by have := HLEN.out; omega) HL.out.2 HRD.out.HA (by decide))
          cases hN : withinP l 8 0 1099511627776 a1 with
          | stop q p =>
            rw [hN] at HN
            have hst : res = .stop q p := by have h0 := HRES.out; rw [hN] at h0; exact h0
            have HST := Aside0.mk hst
            clear hst hN
            refine (HN.out).mono ?_
            rintro e wz ⟨rfl, hm⟩
            have HM := Aside0.mk hm
            clear hm HN
            go_wp2
            exact HRD.out.stop HM.out ⟨rfl, rfl, rfl⟩ HST.out
          | ok s1 a2 =>
            have h0 := HRES.out
            rw [hN] at HN h0
            replace HRES := Aside0.mk (show res = (withinP l 8 0 1099511627776 a2).bind fun s2 a => read2 l s0 s1 s2 a from h0)
            clear h0
            refine (HN.out).mono ?_
            rintro e wb ⟨rfl, hi, hm, ha⟩
            replace HRD := Aside0.mk (HRD.out.moves hm hi ha)
            clear HN hi hm ha
            clear hN
            go_wp2_with fail
            have HN := Aside0.mk (within_any g A c l a2 8 0 1099511627776 wb HRD.out.HI (HRD.out.C HC.out) (by have := HLEN.out; omega) HL.out.2 HRD.out.HA (by decide))
            cases hN : withinP l 8 0 1099511627776 a2 with
            | stop q p =>
              rw [hN] at HN
              have hst : res = .stop q p := by have h0 := HRES.out; rw [hN] at h0; exact h0
              have HST := Aside0.mk hst
              clear hst hN
              refine (HN.out).mono ?_
              rintro e wz ⟨rfl, hm⟩
              have HM := Aside0.mk hm
              clear hm HN
              go_wp2
              exact HRD.out.stop HM.out ⟨rfl, rfl, rfl⟩ HST.out
            | ok s2 a3 =>
              have h0 := HRES.out
              rw [hN] at HN h0
              replace HRES := Aside0.mk (show res = (numberP l 8 a3).bind fun lo a => (numberP l 8 a).bind fun ra a => (withinP l 2 0 64 a).bind fun n a => (matsP l n.toNat a []).bind fun ps a => read3 l s0 s1 s2 lo ra ps a from h0)
              clear h0
              refine (HN.out).mono ?_
              rintro e wc ⟨rfl, hi, hm, ha⟩
              replace HRD := Aside0.mk (HRD.out.moves hm hi ha)
              clear HN hi hm ha
              clear hN
              have m0 := (blk_cell HRD.out.HS 0).trans rfl
              have m1 := (blk_cell HRD.out.HS 1).trans rfl
              have m2 := (blk_cell HRD.out.HS 2).trans rfl
              have rf0 := blk_frozen HRD.out.HS 0
              have rf1 := blk_frozen HRD.out.HS 1
              have rf2 := blk_frozen HRD.out.HS 2
              go_wp2_with fail
              replace HRD := Aside0.mk (show RD w _ g (cells7 s0 s1 s2 (.slice none 0 0) (.slice none 0 0) 0 0) A l.length c a3 from ((HRD.out.put 0 (.int .i64 s0) rfl).put 1 (.int .i64 s1) rfl).put 2 (.int .i64 s2) rfl)
              clear m0 m1 m2 rf0 rf1 rf2
              generalize ((wc.setCell ⟨w.heap.size, 0, none⟩ (.int .i64 s0)).setCell ⟨w.heap.size, 1, none⟩ (.int .i64 s1)).setCell ⟨w.heap.size, 2, none⟩ (.int .i64 s2) = wd at HRD ⊢
              have HN := Aside0.mk (number_any g A c l a3 8 wd HRD.out.HI (HRD.out.C HC.out) (by have := HLEN.out; omega) HL.out.2 HRD.out.HA (by decide))
              cases hN : numberP l 8 a3 with
              | stop q p =>
                rw [hN] at HN
                have hst : res = .stop q p := by have h0 := HRES.out; rw [hN] at h0; exact h0
                have HST := Aside0.mk hst
                clear hst hN
                refine (HN.out).mono ?_
                rintro e wz ⟨rfl, hm⟩
                have HM := Aside0.mk hm
                clear hm HN
                go_wp2
                exact HRD.out.stop HM.out ⟨rfl, rfl, rfl⟩ HST.out
              | ok lo a4 =>
                have h0 := HRES.out
                rw [hN] at HN h0
                replace HRES := Aside0.mk (show res = (numberP l 8 a4).bind fun ra a => (withinP l 2 0 64 a).bind fun n a => (matsP l n.toNat a []).bind fun ps a => read3 l s0 s1 s2 lo ra ps a from h0)
                clear h0
                refine (HN.out).mono ?_
                rintro e we ⟨rfl, hi, hm, ha⟩
                replace HRD := Aside0.mk (HRD.out.moves hm hi ha)
                clear HN hi hm ha
                clear hN
                go_wp2_with fail
                have HN := Aside0.mk (number_any g A c l a4 8 we HRD.out.HI (HRD.out.C HC.out) (by have := HLEN.out; omega) HL.out.2 HRD.out.HA (by decide))
                cases hN : numberP l 8 a4 with
                | stop q p =>
                  rw [hN] at HN
                  have hst : res = .stop q p := by have h0 := HRES.out; rw [hN] at h0; exact h0
                  have HST := Aside0.mk hst
                  clear hst hN
                  refine (HN.out).mono ?_
                  rintro e wz ⟨rfl, hm⟩
                  have HM := Aside0.mk hm
                  clear hm HN
                  go_wp2
                  exact HRD.out.stop HM.out ⟨rfl, rfl, rfl⟩ HST.out
                | ok ra a5 =>
                  have h0 := HRES.out
                  rw [hN] at HN h0
                  replace HRES := Aside0.mk (show res = (withinP l 2 0 64 a5).bind fun n a => (matsP l n.toNat a []).bind fun ps a => read3 l s0 s1 s2 lo ra ps a from h0)
                  clear h0
                  refine (HN.out).mono ?_
                  rintro e wf ⟨rfl, hi, hm, ha⟩
                  replace HRD := Aside0.mk (HRD.out.moves hm hi ha)
                  clear HN hi hm ha
                  clear hN
                  have m0 := (blk_cell HRD.out.HS 5).trans rfl
                  have m1 := (blk_cell HRD.out.HS 6).trans rfl
                  have rf0 := blk_frozen HRD.out.HS 5
                  have rf1 := blk_frozen HRD.out.HS 6
                  go_wp2_with fail
                  replace HRD := Aside0.mk (show RD w _ g (cells7 s0 s1 s2 (.slice none 0 0) (.slice none 0 0) lo ra) A l.length c a5 from (HRD.out.put 5 (.int .i64 lo) rfl).put 6 (.int .i64 ra) rfl)
                  clear m0 m1 rf0 rf1
                  generalize (wf.setCell ⟨w.heap.size, 5, none⟩ (.int .i64 lo)).setCell ⟨w.heap.size, 6, none⟩ (.int .i64 ra) = wg at HRD ⊢
                  have HN := Aside0.mk (within_any g A c l a5 2 0 64 wg HRD.out.HI (HRD.out.C HC.out) (by have := HLEN.out; omega) HL.out.2 HRD.out.HA (by decide))
                  cases hN : withinP l 2 0 64 a5 with
                  | stop q p =>
                    rw [hN] at HN
                    have hst : res = .stop q p := by have h0 := HRES.out; rw [hN] at h0; exact h0
                    have HST := Aside0.mk hst
                    clear hst hN
                    refine (HN.out).mono ?_
                    rintro e wz ⟨rfl, hm⟩
                    have HM := Aside0.mk hm
                    clear hm HN
                    go_wp2
                    exact HRD.out.stop HM.out ⟨rfl, rfl, rfl⟩ HST.out
                  | ok n a6 =>
                    have h0 := HRES.out
                    rw [hN] at HN h0
                    replace HRES := Aside0.mk (show res = (matsP l n.toNat a6 []).bind fun ps a => read3 l s0 s1 s2 lo ra ps a from h0)
                    clear h0
                    refine (HN.out).mono ?_
                    rintro e wh ⟨rfl, hi, hm, ha⟩
                    replace HRD := Aside0.mk (HRD.out.moves hm hi ha)
                    clear HN hi hm ha
                    have hn := within_range hN
                    clear hN
                    obtain ⟨N, rfl⟩ : ∃ N : Nat, n = N := ⟨n.toNat, by omega⟩
                    have HNN := Aside0.mk (show N ≤ 64 by omega)
                    clear hn
                    rw [show ((N : Nat) : Int).toNat = N from rfl] at HRES
                    go_wp2_with fail
                    obtain ⟨bres, hbres⟩ : ∃ b, b = matsP l N a6 [] := ⟨_, rfl⟩
                    rw [← hbres] at HRES
                    have HBR := Aside0.mk hbres.symm
                    clear hbres
                    have HV0 : Aside0 (Kd.S k56 56 wh (w.heap.size + 3) (fun _ => True) (.slice none 0 0) []) := ⟨Kd.S_nil _ _ _ _ _⟩
                    go_loopg [49] N (fun kq v49 w' => ∃ (i a : Nat) (acc : List S56) (v : Value), v49 = .int .i64 i ∧ Aside0 (i + kq = N ∧ acc.length = i ∧ matsP l kq a acc = bres) ∧ Aside0 (RD w w' g (cells7 s0 s1 s2 v (.slice none 0 0) lo ra) A l.length c a) ∧ Aside0 (Kd.S k56 56 w' (w.heap.size + 3) (fun _ => True) v acc))
                    case atStart => exact ⟨0, a6, [], _, rfl, ⟨⟨by omega, rfl, HBR.out⟩⟩, HRD, HV0⟩
                    case round =>
                      clear HRD HV0
                      obtain ⟨i, a, acc, v, rfl, HS, HRD, HV⟩ := hrel
                      by_cases hlt : i < N
                      · have d3 : decide (i < N) = true := decide_eq_true hlt
                        have d4 : decide ((i : Int) < (N : Int)) = true := decide_eq_true (by omega)
                        have HLT := Aside0.mk hlt
                        obtain ⟨kk, hkk⟩ : ∃ kk, gk = kk + 1 := ⟨gk - 1, by have := HS.out; omega⟩
                        have HKK := Aside0.mk hkk
                        have HSR := Aside0.mk (show bres = (matrixP l a).bind fun m a => matsP l kk a (acc ++ [m]) by rw [← HS.out.2.2, hkk]; rfl)
                        clear hlt hkk
                        go_wp2
                        have HD := Aside0.mk HRD.out.drew
                        refine start_ (n := 8) (S := fun w' => w'.cell? ⟨w.heap.size, 3, none⟩ = some v) (ds := [7]) #[false, false, false, false, false, false, false, false] (by kernel_rfl) rfl rfl ((blk_cell HD.out.HS 3).trans rfl) (fun hHeld => ?_)
                        refine with_tabW F18Rtab14 F18Rbits14 (fun HT_ HW_ => ?_)
                        refine pure_ (i := 0) (N := some 51) (v := ?_) (a' := ?_) #[true, false, false, false, false, false, false, false] rfl rfl (any_of HT_.out (by kernel_rfl)) (fun c_ a_ w_ h_ => bodyD_put (R := PostR w res) (by decide) c_ a_ w_ h_) (Or.inl ⟨by rfl, ?_⟩) ?_ ?_
                        rotate_left
                        · intro w'
                          go_simp
                          with_reducible rfl
                        rotate_left
                        · simp only [Act.put, List.setIfInBounds_toArray, List.set_cons_zero, List.set_cons_succ, i64_w, i32_w]
                          rfl
                        refine pure_ (i := 2) (N := some 53) (v := ?_) (a' := ?_) #[true, false, true, false, false, false, false, false] rfl rfl (any_of HT_.out (by kernel_rfl)) (fun c_ a_ w_ h_ => bodyD_put (R := PostR w res) (by decide) c_ a_ w_ h_) (Or.inl ⟨by rfl, ?_⟩) ?_ ?_
                        rotate_left
                        · intro w'
                          go_simp
                          with_reducible rfl
                        rotate_left
                        · simp only [Act.put, List.setIfInBounds_toArray, List.set_cons_zero, List.set_cons_succ, i64_w, i32_w]
                          rfl
                        refine take_ (i := 1) (N := some 52) (v := ?_) (a' := ?_) #[true, true, true, false, false, false, false, false] rfl rfl (take_ofW HT_.out HW_.out (by kernel_rfl)) (fun c_ a_ w_ h_ => bodyD_put (R := PostR w res) (by decide) c_ a_ w_ h_) (Or.inl ⟨by rfl, ?_⟩) hHeld ?_ ?_
                        rotate_left
                        · intro w' s0
                          go_simp
                          with_reducible rfl
                        rotate_left
                        · simp only [Act.put, List.setIfInBounds_toArray, List.set_cons_zero, List.set_cons_succ, i64_w, i32_w]
                          rfl
                        refine one_ (i := 3) (N := some 54) #[true, true, true, true, false, false, false, false] rfl rfl (one_of HT_.out (by kernel_rfl)) (by decide) (fun K hK => ?_)
                        refine goesE_ Try.func37 (by kernel_rfl) rfl #[.pointer (some ⟨g, 0, none⟩)] (by rfl) rfl rfl (by simp only [List.map_toArray, List.map_cons, List.map_nil]; rfl) ?_
                        refine (matrix_any g A c l a wr.drew HD.out.HI (HD.out.C HC.out) (by have := HLEN.out; omega) HL.out.2 HD.out.HA).mono ?_
                        intro e w3 hpost
                        rcases hN : matrixP l a with ⟨m, a'⟩ | ⟨q, p⟩
                        rotate_left
                        · rw [hN] at hpost
                          have hst : res = .stop q p := by rw [HRES.out, HSR.out, hN]; rfl
                          obtain ⟨rfl, hm⟩ := hpost
                          exact HD.out.stop hm ⟨rfl, rfl, rfl⟩ hst
                        rw [hN] at hpost
                        obtain ⟨⟨u, rfl, hu⟩, hi, hm, ha⟩ := hpost
                        have HSR3 := Aside0.mk (show matsP l kk a' (acc ++ [m]) = bres by rw [HSR.out, hN]; rfl)
                        have HRD3 := Aside0.mk (HD.out.moves hm hi ha)
                        have HV3 := Aside0.mk (show Kd.S k56 56 w3 (w.heap.size + 3) (fun k => True ∧ k < wr.drew.heap.size) v acc from Kd.S_oldK (Kd.S_mono (Kd.S_types (Kd.S_drew HV.out) HD.out.HI (by decide)) (fun _ h => h)) hm.2)
                        have HM3 := Aside0.mk (show k56.M w3 (w.heap.size + 3) (fun k => wr.drew.heap.size ≤ k) m [.int .i64 m.f0, .int .i64 m.f1, .int .i64 m.f2, u] from k56_mkM _ _ _ m (Kd.R_lower (Kd.R_mono (Kd.R_bound hu) (fun k hk => hk.2.1)) HD.out.room))
                        have HLV := Aside0.mk (Kd.S_lt (Kd.S_drew HV.out))
                        have HLN := Aside0.mk (show (acc.length + 1) * 48 ≤ 140737488355328 by have := HS.out; have := HNN.out; omega)
                        clear hN hu hi hm ha
                        refine hK.out _ _ ((blk_cell HRD3.out.HS 3).trans rfl) (fun hHeld => ?_)
                        clear hK K
                        refine norm_ (a' := ?_) ?_ ?_
                        rotate_left
                        · show Act.put _ (some 54) _ = _
                          simp only [Act.put, List.setIfInBounds_toArray, List.set_cons_zero, List.set_cons_succ, i64_w, i32_w]
                          rfl
                        refine one_ (i := 4) (N := some 55) #[true, true, true, true, true, false, false, false] rfl rfl (one_of HT_.out (by kernel_rfl)) (by decide) (fun K hK => ?_)
                        refine value_ (w1 := ?_) (v := ?_) (by rfl) rfl ?_ ?_
                        rotate_left 2
                        · go_simp
                          constructor
                          · rfl
                          · rfl
                        refine hK.out _ _ ((blk_cell (blk_alloc HRD3.out.HS _) 3).trans rfl) (fun hHeld => ?_)
                        clear hK K
                        refine norm_ (a' := ?_) ?_ ?_
                        rotate_left
                        · show Act.put _ (some 55) _ = _
                          simp only [Act.put, List.setIfInBounds_toArray, List.set_cons_zero, List.set_cons_succ, i64_w, i32_w]
                          rfl
                        refine one_ (i := 5) (N := some 56) #[true, true, true, true, true, true, false, false] rfl rfl (one_of HT_.out (by kernel_rfl)) (by decide) (fun K hK => ?_)
                        refine Kd.S_append_step k56 (w0 := w3) (w.heap.size + 3) (by rfl) (.tmp 52) (.tmp 55) 22 56 (.agg #[.int .i64 0, .int .i64 0, .int .i64 0, .slice none 0 0]) 48 rfl Try.underlying22 info56 rfl (by decide) (by omega) v acc m [.int .i64 m.f0, .int .i64 m.f1, .int .i64 m.f2, u] (fun _ => True) (fun k => wr.drew.heap.size ≤ k) rfl rfl ?aP ?aK ?aF ?aO ?aB ?aS ?aL ?_
                        (case aP => exact HM3.out)
                        (case aK => exact (fun k hk => ⟨trivial, fun he => by have := HLV.out k he.symm; omega⟩))
                        (case aF => exact (fun _ _ => trivial))
                        (case aO => exact Kd.S_mono HV3.out (fun k hk => ⟨trivial, by have := hk.2; omega⟩))
                        (case aB => exact Below.refl _ _)
                        (case aS => exact HRD3.out.room)
                        (case aL => exact HLN.out)
                        intro v9 w7 ho hb hg hat
                        have HV7 := Aside0.mk ho
                        have HRD7 := Aside0.mk (HRD3.out.grown (hb.mono (by omega)) hg (Kd.S_ne HV3.out HRD3.out.HS (by decide)) (Kd.S_ne HV3.out HRD3.out.HP (by decide)) (Kd.S_ne HV3.out HRD3.out.HE (by decide)) (Kd.S_ne HV3.out HRD3.out.HI (by decide)))
                        clear ho hb hg hat HV HV3 HM3 HLV HLN HRD HD HRD3
                        obtain ⟨A9, c9, hv9⟩ := Kd.S_slice HV7.out
                        generalize hln : (acc ++ [m]).length = ln at hv9
                        clear hln
                        subst hv9
                        have rf3 := blk_frozen HRD7.out.HS 3
                        have q3 := (blk_cell HRD7.out.HS 3).trans rfl
                        refine hK.out _ _ (q3) (fun hHeld => ?_)
                        clear hK K
                        refine norm_ (a' := ?_) ?_ ?_
                        rotate_left
                        · show Act.put _ (some 56) _ = _
                          simp only [Act.put, List.setIfInBounds_toArray, List.set_cons_zero, List.set_cons_succ, i64_w, i32_w]
                          rfl
                        refine pure_ (i := 6) (N := some 57) (v := ?_) (a' := ?_) #[true, true, true, true, true, true, true, false] rfl rfl (any_of HT_.out (by kernel_rfl)) (fun c_ a_ w_ h_ => bodyD_put (R := PostR w res) (by decide) c_ a_ w_ h_) (Or.inl ⟨by rfl, ?_⟩) ?_ ?_
                        rotate_left
                        · intro w'
                          go_simp
                          with_reducible rfl
                        rotate_left
                        · simp only [Act.put, List.setIfInBounds_toArray, List.set_cons_zero, List.set_cons_succ, i64_w, i32_w]
                          rfl
                        refine last_ (i := 7) (N := none) #[true, true, true, true, true, true, true, true] rfl rfl (one_of HT_.out (by kernel_rfl)) (by decide) (fun K hK => ?_)
                        refine skip_ (w1 := ?_) (by rfl) rfl ?_ ?_
                        rotate_left
                        · go_simp
                          rfl
                        refine hK.out _ _ ?_
                        clear hK K
                        refine done_ (done_of HT_.out (by kernel_rfl)) ?_
                        go_wp2_with fail
                        go_roundg (gk - 1)
                        case measure => have := HKK.out; omega
                        case rel => exact ⟨i + 1, a', acc ++ [m], _, (by first | rfl | exact next_i6 (by have := HLT.out; have := HNN.out; omega)), ⟨⟨by have := HS.out; have := HKK.out; omega, by rw [List.length_append, HS.out.2.1]; rfl, by rw [show gk - 1 = kk by have := HKK.out; omega]; exact HSR3.out⟩⟩, ⟨HRD7.out.put 3 _ rfl⟩, ⟨Kd.S_set HV7.out HRD7.out.HS (by decide) 3 _⟩⟩
                      · have d3 : decide (i < N) = false := decide_eq_false hlt
                        have d4 : decide ((i : Int) < (N : Int)) = false := decide_eq_false (by omega)
                        have HE : Aside0 (bres = .ok acc a) := ⟨by rw [← HS.out.2.2, show gk = 0 by have := HS.out; omega]; rfl⟩
                        replace HRES := Aside0.mk (show res = (withinP l 2 0 64 a).bind fun n a => (slotsP l n.toNat a []).bind fun ss a => read4 l ⟨s0, s1, s2, acc, ss, lo, ra⟩ a by rw [HRES.out, HE.out]; rfl)
                        have HPL := Aside0.mk (show acc.length ≤ 64 by have := HS.out; have := HNN.out; omega)
                        clear HE HBR HS hlt
                        go_wp2_with fail
                        have HN := Aside0.mk (within_any g A c l a 2 0 64 wr HRD.out.HI (HRD.out.C HC.out) (by have := HLEN.out; omega) HL.out.2 HRD.out.HA (by decide))
                        cases hN : withinP l 2 0 64 a with
                        | stop q p =>
                          rw [hN] at HN
                          have hst : res = .stop q p := by have h0 := HRES.out; rw [hN] at h0; exact h0
                          have HST := Aside0.mk hst
                          clear hst hN
                          refine (HN.out).mono ?_
                          rintro e wz ⟨rfl, hm⟩
                          have HM := Aside0.mk hm
                          clear hm HN
                          go_wp2
                          exact HRD.out.stop HM.out ⟨rfl, rfl, rfl⟩ HST.out
                        | ok n2 a7 =>
                          have h0 := HRES.out
                          rw [hN] at HN h0
                          replace HRES := Aside0.mk (show res = (slotsP l n2.toNat a7 []).bind fun ss a => read4 l ⟨s0, s1, s2, acc, ss, lo, ra⟩ a from h0)
                          clear h0
                          refine (HN.out).mono ?_
                          rintro e wk ⟨rfl, hi, hm, ha⟩
                          replace HV := Aside0.mk (S_moved HV.out HRD.out.HI hm)
                          replace HRD := Aside0.mk (HRD.out.moves hm hi ha)
                          clear HN hi hm ha
                          have hn2 := within_range hN
                          clear hN
                          obtain ⟨N2, rfl⟩ : ∃ N2 : Nat, n2 = N2 := ⟨n2.toNat, by omega⟩
                          have HN2 := Aside0.mk (show N2 ≤ 64 by omega)
                          clear hn2
                          rw [show ((N2 : Nat) : Int).toNat = N2 from rfl] at HRES
                          obtain ⟨M0, hM0⟩ : ∃ M, M = wk.heap.size := ⟨_, rfl⟩
                          replace HV := Aside0.mk (Kd.S_mono (Kd.S_bound HV.out) (fun k hk => show k < M0 by have := hk.2.2.1; omega))
                          have HM0 := Aside0.mk (show M0 ≤ wk.heap.size ∧ w.heap.size ≤ M0 from ⟨by omega, by have := HRD.out.HB.size; omega⟩)
                          have HM00 := Aside0.mk (show w.heap.size + 3 ≤ M0 by have := HRD.out.room; omega)
                          clear hM0
                          obtain ⟨v3, hv3⟩ : ∃ x, x = v := ⟨v, rfl⟩
                          subst hv3
                          obtain ⟨ps, hps⟩ : ∃ x, x = acc := ⟨acc, rfl⟩
                          subst hps
                          go_wp2_with fail
                          obtain ⟨sres, hsres⟩ : ∃ b, b = slotsP l N2 a7 [] := ⟨_, rfl⟩
                          rw [← hsres] at HRES
                          have HSL := Aside0.mk hsres.symm
                          clear hsres
                          have HQ0 : Aside0 (Kd.R (Kd.slice 56 k56) 22 wk M0 (fun _ => True) (.slice none 0 0) []) := ⟨Kd.R_nil _ _ _ _ _⟩
                          go_loopg [8, 61] N2 (fun kq v8 v61 w' => ∃ (i a : Nat) (acc : List (List S56)) (v4 : Value), v61 = .int .i64 i ∧ Aside0 (i + kq = N2 ∧ acc.length = i ∧ slotsP l kq a acc = sres) ∧ Aside0 (RD w w' g (cells7 s0 s1 s2 v3 v4 lo ra) A l.length c a) ∧ Aside0 (Kd.S k56 56 w' (w.heap.size + 3) (fun k => k < M0) v3 ps) ∧ Aside0 (Kd.R (Kd.slice 56 k56) 22 w' M0 (fun _ => True) v4 acc) ∧ Aside0 (M0 ≤ w'.heap.size ∧ w.heap.size ≤ M0))
                          case atStart => exact ⟨0, a7, [], _, rfl, ⟨⟨by omega, rfl, HSL.out⟩⟩, HRD, HV, HQ0, HM0⟩
                          case round =>
                            clear HRD HV HQ0 HM0
                            obtain ⟨i, a, acc, v4, rfl, HS, HRD, HV, HQ, HM0⟩ := hrel
                            by_cases hlt : i < N2
                            · have d3 : decide (i < N2) = true := decide_eq_true hlt
                              have d4 : decide ((i : Int) < (N2 : Int)) = true := decide_eq_true (by omega)
                              have HLT := Aside0.mk hlt
                              obtain ⟨kk, hkk⟩ : ∃ kk, gk = kk + 1 := ⟨gk - 1, by have := HS.out; omega⟩
                              have HKK := Aside0.mk hkk
                              have HRES0 := HRES
                              have HSR := Aside0.mk (show sres = (withinP l 1 0 4 a).bind fun n a => (matsP l n.toNat a []).bind fun s a => slotsP l kk a (acc ++ [s]) by rw [← HS.out.2.2, hkk]; rfl)
                              clear hlt hkk
                              have HACC := Aside0.mk (show (acc.length + 1) * 24 ≤ 140737488355328 by have := HS.out; have := HN2.out; omega)
                              have HAI := Aside0.mk (show i + (kk + 1) = N2 ∧ acc.length = i by have h1 := HS.out; have h2 := HKK.out; exact ⟨by omega, h1.2.1⟩)
                              go_wp2_with fail
                              have HN := Aside0.mk (within_any g A c l a 1 0 4 _ HRD.out.HI (HRD.out.C HC.out) (by have := HLEN.out; omega) HL.out.2 HRD.out.HA (by decide))
                              cases hN : withinP l 1 0 4 a with
                              | stop q p =>
                                rw [hN] at HN
                                have hst : res = .stop q p := by rw [HRES.out, HSR.out, hN]; rfl
                                have HST := Aside0.mk hst
                                clear hst hN
                                refine (HN.out).mono ?_
                                rintro e wz ⟨rfl, hm⟩
                                have HM := Aside0.mk hm
                                clear hm HN
                                go_wp2
                                exact HRD.out.stop HM.out ⟨rfl, rfl, rfl⟩ HST.out
                              | ok n3 a1 =>
                                rw [hN] at HN
                                replace HSR := Aside0.mk (show sres = (matsP l n3.toNat a1 []).bind fun s a => slotsP l kk a (acc ++ [s]) by rw [HSR.out, hN]; rfl)
                                have hn3 := within_range hN
                                clear hN
                                obtain ⟨N3, rfl⟩ : ∃ N3 : Nat, n3 = N3 := ⟨n3.toNat, by omega⟩
                                have HN3 := Aside0.mk (show N3 ≤ 4 by omega)
                                clear hn3
                                rw [show ((N3 : Nat) : Int).toNat = N3 from rfl] at HSR
                                refine (HN.out).mono ?_
                                rintro e w1 ⟨rfl, hi, hm, ha⟩
                                replace HV := Aside0.mk (S_moved HV.out HRD.out.HI hm)
                                replace HQ := Aside0.mk (R_moved HQ.out HRD.out.HI (by decide) hm)
                                replace HM0 := Aside0.mk (show M0 ≤ w1.heap.size ∧ w.heap.size ≤ M0 from ⟨by have := HM0.out; have := hm.size; omega, HM0.out.2⟩)
                                replace HRD := Aside0.mk (HRD.out.moves hm hi ha)
                                clear HN hi hm ha HS
                                obtain ⟨M1, hM1⟩ : ∃ M, M = w1.heap.size := ⟨_, rfl⟩
                                replace HQ := Aside0.mk (Kd.R_mono (Kd.R_bound HQ.out) (fun k hk => show k < M1 by have := hk.2.2.1; omega))
                                replace HM0 := Aside0.mk (show M1 ≤ w1.heap.size ∧ w.heap.size ≤ M0 ∧ M0 ≤ M1 from ⟨by omega, by have := HM0.out; omega, by have := HM0.out; omega⟩)
                                clear hM1
                                go_wp2_with fail
                                obtain ⟨mres, hmres⟩ : ∃ b, b = matsP l N3 a1 [] := ⟨_, rfl⟩
                                rw [← hmres] at HSR
                                have HML := Aside0.mk hmres.symm
                                clear hmres
                                have HT0 : Aside0 (Kd.R k56 56 w1 M1 (fun _ => True) (.slice none 0 0) []) := ⟨Kd.R_nil _ _ _ _ _⟩
                                go_loopg [8, 65] N3 (fun kq v8 v65 w' => ∃ (j a : Nat) (t : List S56), v65 = .int .i64 j ∧ Aside0 (j + kq = N3 ∧ t.length = j ∧ matsP l kq a t = mres) ∧ Aside0 (RD w w' g (cells7 s0 s1 s2 v3 v4 lo ra) A l.length c a) ∧ Aside0 (Kd.S k56 56 w' (w.heap.size + 3) (fun k => k < M0) v3 ps) ∧ Aside0 (Kd.R (Kd.slice 56 k56) 22 w' M0 (fun k => k < M1) v4 acc) ∧ Aside0 (Kd.R k56 56 w' M1 (fun _ => True) v8 t) ∧ Aside0 (M1 ≤ w'.heap.size ∧ w.heap.size ≤ M0 ∧ M0 ≤ M1))
                                case atStart => exact ⟨0, a1, [], rfl, ⟨⟨by omega, rfl, HML.out⟩⟩, HRD, HV, HQ, HT0, HM0⟩
                                case round =>
                                  clear HRD HV HQ HT0 HM0
                                  obtain ⟨j, a, t, rfl, HS, HRD, HV, HQ, HT, HM0⟩ := hrel
                                  obtain ⟨gj, hgj⟩ : ∃ x, x = gk := ⟨gk, rfl⟩
                                  subst hgj
                                  by_cases hlt : j < N3
                                  · have d5 : decide (j < N3) = true := decide_eq_true hlt
                                    have d6 : decide ((j : Int) < (N3 : Int)) = true := decide_eq_true (by omega)
                                    have HLT3 := Aside0.mk hlt
                                    obtain ⟨kj, hkj⟩ : ∃ kj, gj = kj + 1 := ⟨gj - 1, by have := HS.out; omega⟩
                                    have HKJ := Aside0.mk hkj
                                    have HMR := Aside0.mk (show mres = (matrixP l a).bind fun m a => matsP l kj a (t ++ [m]) by rw [← HS.out.2.2, hkj]; rfl)
                                    have HTI := Aside0.mk (show j + (kj + 1) = N3 ∧ t.length = j by have := HS.out; exact ⟨by omega, this.2.1⟩)
                                    clear hlt hkj HS
                                    obtain ⟨A8, c8, hv8⟩ := Kd.R_slice HT.out
                                    generalize hl8 : t.length = l8 at hv8
                                    clear hl8
                                    subst hv8
                                    go_wp2_with fail
                                    obtain ⟨wq, hwq⟩ : ∃ x, x = wr := ⟨wr, rfl⟩
                                    subst hwq
                                    have HN := Aside0.mk (matrix_any g A c l a wq HRD.out.HI (HRD.out.C HC.out) (by have := HLEN.out; omega) HL.out.2 HRD.out.HA)
                                    cases hN : matrixP l a with
                                    | stop q p =>
                                      rw [hN] at HN
                                      have hst : res = .stop q p := by rw [HRES.out, HSR.out, HMR.out, hN]; rfl
                                      have HST := Aside0.mk hst
                                      clear hst hN
                                      refine (HN.out).mono ?_
                                      rintro e wz ⟨rfl, hm⟩
                                      have HM := Aside0.mk hm
                                      clear hm HN
                                      go_wp2
                                      exact HRD.out.stop HM.out ⟨rfl, rfl, rfl⟩ HST.out
                                    | ok m a' =>
                                      rw [hN] at HN
                                      replace HMR := Aside0.mk (show matsP l kj a' (t ++ [m]) = mres by rw [HMR.out, hN]; rfl)
                                      clear hN
                                      refine (HN.out).mono ?_
                                      rintro e w3 ⟨⟨u, rfl, hu⟩, hi, hm, ha⟩
                                      have HLV := Aside0.mk (Kd.R_lt HT.out)
                                      replace HV := Aside0.mk (S_moved HV.out HRD.out.HI hm)
                                      replace HQ := Aside0.mk (R_moved HQ.out HRD.out.HI (by decide) hm)
                                      have HT3 := Aside0.mk (R_moved HT.out HRD.out.HI (by decide) hm)
                                      have HM3 := Aside0.mk (show k56.M w3 M1 (fun k => wq.heap.size ≤ k) m [.int .i64 m.f0, .int .i64 m.f1, .int .i64 m.f2, u] from k56_mkM _ _ _ m (Kd.R_lower (Kd.R_mono (Kd.R_bound hu) (fun k hk => hk.2.1)) HM0.out.1))
                                      replace HM0 := Aside0.mk (show M1 ≤ w3.heap.size ∧ w.heap.size ≤ M0 ∧ M0 ≤ M1 from ⟨by have := HM0.out.1; have := hm.size; omega, HM0.out.2⟩)
                                      replace HRD := Aside0.mk (HRD.out.moves hm hi ha)
                                      have HLN := Aside0.mk (show (t.length + 1) * 48 ≤ 140737488355328 by have := HTI.out; have := HN3.out; omega)
                                      clear HN hi hm ha hu HT
                                      go_wp2_with ((with_reducible refine gate_builtin (b := .append) (xs := #[.tmp 67, .tmp 70]) rfl ?_); at_builtin; refine Kd.R_append k56 (w0 := w3) M1 rfl (.tmp 67) (.tmp 70) 22 56 (.agg #[.int .i64 0, .int .i64 0, .int .i64 0, .slice none 0 0]) 48 rfl Try.underlying22 info56 rfl (by decide) (by omega) (.slice A8 l8 c8) t m [.int .i64 m.f0, .int .i64 m.f1, .int .i64 m.f2, u] (fun _ => True) (fun k => wq.heap.size ≤ k) rfl rfl ?aP ?aK ?aF ?aO ?aB ?aS ?aL ?_; (case aP => exact HM3.out); (case aK => exact (fun k hk => ⟨trivial, fun he => by have := HLV.out k he.symm; omega⟩)); (case aF => exact (fun _ _ => trivial)); (case aO => exact HT3.out); (case aB => exact Below.refl _ _); (case aS => exact HM0.out.1); (case aL => exact HLN.out); intro v9 w7 ho hb hg hat; have HT7 := Aside0.mk ho; have HRD7 := Aside0.mk (HRD.out.grown (hb.mono (by have := HM0.out; omega)) hg (Kd.R_ne HT3.out HRD.out.HS (by decide)) (Kd.R_ne HT3.out HRD.out.HP (by decide)) (Kd.R_ne HT3.out HRD.out.HE (by decide)) (Kd.R_ne HT3.out HRD.out.HI (by decide))); have HV7 := Aside0.mk (Kd.S_grown HV.out hg (fun k hk he => by have := Kd.R_base HT3.out k he.symm; have := HM0.out; omega)); have HQ7 := Aside0.mk (Kd.R_grown HQ.out hg (fun k hk he => by have := Kd.R_base HT3.out k he.symm; omega)); have HM7 := Aside0.mk (show M1 ≤ w7.heap.size ∧ w.heap.size ≤ M0 ∧ M0 ≤ M1 from ⟨by have := HM0.out; have := hb.size; omega, HM0.out.2⟩); clear ho hb hg hat)
                                      go_roundg (gj - 1)
                                      case measure => have := HKJ.out; omega
                                      case rel => exact ⟨j + 1, a', t ++ [m], (by first | rfl | exact next_i6 (by have := HLT3.out; have := HN3.out; omega)), ⟨⟨by have := HTI.out; have := HKJ.out; omega, by rw [List.length_append, HTI.out.2]; rfl, by rw [show gj - 1 = kj by have := HKJ.out; omega]; exact HMR.out⟩⟩, HRD7, HV7, HQ7, HT7, HM7⟩
                                  · have d5 : decide (j < N3) = false := decide_eq_false hlt
                                    have d6 : decide ((j : Int) < (N3 : Int)) = false := decide_eq_false (by omega)
                                    have HE : Aside0 (mres = .ok t a) := ⟨by rw [← HS.out.2.2, show gj = 0 by have := HS.out; omega]; rfl⟩
                                    have HSR2 := Aside0.mk (show slotsP l kk a (acc ++ [t]) = sres by rw [HSR.out, HE.out]; rfl)
                                    clear HE HML HS hlt HSR
                                    obtain ⟨A8, c8, hv8⟩ := Kd.R_slice HT.out
                                    generalize hl8 : t.length = l8 at hv8
                                    clear hl8
                                    subst hv8
                                    have m4 := (blk_cell HRD.out.HS 4).trans rfl
                                    obtain ⟨wq, hwq⟩ : ∃ x, x = wr := ⟨wr, rfl⟩
                                    subst hwq
                                    go_wp2_with ((with_reducible refine gate_builtin (b := .append) (xs := #[.tmp 74, .tmp 76]) rfl ?_); at_builtin; refine Kd.R_append (Kd.slice 56 k56) (w0 := wq) M0 rfl (.tmp 74) (.tmp 76) 23 22 (.slice none 0 0) 24 rfl Try.underlying23 info22s rfl (by decide) (by omega) v4 acc t [.slice A8 l8 c8] (fun _ => True) (fun k => M1 ≤ k) rfl rfl ?aP ?aK ?aF ?aO ?aB ?aS ?aL ?_; (case aP => exact ⟨_, rfl, Kd.R_lower (Kd.R_mono (Kd.R_bound HT.out) (fun k hk => hk.2.1)) HM0.out.2.2⟩); (case aK => exact (fun k hk => ⟨trivial, fun he => by have := HQ.out.1 k he.symm; omega⟩)); (case aF => exact (fun _ _ => trivial)); (case aO => exact Kd.R_mono HQ.out (fun _ _ => trivial)); (case aB => exact Below.refl _ _); (case aS => exact Nat.le_trans HM0.out.2.2 HM0.out.1); (case aL => exact HACC.out); intro v9 w7 ho hb hg hat; have HQ7 := Aside0.mk ho; have HRD7 := Aside0.mk (HRD.out.grown (hb.mono (by have := HM0.out; omega)) hg (Kd.R_ne HQ.out HRD.out.HS (by decide)) (Kd.R_ne HQ.out HRD.out.HP (by decide)) (Kd.R_ne HQ.out HRD.out.HE (by decide)) (Kd.R_ne HQ.out HRD.out.HI (by decide))); have HV7 := Aside0.mk (Kd.S_grown HV.out hg (fun k hk he => by have := Kd.R_base HQ.out k he.symm; omega)); have HM7 := Aside0.mk (show M0 ≤ w7.heap.size ∧ w.heap.size ≤ M0 from ⟨by have := HM0.out; have := hb.size; omega, HM0.out.2.1⟩); clear ho hb hg hat m4; have m4 := (blk_cell HRD7.out.HS 4).trans rfl; have rf4 := blk_frozen HRD7.out.HS 4; obtain ⟨A9, c9, hv9⟩ := Kd.R_slice HQ7.out; generalize hln : (acc ++ [t]).length = ln at hv9; clear hln; subst hv9)
                                    go_roundg (gk - 1)
                                    case measure => have := HKK.out; omega
                                    case rel => exact ⟨i + 1, a, acc ++ [t], _, (by first | rfl | exact next_i6 (by have := HLT.out; have := HN2.out; omega)), ⟨⟨by have := HAI.out; have := HKK.out; omega, by rw [List.length_append, HAI.out.2]; rfl, by rw [show gk - 1 = kk by have := HKK.out; omega]; exact HSR2.out⟩⟩, ⟨HRD7.out.put 4 _ rfl⟩, ⟨Kd.S_set HV7.out HRD7.out.HS (by decide) 4 _⟩, ⟨Kd.R_set HQ7.out HRD7.out.HS (by decide) 4 _⟩, ⟨by have := HM7.out; exact ⟨by simp [World.setCell]; omega, this.2⟩⟩⟩
                            · have d3 : decide (i < N2) = false := decide_eq_false hlt
                              have d4 : decide ((i : Int) < (N2 : Int)) = false := decide_eq_false (by omega)
                              have HE : Aside0 (sres = .ok acc a) := ⟨by rw [← HS.out.2.2, show gk = 0 by have := HS.out; omega]; rfl⟩
                              replace HRES := Aside0.mk (show res = (numberP l 4 a).bind fun s a' => if s ≠ sumV (l.take a) then .stop 52 a else if a' < l.length then .stop 51 a' else .ok ⟨s0, s1, s2, ps, acc, lo, ra⟩ a' by rw [HRES.out, HE.out]; rfl)
                              clear HE HSL HS hlt
                              have r1 := (blk_cell HRD.out.HI 1).trans rfl
                              have HA := Aside0.mk HRD.out.HA
                              have ha0 : (0 : Int) ≤ (a : Int) := by omega
                              have ha1 : (a : Int) ≤ (c : Int) := by have := HA.out; have := HL.out.1; omega
                              have ha2 : (a : Int) ≤ (l.length : Int) := by have := HA.out; omega
                              go_wp2
                              have HD := Aside0.mk HRD.out.drew
                              refine start_ (n := 7) (S := fun w' => True) (ds := []) #[false, false, false, false, false, false, false] (by kernel_rfl) rfl rfl trivial (fun hHeld => ?_)
                              refine with_tabW F18Rtab26 F18Rbits26 (fun HT_ HW_ => ?_)
                              refine pure_ (i := 0) (N := some 84) (v := ?_) (a' := ?_) #[true, false, false, false, false, false, false] rfl rfl (any_of HT_.out (by kernel_rfl)) (fun c_ a_ w_ h_ => bodyD_put (R := PostR w res) (by decide) c_ a_ w_ h_) (Or.inl ⟨by rfl, ?_⟩) ?_ ?_
                              rotate_left
                              · intro w'
                                go_simp
                                with_reducible rfl
                              rotate_left
                              · simp only [Act.put, List.setIfInBounds_toArray, List.set_cons_zero, List.set_cons_succ, i64_w, i32_w]
                                rfl
                              refine pure_ (i := 2) (N := some 86) (v := ?_) (a' := ?_) #[true, false, true, false, false, false, false] rfl rfl (any_of HT_.out (by kernel_rfl)) (fun c_ a_ w_ h_ => bodyD_put (R := PostR w res) (by decide) c_ a_ w_ h_) (Or.inl ⟨by rfl, ?_⟩) ?_ ?_
                              rotate_left
                              · intro w'
                                go_simp
                                with_reducible rfl
                              rotate_left
                              · simp only [Act.put, List.setIfInBounds_toArray, List.set_cons_zero, List.set_cons_succ, i64_w, i32_w]
                                rfl
                              refine pure_ (i := 3) (N := some 87) (v := ?_) (a' := ?_) #[true, false, true, true, false, false, false] rfl rfl (any_of HT_.out (by kernel_rfl)) (fun c_ a_ w_ h_ => bodyD_put (R := PostR w res) (by decide) c_ a_ w_ h_) (Or.inl ⟨by rfl, ?_⟩) ?_ ?_
                              rotate_left
                              · intro w'
                                go_simp
                                with_reducible rfl
                              rotate_left
                              · simp only [Act.put, List.setIfInBounds_toArray, List.set_cons_zero, List.set_cons_succ, i64_w, i32_w]
                                rfl
                              refine pure_ (i := 4) (N := some 88) (v := ?_) (a' := ?_) #[true, false, true, true, true, false, false] rfl rfl (any_of HT_.out (by kernel_rfl)) (fun c_ a_ w_ h_ => bodyD_put (R := PostR w res) (by decide) c_ a_ w_ h_) (Or.inl ⟨by rfl, ?_⟩) ?_ ?_
                              rotate_left
                              · intro w'
                                go_simp
                                with_reducible rfl
                              rotate_left
                              · simp only [Act.put, List.setIfInBounds_toArray, List.set_cons_zero, List.set_cons_succ, i64_w, i32_w]
                                rfl
                              refine one_ (i := 1) (N := some 85) #[true, true, true, true, true, false, false] rfl rfl (one_of HT_.out (by kernel_rfl)) (by decide) (fun K hK => ?_)
                              refine goesE_ Try.func36 (by kernel_rfl) rfl #[.pointer (some ⟨g, 0, none⟩), .int .i64 (4 : Nat)] (by rfl) rfl rfl (by simp only [List.map_toArray, List.map_cons, List.map_nil]; rfl) ?_
                              refine (number_any g A c l a 4 wr.drew HD.out.HI (HD.out.C HC.out) (by have := HLEN.out; omega) HL.out.2 HD.out.HA (by decide)).mono ?_
                              intro e w3 hpost
                              rcases hN : numberP l 4 a with ⟨sm, a'⟩ | ⟨q, p⟩
                              rotate_left
                              · rw [hN] at hpost
                                have hst : res = .stop q p := by rw [HRES.out, hN]; rfl
                                obtain ⟨rfl, hm⟩ := hpost
                                exact HD.out.stop hm ⟨rfl, rfl, rfl⟩ hst
                              rw [hN] at hpost
                              obtain ⟨rfl, hi, hm, ha⟩ := hpost
                              replace HRES := Aside0.mk (show res = if sm ≠ sumV (l.take a) then .stop 52 a else if a' < l.length then .stop 51 a' else .ok ⟨s0, s1, s2, ps, acc, lo, ra⟩ a' by rw [HRES.out, hN]; rfl)
                              have HV3 := Aside0.mk (S_moved (Kd.S_drew HV.out) HD.out.HI hm)
                              have HQ3 := Aside0.mk (R_moved (Kd.R_drew HQ.out) HD.out.HI (by decide) hm)
                              have HRD3 := Aside0.mk (HD.out.moves hm hi ha)
                              clear hN hi hm ha HV HQ HRD HD
                              refine hK.out _ _ trivial (fun hHeld => ?_)
                              clear hK K
                              refine norm_ (a' := ?_) ?_ ?_
                              rotate_left
                              · show Act.put _ (some 85) _ = _
                                simp only [Act.put, List.setIfInBounds_toArray, List.set_cons_zero, List.set_cons_succ, i64_w, i32_w]
                                rfl
                              refine one_ (i := 5) (N := some 89) #[true, true, true, true, true, true, false] rfl rfl (one_of HT_.out (by kernel_rfl)) (by decide) (fun K hK => ?_)
                              have hSum := sum_calls A c l a w3 (HRD3.out.C HC.out) HRD3.out.HB (by have := HLEN.out; omega) (by have := HA.out; omega) HL.out.1
                              refine goes_ Try.func27 (by kernel_rfl) rfl #[.slice A a c] (by rfl) rfl rfl (by simp only [List.map_toArray, List.map_cons, List.map_nil]; rfl) ?_
                              refine hSum.mono ?_
                              rintro e w4 ⟨rfl, hd⟩
                              refine ⟨_, rfl, ?_⟩
                              have hb : Below w3.heap.size w3 w4 := by obtain ⟨q, rfl⟩ := hd.out; exact pw_below_drewN (Below.refl _ _) q
                              have HRD4 := Aside0.mk (HRD3.out.below hb)
                              have HV4 := Aside0.mk (Kd.S_below HV3.out hb)
                              have HQ4 := Aside0.mk (Kd.R_below HQ3.out hb)
                              clear hSum hd hb HRD3 HV3 HQ3
                              refine hK.out _ _ trivial (fun hHeld => ?_)
                              clear hK K
                              refine norm_ (a' := ?_) ?_ ?_
                              rotate_left
                              · show Act.put _ (some 89) _ = _
                                simp only [Act.put, List.setIfInBounds_toArray, List.set_cons_zero, List.set_cons_succ, i64_w, i32_w]
                                rfl
                              refine pure_ (i := 6) (N := some 90) (v := ?_) (a' := ?_) #[true, true, true, true, true, true, true] rfl rfl (any_of HT_.out (by kernel_rfl)) (fun c_ a_ w_ h_ => bodyD_put (R := PostR w res) (by decide) c_ a_ w_ h_) (Or.inl ⟨by rfl, ?_⟩) ?_ ?_
                              rotate_left
                              · intro w'
                                go_simp
                                with_reducible rfl
                              rotate_left
                              · simp only [Act.put, List.setIfInBounds_toArray, List.set_cons_zero, List.set_cons_succ, i64_w, i32_w]
                                rfl
                              refine done_ (done_of HT_.out (by kernel_rfl)) ?_
                              clear r1 HM0 ha0 ha1 ha2
                              by_cases hs : sm = sumV (l.take a)
                              · have hd1 : (sm != sumV (l.take a)) = false := by simpa using hs
                                replace HRES := Aside0.mk (show res = if a' < l.length then .stop 51 a' else .ok ⟨s0, s1, s2, ps, acc, lo, ra⟩ a' by rw [HRES.out, if_neg (by simpa using hs)])
                                clear hs
                                have r1 := (blk_cell HRD4.out.HI 1).trans rfl
                                by_cases hlt : a' < l.length
                                · have d3 : decide (a' < l.length) = true := decide_eq_true hlt
                                  have d4 : decide ((a' : Int) < (l.length : Int)) = true := decide_eq_true (by omega)
                                  replace HRES := Aside0.mk (show res = .stop 51 a' by rw [HRES.out, if_pos hlt])
                                  clear hlt
                                  have HG4 := Aside0.mk (show g ≤ w4.heap.size from Nat.le_of_lt (blk_lt HRD4.out.HI))
                                  go_wp2
                                  exact HRD4.out.stop (Moves.refl g HG4.out) ⟨rfl, rfl, rfl⟩ HRES.out
                                · have d3 : decide (a' < l.length) = false := decide_eq_false hlt
                                  have d4 : decide ((a' : Int) < (l.length : Int)) = false := decide_eq_false (by omega)
                                  replace HRES := Aside0.mk (show res = .ok ⟨s0, s1, s2, ps, acc, lo, ra⟩ a' by rw [HRES.out, if_neg hlt])
                                  clear hlt
                                  obtain ⟨A3, c3, hv3⟩ := Kd.S_slice HV4.out
                                  obtain ⟨A4, c4, hv4⟩ := Kd.R_slice HQ4.out
                                  subst hv3 hv4
                                  generalize hl3 : ps.length = l3 at *
                                  generalize hl4 : acc.length = l4 at *
                                  have m0 := (blk_cell HRD4.out.HS 0).trans rfl
                                  have m1 := (blk_cell HRD4.out.HS 1).trans rfl
                                  have m2 := (blk_cell HRD4.out.HS 2).trans rfl
                                  have m3 := (blk_cell HRD4.out.HS 3).trans rfl
                                  have m4 := (blk_cell HRD4.out.HS 4).trans rfl
                                  have m5 := (blk_cell HRD4.out.HS 5).trans rfl
                                  have m6 := (blk_cell HRD4.out.HS 6).trans rfl
                                  have f0 := blk_frozen HRD4.out.HS 0
                                  have f1 := blk_frozen HRD4.out.HS 1
                                  have f2 := blk_frozen HRD4.out.HS 2
                                  have f3 := blk_frozen HRD4.out.HS 3
                                  have f4 := blk_frozen HRD4.out.HS 4
                                  have f5 := blk_frozen HRD4.out.HS 5
                                  have f6 := blk_frozen HRD4.out.HS 6
                                  have p0 := (blk_cell HRD4.out.HP 0).trans rfl
                                  have pf := blk_frozen HRD4.out.HP 0
                                  have e0 := (blk_cell HRD4.out.HE 0).trans rfl
                                  have ef := blk_frozen HRD4.out.HE 0
                                  go_wp2
                                  exact HRD4.out.done ⟨rfl, rfl, rfl⟩ HV4.out HQ4.out HM00.out HRES.out
                              · have hd1 : (sm != sumV (l.take a)) = true := by simpa using hs
                                replace HRES := Aside0.mk (show res = .stop 52 a by rw [HRES.out, if_pos hs])
                                clear hs
                                have HG4 := Aside0.mk (show g ≤ w4.heap.size from Nat.le_of_lt (blk_lt HRD4.out.HI))
                                go_wp2
                                exact HRD4.out.stop (Moves.refl g HG4.out) ⟨rfl, rfl, rfl⟩ HRES.out
end Go.Proofs.Ytmiljlbbacbbpaa
