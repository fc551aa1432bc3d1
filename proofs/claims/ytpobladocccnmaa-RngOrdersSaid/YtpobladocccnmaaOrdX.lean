/- The document's Pick in plain numbers: those that are marked, rising, are the first ones of the order, sorted. -/
import Derived.Test.YtpobladocccnmaaShufN
import Derived.Test.YtpobladocccnmaaRefS
import Derived.Test.YtpobladocccnmaaAlive
import Derived.Outline
import Derived.Test.YtpobladocccnmaaWZeros
import Derived.Test.YtpobladocccnmaaPickW
namespace Go.Proofs.Ytpobladocccnmaa
open Go.RowKit Mix

/-- which ones are marked behind j marks -/
def inL (n : Nat) (l : List Int) : Nat → List Bool
  | 0 => List.replicate n false
  | j + 1 => (inL n l j).set (l.getD j 0).toNat true

theorem inL_length (n : Nat) (l : List Int) : ∀ j, (inL n l j).length = n
  | 0 => by simp [inL]
  | j + 1 => by rw [inL, List.length_set, inL_length n l j]

theorem getD_setB (l : List Bool) (i j : Nat) (x : Bool) (hi : i < l.length) : (l.set i x).getD j false = if j = i then x else l.getD j false := by
  rw [List.getD_eq_getElem?_getD, List.getElem?_set]
  by_cases h : i = j
  · subst h
    simp [hi]
  · rw [if_neg h, if_neg (fun e => h e.symm), List.getD_eq_getElem?_getD]

theorem inL_iff {n : Nat} {l : List Int} (h : Each n l) : ∀ (j : Nat), j ≤ n → ∀ m, ((inL n l j).getD m false = true ↔ ∃ i, i < j ∧ (l.getD i 0).toNat = m)
  | 0, _, m => by
    rw [inL, List.getD_eq_getElem?_getD, List.getElem?_replicate]
    constructor
    · intro h; split at h <;> cases h
    · rintro ⟨i, hi, _⟩; omega
  | j + 1, hj, m => by
    have hb := h.2.1 j (by omega)
    rw [inL, getD_setB _ _ _ _ (by rw [inL_length]; omega)]
    by_cases e : m = (l.getD j 0).toNat
    · rw [if_pos e]
      exact ⟨fun _ => ⟨j, by omega, e.symm⟩, fun _ => rfl⟩
    · rw [if_neg e, inL_iff h j (by omega) m]
      constructor
      · rintro ⟨i, hi, h⟩; exact ⟨i, by omega, h⟩
      · rintro ⟨i, hi, h⟩
        refine ⟨i, ?_, h⟩
        have : i ≠ j := fun hh => e (by rw [← h, hh])
        omega

/-- those of the first m that are marked -/
def outL (bs : List Bool) : Nat → List Int
  | 0 => []
  | m + 1 => if bs.getD m false = true then outL bs m ++ [(m : Int)] else outL bs m

theorem outL_mem (bs : List Bool) : ∀ (m : Nat) (x : Int), x ∈ outL bs m ↔ ∃ i : Nat, i < m ∧ bs.getD i false = true ∧ x = i
  | 0, x => by
    constructor
    · intro h; cases h
    · rintro ⟨i, hi, _⟩; omega
  | m + 1, x => by
    unfold outL
    by_cases h : bs.getD m false = true
    · rw [if_pos h, List.mem_append, outL_mem bs m x, List.mem_singleton]
      constructor
      · rintro (⟨i, hi, h2, h3⟩ | h2)
        · exact ⟨i, by omega, h2, h3⟩
        · exact ⟨m, by omega, h, h2⟩
      · rintro ⟨i, hi, h2, h3⟩
        by_cases e : i = m
        · subst e; exact .inr h3
        · exact .inl ⟨i, by omega, h2, h3⟩
    · rw [if_neg h, outL_mem bs m x]
      constructor
      · rintro ⟨i, hi, h2, h3⟩; exact ⟨i, by omega, h2, h3⟩
      · rintro ⟨i, hi, h2, h3⟩
        have : i ≠ m := fun e => h (by rw [← e]; exact h2)
        exact ⟨i, by omega, h2, h3⟩

theorem outL_sorted (bs : List Bool) : ∀ (m : Nat), (outL bs m).Pairwise (fun x y => x < y)
  | 0 => List.Pairwise.nil
  | m + 1 => by
    unfold outL
    split
    · rw [List.pairwise_append]
      refine ⟨outL_sorted bs m, List.pairwise_singleton _ _, fun x hx y hy => ?_⟩
      obtain ⟨i, hi, _, rfl⟩ := (outL_mem bs m x).1 hx
      rw [List.mem_singleton.1 hy]
      omega
    · exact outL_sorted bs m

theorem outL_len (bs : List Bool) : ∀ (m : Nat), (outL bs m).length ≤ m
  | 0 => Nat.le_refl _
  | m + 1 => by
    unfold outL
    have := outL_len bs m
    split
    · rw [List.length_append, List.length_singleton]; omega
    · omega

theorem sorted_eq : ∀ {l m : List Int}, l.Pairwise (fun x y => x < y) → m.Pairwise (fun x y => x < y) → (∀ x, x ∈ l ↔ x ∈ m) → l = m
  | [], [], _, _, _ => rfl
  | [], y :: m, _, _, h => absurd ((h y).2 List.mem_cons_self) (by simp)
  | x :: l, [], _, _, h => absurd ((h x).1 List.mem_cons_self) (by simp)
  | x :: l, y :: m, hl, hm, h => by
    have hl' := List.pairwise_cons.1 hl
    have hm' := List.pairwise_cons.1 hm
    have hxy : x = y := by
      rcases List.mem_cons.1 ((h x).1 List.mem_cons_self) with e | hx
      · exact e
      · rcases List.mem_cons.1 ((h y).2 List.mem_cons_self) with e | hy
        · exact e.symm
        · have := hl'.1 y hy
          have := hm'.1 x hx
          omega
    subst hxy
    rw [sorted_eq hl'.2 hm'.2 (fun z => ?_)]
    constructor
    · intro hz
      rcases List.mem_cons.1 ((h z).1 (List.mem_cons_of_mem _ hz)) with e | hy
      · have := hl'.1 z hz
        omega
      · exact hy
    · intro hz
      rcases List.mem_cons.1 ((h z).2 (List.mem_cons_of_mem _ hz)) with e | hy
      · have := hm'.1 z hz
        omega
      · exact hy

theorem srt_strict {l : List Int} (h : l.Nodup) : (srt l).Pairwise (fun x y => x < y) := by
  have h1 := srt_sorted l
  have h2 : (srt l).Nodup := (List.mergeSort_perm _ _).nodup_iff.2 h
  exact (h1.and h2).imp (fun ⟨a, b⟩ => by omega)

theorem pick_eq {n k : Nat} {l : List Int} (h : Each n l) (hk : k ≤ n) : outL (inL n l k) n = srt (l.take k) := by
  refine sorted_eq (outL_sorted _ _) (srt_strict (nodup_take h hk)) (fun x => ?_)
  rw [outL_mem, srt_mem]
  constructor
  · rintro ⟨m, hm, h1, rfl⟩
    obtain ⟨i, hi, h2⟩ := (inL_iff h k hk m).1 h1
    have hb := h.2.1 i (by omega)
    have : (m : Int) = (l.take k).getD i 0 := by rw [take_get hi]; omega
    rw [this]
    exact getD_mem (by rw [List.length_take, h.1]; omega)
  · intro hx
    obtain ⟨i, hi, he⟩ := List.getElem_of_mem hx
    rw [List.length_take] at hi
    have hg : l.getD i 0 = x := by
      rw [← he, List.getElem_take, List.getD_eq_getElem?_getD, List.getElem?_eq_getElem (by omega)]
      rfl
    have hb := h.2.1 i (by omega)
    rw [hg] at hb
    refine ⟨x.toNat, by omega, (inL_iff h k hk _).2 ⟨i, by omega, by rw [hg]⟩, by omega⟩

end Go.Proofs.Ytpobladocccnmaa

/- The walk of the document's Pick: the first ones of the order, rising. -/
namespace Go.Proofs.Ytpobladocccnmaa
open Go.RowKit Mix PBase
open Go.Proofs.YtpobladocccnmaaW.PrintWords Go.Proofs.YtpobladocccnmaaW.PrintLast Go.Proofs.YtpobladocccnmaaW.PrintMore
set_option linter.unusedVariables false
set_option linter.unusedSimpArgs false

/-- a block of bools -/
def IsBools (W : World) (b : Nat) (xs : List Bool) : Prop := W.heap[b]? = some (.cells (bools xs).toArray 4 (0, 0))

theorem IsBools.cell {W : World} {b : Nat} {xs : List Bool} (h : IsBools W b xs) (i : Nat) (hi : i < xs.length) : W.cell? ⟨b, i, none⟩ = some (.bool (xs.getD i false)) := by
  rw [blk_cell h i]
  simp [bools, hi, List.getD_eq_getElem?_getD]
theorem IsBools.frozen {W : World} {b : Nat} {xs : List Bool} (h : IsBools W b xs) (i : Nat) : W.frozen? ⟨b, i, none⟩ = false := blk_frozen h i
theorem IsBools.set {W : World} {b : Nat} {xs : List Bool} (h : IsBools W b xs) (i : Nat) (x : Bool) : IsBools (W.setCell ⟨b, i, none⟩ (.bool x)) b (xs.set i x) := by
  refine blk_put h i _ ?_
  simp [bools, List.map_set]
theorem IsBools.far {W : World} {b : Nat} {xs : List Bool} (h : IsBools W b xs) {p : Addr} (hp : b ≠ p.block) (u : Value) : IsBools (W.setCell p u) b xs := blk_far h hp u
theorem IsBools.below {W W1 : World} {b : Nat} {xs : List Bool} (h : IsBools W b xs) (hb : Below W.heap.size W W1) : IsBools W1 b xs := blk_below h hb

theorem make_bools {P : Program} {ops : Array Oper} {rest : List Oper} {o : Oper} {a : Act} {Q : Exit → Act → World → Prop} {W : World} (hgd : o.guard = none) {N : Tmp} (hd : o.dst = some N) (t e : TypeId) (x y : Operand) (ho : o.op = .makeSlice t x y) (n : Nat) (hx : a.eval x = .int .i64 n) (hy : a.eval y = .int .i64 n)
    (ht : P.underlying t = some (.slice e)) (hinfo : (P.info? e).map (fun i => (i.zero, i.size, i.bytes)) = some (some (.bool false), 1, 1)) (hl : n * 1 ≤ 281474976710656)
    (h : ∀ b w1, b = W.heap.size → w1.heap[b]? = some (.cells (bools (List.replicate n false)).toArray e (0, 0)) → Below W.heap.size W w1 → wpList P ops Q rest (a.put o.dst (.slice (some ⟨b, 0, none⟩) n n)) w1) : wpList P ops Q (o :: rest) a W := by
  obtain ⟨i0, hi, hzz⟩ := Option.map_eq_some_iff.1 hinfo
  simp only [Prod.mk.injEq] at hzz
  obtain ⟨hz0, hz1, hz2⟩ := hzz
  have hr := run_make (P := P) W t e i0 (.bool false) ht hi hz0 .i64 .i64 (n : Int) (n : Int) (by omega) (by omega) (by rw [hz2]; omega) (by omega)
  simp only [Int.toNat_natCast] at hr
  rw [hz1, Nat.mul_one] at hr
  have hc : (madeCells (Value.bool false).cells n) = (bools (List.replicate n false)).toArray := by
    apply Array.ext'
    simp [madeCells, bools, Value.cells, List.map_const]
    apply List.ext_getElem
    · simp
    · intro i h1 h2; simp [Nat.mod_one]
  rw [hc] at hr
  refine Kd.event_run hgd (v := .slice (some ⟨W.heap.size, 0, none⟩) n n) (w1 := W.alloc (.cells (bools (List.replicate n false)).toArray e)) ?_ (h W.heap.size _ rfl (blk_new W _) (below_alloc (Below.refl _ _) _))
  simp [execOp, ho, hx, hy, hr]

theorem info4 : (Try.prog.info? 4).map (fun i => (i.zero, i.size, i.bytes)) = some (some (.bool false), 1, 1) := by kernel_rfl

def F47RT13 : Bool × List (List Nat × List Nat) := (true, [([], []), ([], []), ([0, 0], [0]), ([1, 2, 0, 1, 2], [1])])
def F47RB13 : List Nat := [0, 0, 1, 7]
theorem F47Rtab13 : rtab .any (opsOf Try.f47 13) = F47RT13 := by kernel_rfl
theorem F47Rbits13 : waitsOk F47RT13.2 F47RB13 = true := by kernel_rfl
set_option maxHeartbeats 1000000 in
set_option maxRecDepth 100000 in
theorem refPick_calls (s t a : Int) (n k : Nat) (w : World) (hk : k ≤ n) (hn : n ≤ 65536) :
    Calls Try.prog 47 #[.agg #[.int .i64 s, .int .i64 t, .int .i64 a], .int .i64 n, .int .i64 k] w fun e w' => ∃ v, e = .returned (.tuple #[v, .agg #[.int .i64 s, .int .i64 t, .int .i64 (shuf s t a n).2]]) ∧ OwnInts w w' v (srt ((shuf s t a n).1.take k)) ∧ Below w.heap.size w w' := by
  have HE := each_shuf s t a n
  have HP := pick_eq HE hk
  have hlen := shuf_length s t a n
  have HK := Aside0.mk hk
  have HN := Aside0.mk hn
  clear hk
  obtain ⟨a2, ha2⟩ : ∃ x, x = (shuf s t a n).2 := ⟨_, rfl⟩
  obtain ⟨l, hl⟩ : ∃ x, x = (shuf s t a n).1 := ⟨_, rfl⟩
  rw [← hl] at HE HP hlen
  rw [← ha2, ← hl, ← HP]
  obtain ⟨bs, hbs⟩ : ∃ bs, bs = inL n l k := ⟨_, rfl⟩
  have hbl : bs.length = n := by rw [hbs, inL_length]
  rw [← hbs]
  have HBS := Aside0.mk hbs
  have HBL := Aside0.mk hbl
  clear hbs hbl
  have HA2 := Aside0.mk ha2
  have HLL := Aside0.mk hl
  have HL := Aside0.mk hlen
  have HEA := Aside0.mk HE
  clear ha2 hl HE HP hlen
  have H0 : Aside0 (inL n l 0 = List.replicate n false) := ⟨rfl⟩
  go_enter Try.func47, Try.ntmps47
  go_wp2_with fail
  have G2 : Aside0 (IsS23 w ((w.alloc (Obj.cells #[Value.int IntKind.i64 s, Value.int IntKind.i64 t, Value.int IntKind.i64 a] 23)).alloc (Obj.cells #[Value.int IntKind.i64 0, Value.int IntKind.i64 0, Value.int IntKind.i64 0] 23)) (w.heap.size + 1) 0 0 0) := ⟨by have h := IsS23.new w (w.alloc (Obj.cells #[Value.int IntKind.i64 s, Value.int IntKind.i64 t, Value.int IntKind.i64 a] 23)) 0 0 0 ((Below.refl _ _).alloc (Nat.le_refl _) _); simpa using h⟩
  refine (refShuffle_calls s t a n _ HN.out).mono ?_
  rintro e w1 ⟨v, rfl, hR, hb⟩
  rw [← HLL.out] at hR
  rw [← HA2.out]
  have G1 := Aside0.mk (((IsS23.new w w s t a (Below.refl _ _)).alloc (Obj.cells #[Value.int IntKind.i64 0, Value.int IntKind.i64 0, Value.int IntKind.i64 0] 23)).below hb)
  have G2 := Aside0.mk (G2.out.below hb)
  have HB := Aside0.mk (below_step (((Below.refl _ _).alloc (Nat.le_refl _) _).alloc (by simp) _) hb)
  obtain ⟨A, c, rfl, hc, _⟩ := OwnInts.C hR
  have HR := Aside0.mk (Kd.R_lower hR (by simp; omega) : OwnInts w w1 _ _)
  clear hR hb hc
  have hlt : w.heap.size < w1.heap.size := G1.out.lt
  obtain ⟨hI0, _⟩ := G1.out
  have c0 := cellS23_0 hI0
  have c1 := cellS23_1 hI0
  have c2 := cellS23_2 hI0
  have f0 := blk_frozen hI0 0
  have f1 := blk_frozen hI0 1
  have f2 := blk_frozen hI0 2
  clear hI0
  rw [HL.out] at HR ⊢
  have BD : Aside0 (w.heap.size ≠ w.heap.size + 1) := ⟨by omega⟩
  go_wp2_with ((with_reducible refine gate_dst (N := 20) rfl ?_); refine make_bools rfl rfl 87 4 _ _ rfl n rfl rfl Try.underlying87 info4 (by have := HN.out; omega) ?_; intro bl w2 hbl hb1 hbw; rw [← H0.out] at hb1; have HL1 : Aside0 (IsBools w2 bl (inL n l 0)) := ⟨hb1⟩; have hb2 : Below (((w1.setCell ⟨w.heap.size, 0, none⟩ (.int .i64 s)).setCell ⟨w.heap.size, 1, none⟩ (.int .i64 t)).setCell ⟨w.heap.size, 2, none⟩ (.int .i64 a2)).heap.size (((w1.setCell ⟨w.heap.size, 0, none⟩ (.int .i64 s)).setCell ⟨w.heap.size, 1, none⟩ (.int .i64 t)).setCell ⟨w.heap.size, 2, none⟩ (.int .i64 a2)) w2 := (by simpa using hbw); have HR1 := Aside0.mk (Kd.R_below (Kd.R_set (Kd.R_set (Kd.R_set HR.out G1.out.1 (by decide) 0 (.int .i64 s)) (blk_set G1.out.1 _ _) (by decide) 1 (.int .i64 t)) (blk_set (blk_set G1.out.1 _ _) _ _) (by decide) 2 (.int .i64 a2)) hb2); have G11 := Aside0.mk ((((G1.out.set_0 s).set_1 t).set_2 a2).below hb2); have G21 := Aside0.mk ((((G2.out.far (p := ⟨w.heap.size, 0, none⟩) (Ne.symm BD.out) (.int .i64 s)).far (p := ⟨w.heap.size, 1, none⟩) (Ne.symm BD.out) (.int .i64 t)).far (p := ⟨w.heap.size, 2, none⟩) (Ne.symm BD.out) (.int .i64 a2)).below hb2); have HB1 := Aside0.mk (below_step (below_set (below_set (below_set HB.out (Nat.le_refl _)) (Nat.le_refl _)) (Nat.le_refl _)) hb2); have HG := Aside0.mk (show w.heap.size + 1 < bl by have := G2.out.lt; simp at hbl; omega); clear hbl hb1 hb2 hbw c0 c1 c2 f0 f1 f2 hlt HR G1 G2 HB)
  go_loopg [10] k (fun kq v10 w' => ∃ j : Nat, v10 = .int .i64 j ∧ Aside0 (j + kq = k) ∧ Aside0 (IsBools w' bl (inL n l j)) ∧ Aside0 (OwnInts w w' (.slice A n c) l) ∧ Aside0 (IsS23 w w' w.heap.size s t a2) ∧ Aside0 (IsS23 w w' (w.heap.size + 1) 0 0 0) ∧ Aside0 (Below w.heap.size w w'))
  case atStart => exact ⟨0, rfl, ⟨by omega⟩, HL1, HR1, G11, G21, HB1⟩
  case round =>
    clear HL1 HR1 G11 G21 HB1
    obtain ⟨j, rfl, HJ, HI, HR, G1, G2, HB⟩ := hrel
    by_cases hlt : j < k
    · as_aux_lemma =>
        have d1 : decide (j < k) = true := decide_eq_true hlt
        have hjn : j < n := by have := HK.out; omega
        obtain ⟨g, cap, hv⟩ := OwnInts.form HR.out (by rw [HL.out]; omega)
        have hA : A = some ⟨g, 0, none⟩ := by injection hv
        subst hA
        clear hv
        obtain ⟨ci, fi⟩ := OwnInts.cell HR.out HL.out.symm j (by rw [HL.out]; exact hjn)
        obtain ⟨hx0, hx1⟩ := HEA.out.2.1 j hjn
        obtain ⟨m, hm⟩ : ∃ m : Nat, l.getD j 0 = (m : Int) := ⟨(l.getD j 0).toNat, by omega⟩
        have hmn : m < n := by omega
        have hstep : Aside0 ((inL n l j).set m true = inL n l (j + 1)) := ⟨by rw [inL, hm, Int.toNat_natCast]⟩
        rw [hm] at ci
        have cb := HI.out.cell m (by rw [inL_length]; exact hmn)
        have fb := HI.out.frozen m
        generalize (inL n l j).getD m false = bq at cb
        have HLT := Aside0.mk hlt
        have hne : ¬ bl = w.heap.size := by have := HG.out; omega
        have hne1 : ¬ bl = w.heap.size + 1 := by have := HG.out; omega
        have HNE := Aside0.mk hne
        have HNE1 := Aside0.mk hne1
        clear hm hx0 hx1 hne hne1 fi
        go_wp2
        go_roundg (gk - 1)
        case measure => have := HJ.out; have := HLT.out; omega
        case rel => exact ⟨j + 1, by go_num, ⟨by have := HJ.out; have := HLT.out; omega⟩, ⟨by rw [← hstep.out]; exact HI.out.set m true⟩, ⟨Kd.R_set HR.out HI.out (by decide) m (.bool true)⟩, ⟨G1.out.far (Ne.symm HNE.out) _⟩, ⟨G2.out.far (Ne.symm HNE1.out) _⟩, ⟨HB.out.setCell (by show w.heap.size ≤ bl; have := HG.out; omega) _⟩⟩
    · have d1 : decide (j < k) = false := decide_eq_false hlt
      have hj : j = k := by have := HJ.out; omega
      subst hj
      clear HJ hlt
      have HI := Aside0.mk (show IsBools wr bl bs by rw [HBS.out]; exact HI.out)
      clear HR
      go_wp2
      go_loopg [11, 12] n (fun kq v11 v12 w' => ∃ i : Nat, v12 = .int .i64 i ∧ Aside0 (i + kq = n) ∧ Aside0 (OwnInts w w' v11 (outL bs i)) ∧ Aside0 (IsBools w' bl bs) ∧ Aside0 (IsS23 w w' w.heap.size s t a2) ∧ Aside0 (IsS23 w w' (w.heap.size + 1) 0 0 0) ∧ Aside0 (Below w.heap.size w w'))
      case atStart => exact ⟨0, rfl, ⟨by omega⟩, ⟨Kd.R_nil _ _ _ _ _⟩, HI, G1, G2, HB⟩
      case round =>
        clear HI G1 G2 HB
        obtain ⟨i, rfl, HJ, HO, HI, G1, G2, HB⟩ := hrel
        by_cases hlt : i < n
        · as_aux_lemma =>
            have d1 : decide (i < n) = true := decide_eq_true hlt
            have cb := HI.out.cell i (by rw [HBL.out]; exact hlt)
            have HLT := Aside0.mk hlt
            by_cases hbi : bs.getD i false = true
            · have HST : Aside0 (outL bs (i + 1) = outL bs i ++ [(i : Int)]) := ⟨by rw [outL, if_pos hbi]⟩
              rw [hbi] at cb
              clear hbi
              go_wp2_with ((with_reducible refine gate_builtin (b := .append) (xs := #[.tmp 41, .tmp 43]) rfl ?_); at_builtin; refine Kd.R_append (Kd.int .i64) (w0 := w) w.heap.size rfl (.tmp 41) (.tmp 43) 45 3 (.int .i64 0) 8 rfl Try.underlying45 info3 rfl (by decide) (by omega) u11 (outL bs i) (i : Int) [.int .i64 (i : Int)] (fun _ => True) (fun _ => False) rfl rfl ?aP (fun _ hk => hk.elim) ?aF ?aO ?aB ?aS ?aL ?_; (case aP => exact rfl); (case aB => exact HB.out); (case aF => exact (fun _ _ => trivial)); (case aO => exact HO.out); (case aS => exact below_size HB.out); (case aL => have := outL_len bs i; have := HN.out; have := HLT.out; omega); intro v9 w7 ho hb hg hat; have HR2 : Aside0 (OwnInts w w7 v9 (outL bs (i + 1))) := ⟨by rw [HST.out]; exact ho⟩; have HG1 := Aside0.mk (G1.out.grown hg (Kd.R_ne HO.out G1.out.1 (by decide))); have HG2 := Aside0.mk (G2.out.grown hg (Kd.R_ne HO.out G2.out.1 (by decide))); have HI2 : Aside0 (IsBools w7 bl bs) := ⟨(hg.block bl (blk_lt HI.out) (Kd.R_ne HO.out HI.out (by decide))).trans HI.out⟩; have HB2 := Aside0.mk hb; clear ho hb hg hat HO G1 G2 HB HI cb)
              go_roundg (gk - 1)
              case measure => have := HJ.out; have := HLT.out; omega
              case rel => exact ⟨i + 1, by go_num, ⟨by have := HJ.out; have := HLT.out; omega⟩, HR2, HI2, HG1, HG2, HB2⟩
            · have HST : Aside0 (outL bs (i + 1) = outL bs i) := ⟨by rw [outL, if_neg hbi]⟩
              have hbf : bs.getD i false = false := by cases h : bs.getD i false with | false => rfl | true => exact absurd h hbi
              rw [hbf] at cb
              clear hbi hbf
              go_wp2
              go_roundg (gk - 1)
              case measure => have := HJ.out; have := HLT.out; omega
              case rel => exact ⟨i + 1, by go_num, ⟨by have := HJ.out; have := HLT.out; omega⟩, ⟨by rw [HST.out]; exact HO.out⟩, HI, G1, G2, HB⟩
        · have d1 : decide (i < n) = false := decide_eq_false hlt
          have hj : i = n := by have := HJ.out; omega
          subst hj
          clear HJ hlt
          obtain ⟨hI0, _⟩ := G1.out
          have c0 := cellS23_0 hI0
          have c1 := cellS23_1 hI0
          have c2 := cellS23_2 hI0
          obtain ⟨hI1, _⟩ := G2.out
          have e0 := cellS23_0 hI1
          have e1 := cellS23_1 hI1
          have e2 := cellS23_2 hI1
          have f0 := blk_frozen hI1 0
          have f1 := blk_frozen hI1 1
          have f2 := blk_frozen hI1 2
          clear hI0 hI1
          go_wp2
          refine start_ (n := 4) (S := fun w' => w'.cell? ⟨w.heap.size, 0, none⟩ = some (.int .i64 s) ∧ w'.cell? ⟨w.heap.size, 1, none⟩ = some (.int .i64 t) ∧ w'.cell? ⟨w.heap.size, 2, none⟩ = some (.int .i64 a2)) (ds := [3]) #[false, false, false, false] (by kernel_rfl) rfl rfl ⟨c0, c1, c2⟩ (fun hHeld => ?_)
          refine with_tabW F47Rtab13 F47Rbits13 (fun HT_ HW_ => ?_)
          refine pure_ (i := 0) (N := some 45) (v := ?_) (a' := ?_) #[true, false, false, false] rfl rfl (any_of HT_.out (by kernel_rfl)) (fun _ _ _ h => h) (Or.inl ⟨by rfl, ?_⟩) ?_ ?_
          rotate_left
          · intro w'
            go_simp
            with_reducible rfl
          rotate_left
          · simp only [Act.put, List.setIfInBounds_toArray, List.set_cons_zero, List.set_cons_succ, i64_w, i32_w]
            rfl
          refine pure_ (i := 2) (N := some 6) (v := ?_) (a' := ?_) #[true, false, true, false] rfl rfl (any_of HT_.out (by kernel_rfl)) (fun _ _ _ h => h) (Or.inl ⟨by rfl, ?_⟩) ?_ ?_
          rotate_left
          · intro w'
            go_simp
            with_reducible rfl
          rotate_left
          · simp only [Act.put, List.setIfInBounds_toArray, List.set_cons_zero, List.set_cons_succ, i64_w, i32_w]
            rfl
          refine take_ (i := 1) (N := some 46) (v := ?_) (a' := ?_) #[true, true, true, false] rfl rfl (take_ofW HT_.out HW_.out (by kernel_rfl)) (fun _ _ _ h => h) (Or.inl ⟨by rfl, ?_⟩) hHeld ?_ ?_
          rotate_left
          · rintro w' ⟨s0, s1, s2⟩
            go_simp
            with_reducible rfl
          rotate_left
          · simp only [Act.put, List.setIfInBounds_toArray, List.set_cons_zero, List.set_cons_succ, i64_w, i32_w]
            rfl
          refine last_ (i := 3) (N := none) #[true, true, true, true] rfl rfl (one_of HT_.out (by kernel_rfl)) (by decide) (fun K hK => ?_)
          refine skip_ (w1 := ?_) (by rfl) rfl ?_ ?_
          rotate_left
          · go_simp
            rfl
          refine hK.out _ _ ?_
          clear hK K
          refine done_ (done_of HT_.out (by kernel_rfl)) ?_
          go_wp2
          refine bodyPost_ret (v := .tuple #[u11, .agg #[.int .i64 s, .int .i64 t, .int .i64 a2]]) (by simp [results, Try.results47, go_sem, e0, e1, e2]) rfl ?_
          exact ⟨u11, rfl, Kd.R_drew (Kd.R_set (Kd.R_set (Kd.R_set HO.out G2.out.1 (by decide) _ _) (blk_set G2.out.1 _ _) (by decide) _ _) (blk_set (blk_set G2.out.1 _ _) _ _) (by decide) _ _), Below.drew (below_set (below_set (below_set HB.out (by omega)) (by omega)) (by omega))⟩

end Go.Proofs.Ytpobladocccnmaa

/- Lists that are kept: what is appended to one of them (zeros) and written behind it leaves it as it was. -/
namespace Go.Proofs.Ytpobladocccnmaa
open Go.RowKit PBase
open Go.Proofs.YtpobladocccnmaaW.PrintWords Go.Proofs.YtpobladocccnmaaW.PrintLast Go.Proofs.YtpobladocccnmaaW.PrintMore
set_option linter.unusedVariables false
set_option linter.unusedSimpArgs false

theorem own_set_behind {W : World} {base e n : Nat} {v : Value} {xs : List Value} (h : W.ownsRow base e 1 v n xs) {b j : Nat} (hj : v.ownBlock = some b → n ≤ j) (u : Value) : (W.setCell ⟨b, j, none⟩ u).ownsRow base e 1 v n xs := by
  obtain ⟨h1, h2⟩ := h
  refine ⟨h1, ?_⟩
  rcases h2 with h2 | ⟨g, cap, cur, rfl, hg, hh, h3, h4, h5, h6⟩
  · exact .inl h2
  · by_cases hb : g = b
    · subst hb
      have hj := hj rfl
      refine .inr ⟨g, cap, cur.setIfInBounds j u, rfl, hg, ?_, h3, h4, by simpa using h5, ?_⟩
      · simp [World.setCell, Array.getElem?_modify, hh]
      · rw [← h6, Array.toList_setIfInBounds, List.take_set_of_le (by omega)]
    · exact .inr ⟨g, cap, cur, rfl, hg, (Below.heap_setCell W ⟨b, j, none⟩ u g hb).trans hh, h3, h4, h5, h6⟩

theorem own_same {W W1 : World} {base e n : Nat} {v : Value} {xs : List Value} (h : W.ownsRow base e 1 v n xs) (hm : ∀ k, v.ownBlock = some k → k < W.heap.size → W1.heap[k]? = W.heap[k]?) : W1.ownsRow base e 1 v n xs :=
  own_move h (fun k hk => hm k hk (own_lt h k hk))

/-- append(v, make([]T, m)...): where the new row lies; the elder one stays. -/
theorem run_grow {P : Program} (w : World) (base : Nat) (t ti ty e : TypeId) (i : TypeInfo) (z : Value) (ht : P.underlying t = some (.slice e)) {k : IntKind} (hti : P.underlying ti = some (.int k)) (hi : P.info? e = some i) (hz : i.zero = some z)
    (hsize : i.size = 1) (hzs : z.cells.size = 1) (hb0 : 0 < i.bytes)
    (v : Value) (n : Nat) (xs : List Value) (hown : w.ownsRow base e 1 v n xs) (kx : IntKind) (m : Nat) (hm0 : 0 < m) (h1 : ∀ u ∈ (Builtin.zeroCells z.cells m).toList, u.oneCell' = true)
    (hbytes : (n + m) * i.bytes ≤ 140737488355328) (hbase : base ≤ w.heap.size) :
    ∃ b1 c1 cur w', (Builtin.append_ #[t, ti] ty #[v, .int kx m]).run P w = .ok (.slice (some ⟨b1, 0, none⟩) (n + m) c1) w' ∧ w'.heap[b1]? = some (.cells cur e (0, 0)) ∧ n + m ≤ cur.size ∧ w.grownBy w' v.ownBlock ∧ w'.ownsRow base e 1 v n xs ∧ (w.heap.size ≤ b1 ∨ v.ownBlock = some b1) := by
  have hle : n + m ≤ 140737488355328 := Nat.le_trans (Nat.le_mul_of_pos_right _ hb0) hbytes
  have h63 : n + m ≤ maxLen := by simp only [maxLen]; omega
  have hw : IntKind.i64.wrap (m : Int) = m := by rw [IntKind.wrap_i64]; omega
  have hneg : ¬ ((m : Int) < 0) := by omega
  have hmb : m * i.bytes ≤ 140737488355328 := Nat.le_trans (Nat.mul_le_mul_right _ (Nat.le_add_left m n)) hbytes
  have hbig : ¬ (281474976710656 < (m : Int) * (i.bytes : Int)) := by
    rw [← Int.natCast_mul]
    omega
  obtain ⟨news, hnews⟩ : ∃ news, news = (Builtin.zeroCells z.cells m).toList := ⟨_, rfl⟩
  rw [← hnews] at h1
  have hl : news.length = m := by rw [hnews, Array.length_toList, size_zeroCells, hzs, Nat.mul_one]
  have hna : Builtin.zeroCells z.cells m = news.toArray := by rw [hnews]
  have hxl : xs.length = n := by rw [hown.1, Nat.mul_one]
  have hmz : ¬ m = 0 := by omega
  have runs : ∀ (A : Option Addr) (cap : Nat), cap < n + m → (Builtin.firstCells i.size n (.slice A n cap)).run P w.drew = .ok xs.toArray w.drew → (Builtin.append_ #[t, ti] ty #[.slice A n cap, .int kx m]).run P w =
      .ok (.slice (some ⟨w.heap.size, 0, none⟩) (n + m) (grownCap w (n + m) cap e)) (w.drew.alloc (.cells (xs.toArray ++ news.toArray ++ Builtin.zeroCells z.cells (grownCap w (n + m) cap e - (n + m))) e)) := by
    intro A cap hcap hfo
    have hn : ¬ (n + m ≤ cap) := by omega
    have h63' : ¬ (9223372036854775807 < ((n : Int) + (m : Int))) := by omega
    have hfit := growslice_fits hcap hbytes
    have h48' : ¬ (281474976710656 < Builtin.nextslicecap (n + m) cap * i.bytes) := by omega
    rw [hsize] at hfo
    simp [Builtin.append_, run_underlying ht, run_underlying hti, sizeOf, typeInfo, zeroValue, hi, hz, asInt, asIntOf, hw, hneg, hbig, hn, h63', h48', Question.forced, hfo, newRow, grownCap, hmz, hna, hsize]
    congr 2
    apply Array.ext'
    simp [List.append_assoc]
  have fresh : ∀ (row : Option Nat) (cap : Nat), w.grownBy (w.drew.alloc (.cells (xs.toArray ++ news.toArray ++ Builtin.zeroCells z.cells (grownCap w (n + m) cap e - (n + m))) e)) row := fun row cap => ⟨rfl, rfl, rfl, by simp, fun k hk _ => heap_alloc_old w.drew _ hk⟩
  have hsz : ∀ cap, n + m ≤ (xs.toArray ++ news.toArray ++ Builtin.zeroCells z.cells (grownCap w (n + m) cap e - (n + m))).size := fun cap => by
    simp only [Array.size_append, List.size_toArray, hxl, hl]; omega
  rcases hown.2 with ⟨rfl, rfl⟩ | ⟨g, cap, cur, rfl, hbg, hg, hnc, hcm, hcs, htake⟩
  · have hx : xs = [] := List.eq_nil_of_length_eq_zero hxl
    have hgr := fresh none 0
    refine ⟨_, _, _, _, runs none 0 (by omega) (by simp [Builtin.firstCells, hx]), heap_alloc_new w.drew _, hsz _, hgr, ?_, .inl (Nat.le_refl _)⟩
    exact ⟨hown.1, .inl ⟨rfl, rfl⟩⟩
  · by_cases hroom : n + m ≤ cap
    · have hfit : n + news.length ≤ cur.size := by rw [hl, hcs, Nat.mul_one]; exact hroom
      obtain ⟨cur', h3, h4, h5⟩ := setCells_row news n w cur hg hfit
      obtain ⟨s1, s2, s3, s4⟩ := setCells_same g news n w
      have hst := run_storeCells_cells (P := P) g n news 0 w (fun j hj => by rw [cell_of_row w g _ cur e (0, 0) hg]; simp; omega) (fun j _ => blk_frozen hg _) h1
      simp only [Nat.add_zero] at hst
      refine ⟨g, cap, cur', w.setCells g n news, ?_, h3, by rw [h4, hcs]; omega, ⟨s1, s2, s3, by rw [s4]; exact Nat.le_refl _, fun k _ hk => setCells_far news _ k (fun e => hk (by simp [Value.ownBlock, e]))⟩, ⟨hown.1, .inr ⟨g, cap, cur', rfl, hbg, h3, hnc, hcm, by rw [h4, hcs], ?_⟩⟩, .inr rfl⟩
      · simp [Builtin.append_, run_underlying ht, run_underlying hti, sizeOf, typeInfo, zeroValue, hi, hz, asInt, asIntOf, hw, hneg, hbig, hroom, hmz, hna, hsize, add_plain, hst]
      · rw [h5, Nat.mul_one]
        have h6 : cur.toList.take n = xs := by rw [← htake, Nat.mul_one]
        rw [h6, List.append_assoc, List.take_append_of_le_length (by omega), List.take_of_length_le (by omega)]
    · have holds : ∀ j u, xs[j]? = some u → w.cell? ((⟨g, 0, none⟩ : Addr).add j) = some u := hown.cells (g := g) rfl
      have hgr := fresh (Value.ownBlock (.slice (some ⟨g, 0, none⟩) n cap)) cap
      refine ⟨_, _, _, _, runs (some ⟨g, 0, none⟩) cap (by omega) (run_firstCells_some (P := P) w.drew i.size n _ n cap xs (by rw [hsize]; exact hown.1) (by simpa using holds)), heap_alloc_new w.drew _, hsz _, hgr, ?_, .inl (Nat.le_refl _)⟩
      exact own_move hown (fun k hk => heap_alloc_old w.drew _ (own_lt hown k hk))

/-- What is seen behind append(v, make([]T, m)...) and a store into the new row's last place: the elder row stays, and so do all blocks but its own. -/
theorem grow_zeros {P : Program} {ops : Array Oper} {rest : List Oper} {o : Oper} {a : Act} {Q : Exit → Act → World → Prop} {W : World} (base : Nat) (hgd : o.guard = none) (s x : Operand) (t ti e : TypeId) (kz : IntKind) (bytes : Nat)
    (ho : o.op = .call { callee := .builtin .append, args := #[s, x], argTypes := #[t, ti] })
    (ht : P.underlying t = some (.slice e)) {k : IntKind} (hti : P.underlying ti = some (.int k)) (hinfo : (P.info? e).map (fun i => (i.zero, i.size, i.bytes)) = some (some (.int kz 0), 1, bytes)) (hb0 : 0 < bytes)
    (v : Value) (n : Nat) (xs : List Value) (m : Nat) (hm0 : 0 < m) (hown : W.ownsRow base e 1 v n xs) (hs : a.eval s = v) (hx : a.eval x = .int .i64 m)
    (hbytes : (n + m) * bytes ≤ 140737488355328) (hbase : base ≤ W.heap.size)
    (h : ∀ b1 c1 w1 y, w1.cell? ⟨b1, n + m - 1, none⟩ = some y → w1.frozen? ⟨b1, n + m - 1, none⟩ = false → (∀ u, (w1.setCell ⟨b1, n + m - 1, none⟩ u).ownsRow base e 1 v n xs ∧ W.grownBy (w1.setCell ⟨b1, n + m - 1, none⟩ u) v.ownBlock) → wpList P ops Q rest (a.put o.dst (.slice (some ⟨b1, 0, none⟩) (n + m) c1)) w1) : wpList P ops Q (o :: rest) a W := by
  obtain ⟨i0, hi, hzz⟩ := Option.map_eq_some_iff.1 hinfo
  simp only [Prod.mk.injEq] at hzz
  obtain ⟨hz0, hz1, hz2⟩ := hzz
  have h1 : ∀ u ∈ (Builtin.zeroCells (Value.int kz 0).cells m).toList, u.oneCell' = true := by
    intro u hu
    simp [Builtin.zeroCells, Value.cells] at hu
    obtain ⟨q, _, rfl⟩ := hu
    simp [Nat.mod_one, Value.oneCell']
  obtain ⟨b1, c1, cur, w1, hr, hh, hsz, hg, hst, hat⟩ := run_grow (P := P) W base t ti o.type e i0 (.int kz 0) ht hti hi hz0 hz1 rfl (by omega) v n xs hown .i64 m hm0 h1 (by rw [hz2]; exact hbytes) hbase
  refine wpList_plain hgd fun K hK => ?_
  unfold Oper.wp execOp
  simp only [ho, resolve, invoke, builtin, Sem.run_bind, Sem.run_pure, Result.andThen_ok, List.map_toArray, List.map_cons, List.map_nil, hs, hx, hr]
  have hc : w1.cell? ⟨b1, n + m - 1, none⟩ = some (cur[n + m - 1]'(by omega)) := by rw [blk_cell hh]; simp
  refine hK _ _ (h b1 c1 w1 _ hc (blk_frozen hh _) fun u => ⟨own_set_behind hst (fun _ => by omega) u, ?_⟩)
  refine ⟨hg.os, hg.tape, hg.output, by simpa using hg.size, fun k hk hne => ?_⟩
  have hkb : k ≠ b1 := by
    rintro rfl
    rcases hat with hat | hat
    · omega
    · exact hne hat.symm
  exact (Below.heap_setCell w1 ⟨b1, n + m - 1, none⟩ u k hkb).trans (hg.block k hk hne)

end Go.Proofs.Ytpobladocccnmaa

/- The walk of pupillaw2.Keep's Add, and what a Keep is. -/
namespace Go.Proofs.Ytpobladocccnmaa
open Go.RowKit PBase
open Go.Proofs.YtpobladocccnmaaW.PrintWords Go.Proofs.YtpobladocccnmaaW.PrintLast Go.Proofs.YtpobladocccnmaaW.PrintMore
set_option linter.unusedVariables false
set_option linter.unusedSimpArgs false

abbrev nilS : Value := .slice none 0 0

/-- the rows of a list of lists, each in a block of its own kind -/
structure RowsI (base : Nat) (W : World) (v : Value) (vs : List Value) (xss : List (List Int)) : Prop where
  o : W.ownsRow base 45 1 v vs.length vs
  len : vs.length = xss.length
  row : ∀ i, i < xss.length → W.ownsRow base 3 1 (vs.getD i nilS) (xss.getD i []).length (nums .i64 (xss.getD i []))

theorem RowsI.same {base : Nat} {W W1 : World} {v : Value} {vs : List Value} {xss : List (List Int)} (h : RowsI base W v vs xss) (hm : ∀ k, k < W.heap.size → W1.heap[k]? = W.heap[k]?) : RowsI base W1 v vs xss :=
  ⟨own_same h.o (fun k _ hk => hm k hk), h.len, fun i hi => own_same (h.row i hi) (fun k _ hk => hm k hk)⟩

/-- a Keep: what is kept, what it was -/
structure KeepI (base : Nat) (W : World) (g : Nat) (vL vW : Value) (vs ws : List Value) (xss : List (List Int)) : Prop where
  blk : W.heap[g]? = some (.cells #[vL, vW] 43 (0, 0))
  ge : base ≤ g
  L : RowsI base W vL vs xss
  Wa : RowsI base W vW ws xss
  neLW : NeRow vL vW
  ne : ∀ i j, i < xss.length → j < xss.length → i ≠ j → NeRow (vs.getD i nilS) (vs.getD j nilS)

theorem KeepI.same {base : Nat} {W W1 : World} {g : Nat} {vL vW : Value} {vs ws : List Value} {xss : List (List Int)} (h : KeepI base W g vL vW vs ws xss) (hm : ∀ k, k < W.heap.size → W1.heap[k]? = W.heap[k]?) : KeepI base W1 g vL vW vs ws xss :=
  ⟨(hm g (blk_lt h.blk)).trans h.blk, h.ge, h.L.same hm, h.Wa.same hm, h.neLW, h.ne⟩
theorem KeepI.below {base : Nat} {W W1 : World} {g : Nat} {vL vW : Value} {vs ws : List Value} {xss : List (List Int)} (h : KeepI base W g vL vW vs ws xss) (hb : Below W.heap.size W W1) : KeepI base W1 g vL vW vs ws xss := h.same hb.block
theorem KeepI.lt {base : Nat} {W : World} {g : Nat} {vL vW : Value} {vs ws : List Value} {xss : List (List Int)} (h : KeepI base W g vL vW vs ws xss) : g < W.heap.size := blk_lt h.blk

/-- all blocks of other kinds than a Keep's and its outer rows stay -/
def TyKeep (w w' : World) : Prop := ∀ (k : Nat) (cs : Array Value) (t : TypeId), w.heap[k]? = some (.cells cs t (0, 0)) → t ≠ 43 → t ≠ 45 → w'.heap[k]? = w.heap[k]?

theorem TyKeep.of_below {w w' : World} (h : Below w.heap.size w w') : TyKeep w w' := fun k cs t hk _ _ => h.block k (blk_lt hk)
theorem TyKeep.trans {a b c : World} (h : TyKeep a b) (k : TyKeep b c) : TyKeep a c := fun i cs t hi h1 h2 => by
  have h3 := h i cs t hi h1 h2
  exact (k i cs t (h3.trans hi) h1 h2).trans h3
theorem TyKeep.blk {w w' : World} (h : TyKeep w w') {k : Nat} {cs : Array Value} {t : TypeId} (hk : w.heap[k]? = some (.cells cs t (0, 0))) (h1 : t ≠ 43) (h2 : t ≠ 45) : w'.heap[k]? = some (.cells cs t (0, 0)) := (h k cs t hk h1 h2).trans hk
theorem TyKeep.own {w w' : World} (h : TyKeep w w') {base n : Nat} {v : Value} {xs : List Value} (ho : w.ownsRow base 3 1 v n xs) : w'.ownsRow base 3 1 v n xs :=
  own_move ho (fun k hk => by obtain ⟨cs, hc⟩ := own_typed ho k hk; exact h k cs 3 hc (by decide) (by decide))

/-- the outer row of a list of lists has been appended to -/
theorem RowsI.snoc {base : Nat} {W W1 : World} {v v1 x : Value} {vs : List Value} {xss : List (List Int)} {xs : List Int} (h : RowsI base W v vs xss) (hx : W.ownsRow base 3 1 x xs.length (nums .i64 xs)) (ho : W1.ownsRow base 45 1 v1 (vs.length + 1) (vs ++ [x])) (hm : ∀ (k : Nat) (cs : Array Value), W.heap[k]? = some (.cells cs 3 (0, 0)) → W1.heap[k]? = W.heap[k]?) : RowsI base W1 v1 (vs ++ [x]) (xss ++ [xs]) := by
  have mv : ∀ {n : Nat} {u : Value} {ys : List Value}, W.ownsRow base 3 1 u n ys → W1.ownsRow base 3 1 u n ys := fun ho => own_move ho (fun k hk => by obtain ⟨cs, hc⟩ := own_typed ho k hk; exact hm k cs hc)
  refine ⟨by rw [List.length_append]; exact ho, by rw [List.length_append, List.length_append, h.len]; rfl, fun i hi => ?_⟩
  rw [List.length_append, List.length_singleton] at hi
  by_cases he : i = xss.length
  · subst he
    have e1 : (vs ++ [x]).getD xss.length nilS = x := by rw [List.getD_eq_getElem?_getD, List.getElem?_append_right (by rw [h.len]; exact Nat.le_refl _), h.len]; simp
    have e2 : (xss ++ [xs]).getD xss.length [] = xs := by rw [List.getD_eq_getElem?_getD, List.getElem?_append_right (Nat.le_refl _)]; simp
    rw [e1, e2]
    exact mv hx
  · have hlt : i < xss.length := by omega
    have e1 : (vs ++ [x]).getD i nilS = vs.getD i nilS := by rw [List.getD_eq_getElem?_getD, List.getElem?_append_left (by rw [h.len]; exact hlt), List.getD_eq_getElem?_getD]
    have e2 : (xss ++ [xs]).getD i [] = xss.getD i [] := by rw [List.getD_eq_getElem?_getD, List.getElem?_append_left hlt, List.getD_eq_getElem?_getD]
    rw [e1, e2]
    exact mv (h.row i hlt)

theorem info45 : (Try.prog.info? 45).map (fun i => (i.zero, i.size, i.bytes)) = some (some (.slice none 0 0), 1, 24) := by kernel_rfl

theorem own_C {W : World} {base : Nat} {v : Value} {xs : List Int} (h : W.ownsRow base 3 1 v xs.length (nums .i64 xs)) : ∃ A c, v = .slice A xs.length c ∧ xs.length ≤ c ∧ Kd.C (Kd.int .i64) W A xs.length xs := by
  have hR : Kd.R (Kd.int .i64) 3 W base (fun _ => True) v xs := Kd.R_of_own h (fun _ _ => trivial)
  obtain ⟨A, c, hv⟩ := Kd.R_slice hR
  subst hv
  obtain ⟨_, h2, h3⟩ := Kd.R_reads' hR
  exact ⟨A, c, rfl, h2, h3⟩

theorem heap_set_ne {W : World} {b j k : Nat} {u : Value} (h : k ≠ b) : (W.setCell ⟨b, j, none⟩ u).heap[k]? = W.heap[k]? := Below.heap_setCell W ⟨b, j, none⟩ u k h

theorem ne_ty {W : World} {a b s t : Nat} {cs ds : Array Value} (h1 : W.heap[a]? = some (.cells cs s (0, 0))) (h2 : W.heap[b]? = some (.cells ds t (0, 0))) (hst : s ≠ t) : a ≠ b := by
  rintro rfl
  rw [h1] at h2
  injection h2 with h2
  injection h2 with _ h2
  exact hst h2

theorem grown_type {W W1 : World} {base e n t : Nat} {v : Value} {xs : List Value} (ho : W.ownsRow base e 1 v n xs) (hg : W.grownBy W1 v.ownBlock) {k : Nat} {cs : Array Value} (hk : W.heap[k]? = some (.cells cs t (0, 0))) (ht : e ≠ t) : W1.heap[k]? = W.heap[k]? :=
  hg.block k (blk_lt hk) (own_ne ho hk ht)

theorem KeepI.addL {base : Nat} {w w7 : World} {g : Nat} {vL vW v v9 : Value} {vs ws : List Value} {xss : List (List Int)} {l : List Int} (hK : KeepI base w g vL vW vs ws xss) (hv : w.ownsRow base 3 1 v l.length (nums .i64 l))
    (ho : w7.ownsRow base 45 1 v9 (vs.length + 1) (vs ++ [v])) (hg : w.grownBy w7 vL.ownBlock) (hat : v9.ownBlock = vL.ownBlock ∨ ∃ b, v9.ownBlock = some b ∧ w.heap.size ≤ b) :
    (w7.setCell ⟨g, 0, none⟩ v9).heap[g]? = some (.cells #[v9, vW] 43 (0, 0)) ∧ RowsI base (w7.setCell ⟨g, 0, none⟩ v9) v9 (vs ++ [v]) (xss ++ [l]) ∧ RowsI base (w7.setCell ⟨g, 0, none⟩ v9) vW ws xss ∧ TyKeep w (w7.setCell ⟨g, 0, none⟩ v9) ∧ NeRow v9 vW := by
  have hb7 : w7.heap[g]? = some (.cells #[vL, vW] 43 (0, 0)) := (grown_type hK.L.o hg hK.blk (by decide)).trans hK.blk
  have h3 : ∀ (k : Nat) (cs : Array Value), w.heap[k]? = some (.cells cs 3 (0, 0)) → (w7.setCell ⟨g, 0, none⟩ v9).heap[k]? = w.heap[k]? := fun k cs hk => (heap_set_ne (ne_ty hk hK.blk (by decide))).trans (grown_type hK.L.o hg hk (by decide))
  have ho8 : (w7.setCell ⟨g, 0, none⟩ v9).ownsRow base 45 1 v9 (vs.length + 1) (vs ++ [v]) := own_move ho (fun k hk => heap_set_ne (by
    obtain ⟨cs, hc⟩ := own_typed ho k hk
    exact ne_ty hc hb7 (by decide)))
  refine ⟨blk_set hb7 0 _, hK.L.snoc hv ho8 h3, ⟨own_move hK.Wa.o (fun k hk => ?_), hK.Wa.len, fun i hi => own_move (hK.Wa.row i hi) (fun k hk => ?_)⟩, fun k cs t hk h1 h2 => ?_, ne_append hK.neLW hat hK.Wa.o⟩
  · obtain ⟨cs, hc⟩ := own_typed hK.Wa.o k hk
    refine (heap_set_ne (ne_ty hc hK.blk (by decide))).trans (hg.block k (blk_lt hc) ?_)
    intro e
    exact hK.neLW k e.symm hk
  · obtain ⟨cs, hc⟩ := own_typed (hK.Wa.row i hi) k hk
    exact h3 k cs hc
  · exact (heap_set_ne (ne_ty hk hK.blk h1)).trans (grown_type hK.L.o hg hk (Ne.symm h2))

theorem KeepI.addW {base : Nat} {w w7 : World} {g : Nat} {vL vW wv v9 : Value} {vs ws : List Value} {xss : List (List Int)} {l : List Int} (hb : w.heap[g]? = some (.cells #[vL, vW] 43 (0, 0))) (hge : base ≤ g) (hL : RowsI base w vL vs (xss ++ [l])) (hW : RowsI base w vW ws xss) (hne : NeRow vL vW)
    (hd : ∀ i j, i < (xss ++ [l]).length → j < (xss ++ [l]).length → i ≠ j → NeRow (vs.getD i nilS) (vs.getD j nilS)) (hv : w.ownsRow base 3 1 wv l.length (nums .i64 l))
    (ho : w7.ownsRow base 45 1 v9 (ws.length + 1) (ws ++ [wv])) (hg : w.grownBy w7 vW.ownBlock) (hat : v9.ownBlock = vW.ownBlock ∨ ∃ b, v9.ownBlock = some b ∧ w.heap.size ≤ b) :
    KeepI base (w7.setCell ⟨g, 1, none⟩ v9) g vL v9 vs (ws ++ [wv]) (xss ++ [l]) ∧ TyKeep w (w7.setCell ⟨g, 1, none⟩ v9) := by
  have hb7 : w7.heap[g]? = some (.cells #[vL, vW] 43 (0, 0)) := (grown_type hW.o hg hb (by decide)).trans hb
  have h3 : ∀ (k : Nat) (cs : Array Value), w.heap[k]? = some (.cells cs 3 (0, 0)) → (w7.setCell ⟨g, 1, none⟩ v9).heap[k]? = w.heap[k]? := fun k cs hk => (heap_set_ne (ne_ty hk hb (by decide))).trans (grown_type hW.o hg hk (by decide))
  have ho8 : (w7.setCell ⟨g, 1, none⟩ v9).ownsRow base 45 1 v9 (ws.length + 1) (ws ++ [wv]) := own_move ho (fun k hk => heap_set_ne (by
    obtain ⟨cs, hc⟩ := own_typed ho k hk
    exact ne_ty hc hb7 (by decide)))
  refine ⟨⟨blk_set hb7 1 _, hge, ⟨own_move hL.o (fun k hk => ?_), hL.len, fun i hi => own_move (hL.row i hi) (fun k hk => ?_)⟩, hW.snoc hv ho8 h3, ne_symm (ne_append (ne_symm hne) hat hL.o), hd⟩, fun k cs t hk h1 h2 => ?_⟩
  · obtain ⟨cs, hc⟩ := own_typed hL.o k hk
    refine (heap_set_ne (ne_ty hc hb (by decide))).trans (hg.block k (blk_lt hc) ?_)
    intro e
    exact hne k hk e.symm
  · obtain ⟨cs, hc⟩ := own_typed (hL.row i hi) k hk
    exact h3 k cs hc
  · exact (heap_set_ne (ne_ty hk hb h1)).trans (grown_type hW.o hg hk (Ne.symm h2))

theorem ne_snoc {vs : List Value} {v : Value} {n : Nat} (hn : vs.length = n) (hd : ∀ i j, i < n → j < n → i ≠ j → NeRow (vs.getD i nilS) (vs.getD j nilS)) (hv : ∀ i, i < n → NeRow (vs.getD i nilS) v) :
    ∀ i j, i < n + 1 → j < n + 1 → i ≠ j → NeRow ((vs ++ [v]).getD i nilS) ((vs ++ [v]).getD j nilS) := by
  have e1 : (vs ++ [v]).getD n nilS = v := by rw [List.getD_eq_getElem?_getD, List.getElem?_append_right (by omega), hn]; simp
  have e2 : ∀ i, i < n → (vs ++ [v]).getD i nilS = vs.getD i nilS := fun i hi => by rw [List.getD_eq_getElem?_getD, List.getElem?_append_left (by omega), List.getD_eq_getElem?_getD]
  intro i j hi hj hij
  by_cases h1 : i = n
  · rw [h1, e1, e2 j (by omega)]
    exact ne_symm (hv j (by omega))
  · rw [e2 i (by omega)]
    by_cases h2 : j = n
    · rw [h2, e1]
      exact hv i (by omega)
    · rw [e2 j (by omega)]
      exact hd i j (by omega) (by omega) hij

def F46RT3 : Bool × List (List Nat × List Nat) := (true, [([], []), ([], []), ([1], [1]), ([2], [2]), ([3], [3]), ([], []), ([5], [5]), ([6], [6]), ([4, 7, 6], [4, 7]), ([0, 0, 1, 2, 3, 4, 5, 6, 7, 8], [0]), ([9, 0, 1, 2, 3, 4, 5, 6, 7, 8], [9]), ([10, 8, 8, 0, 1, 2, 3, 4, 5, 6, 7, 8], [8, 10])])
def F46RB3 : List Nat := [0, 0, 2, 6, 14, 0, 32, 96, 254, 511, 1023, 2047]
theorem F46Rtab3 : rtab .any (opsOf Try.f46 3) = F46RT3 := by kernel_rfl
theorem F46Rbits3 : waitsOk F46RT3.2 F46RB3 = true := by kernel_rfl
set_option maxHeartbeats 1000000 in
set_option maxRecDepth 100000 in
theorem Add_calls (base : Nat) (w0 w : World) (g : Nat) (vL vW : Value) (vs ws : List Value) (xss : List (List Int)) (v : Value) (l : List Int) (A : Option Addr) (c : Nat)
    (hK : KeepI base w g vL vW vs ws xss) (hn : vs.length < 300) (hv : w.ownsRow base 3 1 v l.length (nums .i64 l)) (hne : ∀ i, i < xss.length → NeRow (vs.getD i nilS) v)
    (hC : w.ownsRow base 3 1 (.slice A l.length c) l.length (nums .i64 l)) (hl : l.length ≤ 100000) (hB : Below base w0 w) (hbs : base ≤ w.heap.size) :
    Calls Try.prog 46 #[.pointer (some ⟨g, 0, none⟩), v, .slice A l.length c] w fun e w' => e = .returned (.bool true) ∧ (∃ vL' vW' wv, KeepI base w' g vL' vW' (vs ++ [v]) (ws ++ [wv]) (xss ++ [l])) ∧ TyKeep w w' ∧ Below base w0 w' := by
  obtain ⟨AL, cL, hvL⟩ := own_slice hK.L.o
  obtain ⟨AW, cW, hvW⟩ := own_slice hK.Wa.o
  subst hvL hvW
  obtain ⟨Av, cv, hvv, hcv, hCv⟩ := own_C hv
  subst hvv
  have d1 : decide ((vs.length : Int) < 300) = true := decide_eq_true (by omega)
  have HN := Aside0.mk hn
  have HK := Aside0.mk hK
  have HV := Aside0.mk hv
  have HNE := Aside0.mk hne
  have HC := Aside0.mk (And.intro hC hl)
  have HCV := Aside0.mk (And.intro hCv hcv)
  have HND := Aside0.mk (show ∀ i j, i < (xss ++ [l]).length → j < (xss ++ [l]).length → i ≠ j → NeRow ((vs ++ [Value.slice Av l.length cv]).getD i nilS) ((vs ++ [Value.slice Av l.length cv]).getD j nilS) by rw [List.length_append]; exact ne_snoc hK.L.len hK.ne hne)
  have HB := Aside0.mk hB
  have HBS := Aside0.mk hbs
  have c0 := blk_cell hK.blk 0
  have c1 := blk_cell hK.blk 1
  have f0 := blk_frozen hK.blk 0
  have f1 := blk_frozen hK.blk 1
  simp only [List.getElem?_toArray, List.getElem?_cons_zero, List.getElem?_cons_succ] at c0 c1
  clear hn hK hv hne hC hl hB hbs hCv hcv
  go_enter Try.func46, Try.ntmps46
  go_wp2_with ((with_reducible refine gate_builtin (b := .append) (xs := #[.tmp 17, .tmp 19]) rfl ?_); at_builtin; refine print_append_cells (w0 := w0) base rfl (.tmp 17) (.tmp 19) 41 45 (.slice none 0 0) 1 24 rfl Try.underlying41 info45 rfl (by decide) (by decide) (.slice AL vs.length cL) vs.length vs [.slice Av l.length cv] rfl rfl rfl ?a1 ?aO ?aB ?aS ?aL ?_; (case a1 => exact fun u hu => by rw [List.mem_singleton.1 hu]; rfl); (case aO => exact HK.out.L.o); (case aB => exact HB.out); (case aS => exact HBS.out); (case aL => have := HN.out; omega); intro v9 w7 ho hb hg hat; obtain ⟨A9, c9, hv9⟩ := own_slice ho; subst hv9; have HO7 := Aside0.mk (HK.out.addL HV.out ho hg hat); have HB7 := Aside0.mk hb; have hb7 : w7.heap[g]? = some (.cells #[.slice AL vs.length cL, .slice AW ws.length cW] 43 (0, 0)) := (grown_type HK.out.L.o hg HK.out.blk (by decide)).trans HK.out.blk; have e0 := blk_cell hb7 0; have q0 := blk_frozen hb7 0; simp only [List.getElem?_toArray, List.getElem?_cons_zero] at e0; clear ho hb hg hat hb7 c0 c1 f0 f1)
  obtain ⟨w8, hw8⟩ : ∃ w8, w8 = w7.setCell ⟨g, 0, none⟩ (.slice A9 (vs.length + 1) c9) := ⟨_, rfl⟩
  rw [← hw8] at HO7 ⊢
  have HB8 := Aside0.mk (show Below base w0 w8 by rw [hw8]; exact HB7.out.setCell HK.out.ge _)
  have HBS8 := Aside0.mk (show base ≤ w8.heap.size by have := blk_lt HO7.out.1; have := HK.out.ge; omega)
  clear hw8 e0 q0 HB7
  have c1 := blk_cell HO7.out.1 1
  have f1 := blk_frozen HO7.out.1 1
  simp only [List.getElem?_toArray, List.getElem?_cons_zero, List.getElem?_cons_succ] at c1
  have HCW := Aside0.mk (show Kd.C (Kd.int .i64) w8 A l.length l from (by obtain ⟨A', c', h1, _, h2⟩ := own_C (HO7.out.2.2.2.1.own HC.out.1); injection h1 with h1; subst h1; exact h2))
  refine start_ (n := 12) (S := fun w' => w'.cell? ⟨g, 1, none⟩ = some (.slice AW ws.length cW)) (ds := [11]) #[false, false, false, false, false, false, false, false, false, false, false, false] (by kernel_rfl) rfl rfl (c1) (fun hHeld => ?_)
  refine with_tabW F46Rtab3 F46Rbits3 (fun HT_ HW_ => ?_)
  refine pure_ (i := 0) (N := some 23) (v := ?_) (a' := ?_) #[true, false, false, false, false, false, false, false, false, false, false, false] rfl rfl (any_of HT_.out (by kernel_rfl)) (fun _ _ _ h => h) (Or.inl ⟨by rfl, ?_⟩) ?_ ?_
  rotate_left
  · intro w'
    go_simp
    with_reducible rfl
  rotate_left
  · simp only [Act.put, List.setIfInBounds_toArray, List.set_cons_zero, List.set_cons_succ, i64_w, i32_w]
    rfl
  refine pure_ (i := 1) (N := some 24) (v := ?_) (a' := ?_) #[true, true, false, false, false, false, false, false, false, false, false, false] rfl rfl (any_of HT_.out (by kernel_rfl)) (fun _ _ _ h => h) (Or.inl ⟨by rfl, ?_⟩) ?_ ?_
  rotate_left
  · intro w'
    go_simp
    with_reducible rfl
  rotate_left
  · simp only [Act.put, List.setIfInBounds_toArray, List.set_cons_zero, List.set_cons_succ, i64_w, i32_w]
    rfl
  refine pure_ (i := 2) (N := some 25) (v := ?_) (a' := ?_) #[true, true, true, false, false, false, false, false, false, false, false, false] rfl rfl (any_of HT_.out (by kernel_rfl)) (fun _ _ _ h => h) (Or.inl ⟨by rfl, ?_⟩) ?_ ?_
  rotate_left
  · intro w'
    go_simp
    with_reducible rfl
  rotate_left
  · simp only [Act.put, List.setIfInBounds_toArray, List.set_cons_zero, List.set_cons_succ, i64_w, i32_w]
    rfl
  refine pure_ (i := 3) (N := some 26) (v := ?_) (a' := ?_) #[true, true, true, true, false, false, false, false, false, false, false, false] rfl rfl (any_of HT_.out (by kernel_rfl)) (fun _ _ _ h => h) (Or.inl ⟨by rfl, ?_⟩) ?_ ?_
  rotate_left
  · intro w'
    go_simp
    with_reducible rfl
  rotate_left
  · simp only [Act.put, List.setIfInBounds_toArray, List.set_cons_zero, List.set_cons_succ, i64_w, i32_w]
    rfl
  refine pure_ (i := 5) (N := some 28) (v := ?_) (a' := ?_) #[true, true, true, true, false, true, false, false, false, false, false, false] rfl rfl (any_of HT_.out (by kernel_rfl)) (fun _ _ _ h => h) (Or.inl ⟨by rfl, ?_⟩) ?_ ?_
  rotate_left
  · intro w'
    go_simp
    with_reducible rfl
  rotate_left
  · simp only [Act.put, List.setIfInBounds_toArray, List.set_cons_zero, List.set_cons_succ, i64_w, i32_w]
    rfl
  refine take_ (i := 4) (N := some 27) (v := ?_) (a' := ?_) #[true, true, true, true, true, true, false, false, false, false, false, false] rfl rfl (take_ofW HT_.out HW_.out (by kernel_rfl)) (fun _ _ _ h => h) (Or.inl ⟨by rfl, ?_⟩) hHeld ?_ ?_
  rotate_left
  · intro w' s0
    go_simp
    with_reducible rfl
  rotate_left
  · simp only [Act.put, List.setIfInBounds_toArray, List.set_cons_zero, List.set_cons_succ, i64_w, i32_w]
    rfl
  refine one_ (i := 6) (N := some 29) #[true, true, true, true, true, true, true, false, false, false, false, false] rfl rfl (one_of HT_.out (by kernel_rfl)) (by decide) (fun K hK => ?_)
  refine Kd.R_append_rows_step (Kd.int .i64) (Rr := (Kd.int .i64).K w8) (w0 := w0) base (by rfl) (.const (.slice none 0 0)) (.tmp 28) 45 3 (.int .i64 0) 8 rfl Try.underlying45 info3 rfl (by decide) (by omega) (.slice none 0 0) [] l A l.length c (fun _ => True) (fun _ => False) rfl rfl ?aO ?aR ?aK (fun _ hk => hk.elim) (fun _ _ => trivial) ?aB ?aS ?aL ?_
  (case aO => exact Kd.R_nil _ _ _ _ _)
  (case aR => exact Kd.C_drew HCW.out)
  (case aK => exact fun x cs h => h)
  (case aB => exact Below.drew HB8.out)
  (case aS => exact HBS8.out)
  (case aL => have := HC.out.2; simp; omega)
  intro v5 w5 ho hb hg hat
  obtain ⟨A5, c5, hv5⟩ := Kd.R_slice ho
  subst hv5
  have HW5 := Aside0.mk (Kd.own_of_R ho)
  have HB5 := Aside0.mk hb
  have hdr : ∀ k, k < w8.heap.size → w5.heap[k]? = w8.heap[k]? := fun k hk => hg.block k hk (by intro h; cases h)
  have HD5 := Aside0.mk hdr
  have HS5 := Aside0.mk (show w8.heap.size ≤ w5.heap.size from hg.size)
  have hb5 : w5.heap[g]? = some (.cells #[.slice A9 (vs.length + 1) c9, .slice AW ws.length cW] 43 (0, 0)) := (hdr g (blk_lt HO7.out.1)).trans HO7.out.1
  have H5 := Aside0.mk hb5
  have q1 := blk_cell hb5 1
  simp only [List.getElem?_toArray, List.getElem?_cons_zero, List.getElem?_cons_succ] at q1
  refine hK.out _ _ (q1) (fun hHeld => ?_)
  clear hK K
  refine norm_ (a' := ?_) ?_ ?_
  rotate_left
  · show Act.put _ (some 29) _ = _
    simp only [Act.put, List.setIfInBounds_toArray, List.set_cons_zero, List.set_cons_succ, i64_w, i32_w]
    rfl
  refine one_ (i := 7) (N := some 30) #[true, true, true, true, true, true, true, true, false, false, false, false] rfl rfl (one_of HT_.out (by kernel_rfl)) (by decide) (fun K hK => ?_)
  refine value_ (w1 := ?_) (v := ?_) (by rfl) rfl ?_ ?_
  rotate_left 2
  · go_simp
    constructor
    · rfl
    · rfl
  refine hK.out _ _ ((blk_cell (blk_alloc H5.out _) 1).trans rfl) (fun hHeld => ?_)
  clear hK K
  refine norm_ (a' := ?_) ?_ ?_
  rotate_left
  · show Act.put _ (some 30) _ = _
    simp only [Act.put, List.setIfInBounds_toArray, List.set_cons_zero, List.set_cons_succ, i64_w, i32_w]
    rfl
  refine one_ (i := 8) (N := some 31) #[true, true, true, true, true, true, true, true, true, false, false, false] rfl rfl (one_of HT_.out (by kernel_rfl)) (by decide) (fun K hK => ?_)
  refine step_append_cells (w0 := w0) base (by rfl) (.tmp 27) (.tmp 30) 41 45 (.slice none 0 0) 1 24 rfl Try.underlying41 info45 rfl (by decide) (by decide) (.slice AW ws.length cW) ws.length ws [.slice A5 l.length c5] rfl rfl rfl ?a1 ?aO ?aB ?aS ?aL ?_
  (case a1 => exact fun u hu => by rw [List.mem_singleton.1 hu]; rfl)
  (case aO => exact (HO7.out.2.2.1.same (W1 := w5) HD5.out).o)
  (case aB => exact HB5.out)
  (case aS => exact Nat.le_trans HBS8.out HS5.out)
  (case aL => have := HN.out; have := HK.out.L.len; have := HK.out.Wa.len; omega)
  intro v9 w9 ho hb hg hat
  have HB9 := Aside0.mk hb
  obtain ⟨A9', c9', hv9⟩ := own_slice ho
  subst hv9
  have HF := Aside0.mk (KeepI.addW H5.out HK.out.ge (HO7.out.2.1.same (W1 := w5) HD5.out) (HO7.out.2.2.1.same (W1 := w5) HD5.out) HO7.out.2.2.2.2 HND.out HW5.out ho hg hat)
  have hb9 : w9.heap[g]? = some (.cells #[.slice A9 (vs.length + 1) c9, .slice AW ws.length cW] 43 (0, 0)) := (grown_type (HO7.out.2.2.1.same (W1 := w5) HD5.out).o hg H5.out (by decide)).trans H5.out
  have r1 := blk_cell hb9 1
  have rf := blk_frozen hb9 1
  simp only [List.getElem?_toArray, List.getElem?_cons_zero, List.getElem?_cons_succ] at r1
  refine hK.out _ _ (r1) (fun hHeld => ?_)
  clear hK K
  refine norm_ (a' := ?_) ?_ ?_
  rotate_left
  · show Act.put _ (some 31) _ = _
    simp only [Act.put, List.setIfInBounds_toArray, List.set_cons_zero, List.set_cons_succ, i64_w, i32_w]
    rfl
  refine pure_ (i := 9) (N := some 32) (v := ?_) (a' := ?_) #[true, true, true, true, true, true, true, true, true, true, false, false] rfl rfl (any_of HT_.out (by kernel_rfl)) (fun _ _ _ h => h) (Or.inl ⟨by rfl, ?_⟩) ?_ ?_
  rotate_left
  · intro w'
    go_simp
    with_reducible rfl
  rotate_left
  · simp only [Act.put, List.setIfInBounds_toArray, List.set_cons_zero, List.set_cons_succ, i64_w, i32_w]
    rfl
  refine pure_ (i := 10) (N := some 33) (v := ?_) (a' := ?_) #[true, true, true, true, true, true, true, true, true, true, true, false] rfl rfl (any_of HT_.out (by kernel_rfl)) (fun _ _ _ h => h) (Or.inl ⟨by rfl, ?_⟩) ?_ ?_
  rotate_left
  · intro w'
    go_simp
    with_reducible rfl
  rotate_left
  · simp only [Act.put, List.setIfInBounds_toArray, List.set_cons_zero, List.set_cons_succ, i64_w, i32_w]
    rfl
  refine last_ (i := 11) (N := none) #[true, true, true, true, true, true, true, true, true, true, true, true] rfl rfl (one_of HT_.out (by kernel_rfl)) (by decide) (fun K hK => ?_)
  refine skip_ (w1 := ?_) (by rfl) rfl ?_ ?_
  rotate_left
  · go_simp
    rfl
  refine hK.out _ _ ?_
  clear hK K
  refine done_ (done_of HT_.out (by kernel_rfl)) ?_
  obtain ⟨w12, hw12⟩ : ∃ w12, w12 = w9.setCell ⟨g, 1, none⟩ (.slice A9' (ws.length + 1) c9') := ⟨_, rfl⟩
  rw [← hw12] at HF ⊢
  have HB12 := Aside0.mk (show Below base w0 w12 by rw [hw12]; exact HB9.out.setCell HK.out.ge _)
  have HTK := Aside0.mk (HO7.out.2.2.2.1.trans (TyKeep.trans (fun k cs t hk _ _ => HD5.out k (blk_lt hk)) HF.out.2))
  obtain ⟨A', c', h1, hle1, hC1⟩ := own_C (HTK.out.own HV.out)
  injection h1 with h1 _ h1c
  subst h1 h1c
  obtain ⟨A', c', h1, hle2, hC2⟩ := own_C (HTK.out.own HC.out.1)
  injection h1 with h1 _ h1c
  subst h1 h1c
  have HS := Aside0.mk (pupillaw2_Same.calls (l.length + 1) Av cv l A c l true w12 hC1 hle1 hC2 hle2 (same_self l (by have := HC.out.2; omega)))
  clear hw12 hle1 hle2 hC1 hC2 c1 f1 r1 rf
  go_wp2_with fail
  refine HS.out.mono ?_
  rintro e w13 ⟨rfl, hd⟩
  go_wp2
  go_ret
  exact ⟨rfl, ⟨_, _, _, HF.out.1.below hd.below⟩, HTK.out.trans (TyKeep.of_below hd.below), HB12.out.trans (hd.below.mono (by have := blk_lt HF.out.1.blk; have := HK.out.ge; omega))⟩

end Go.Proofs.Ytpobladocccnmaa

/- The walk of pupillaw2.Keep's Apart: true, whatever is kept. -/
namespace Go.Proofs.Ytpobladocccnmaa
open Go.RowKit PBase
open Go.Proofs.YtpobladocccnmaaW.PrintWords Go.Proofs.YtpobladocccnmaaW.PrintLast Go.Proofs.YtpobladocccnmaaW.PrintMore
set_option linter.unusedVariables false
set_option linter.unusedSimpArgs false

/-- a Keep whose lists are written over -/
structure KeepA (base : Nat) (W : World) (g : Nat) (vL vW : Value) (vs : List Value) (yss : List (List Int)) : Prop where
  blk : W.heap[g]? = some (.cells #[vL, vW] 43 (0, 0))
  ge : base ≤ g
  L : RowsI base W vL vs yss
  ne : ∀ i j, i < yss.length → j < yss.length → i ≠ j → NeRow (vs.getD i nilS) (vs.getD j nilS)

theorem KeepI.toA {base : Nat} {W : World} {g : Nat} {vL vW : Value} {vs ws : List Value} {xss : List (List Int)} (h : KeepI base W g vL vW vs ws xss) : KeepA base W g vL vW vs xss := ⟨h.blk, h.ge, h.L, h.ne⟩

theorem getD_setL {l : List (List Int)} {i j : Nat} {x : List Int} (hi : i < l.length) : (l.set i x).getD j [] = if j = i then x else l.getD j [] := by
  rw [List.getD_eq_getElem?_getD, List.getElem?_set]
  by_cases h : i = j
  · subst h
    simp [hi]
  · rw [if_neg h, if_neg (fun e => h e.symm), List.getD_eq_getElem?_getD]

theorem KeepA.upd {base : Nat} {W W2 : World} {g : Nat} {vL vW : Value} {vs : List Value} {yss : List (List Int)} (h : KeepA base W g vL vW vs yss) {i : Nat} (hi : i < yss.length) {y : List Int}
    (hg : W.grownBy W2 (vs.getD i nilS).ownBlock) (ho : W2.ownsRow base 3 1 (vs.getD i nilS) y.length (nums .i64 y)) : KeepA base W2 g vL vW vs (yss.set i y) := by
  have hr := h.L.row i hi
  refine ⟨(grown_type hr hg h.blk (by decide)).trans h.blk, h.ge, ⟨own_move h.L.o (fun k hk => ?_), by rw [List.length_set]; exact h.L.len, fun j hj => ?_⟩, by rw [List.length_set]; exact h.ne⟩
  · obtain ⟨cs, hc⟩ := own_typed h.L.o k hk
    exact grown_type hr hg hc (by decide)
  · rw [List.length_set] at hj
    rw [getD_setL hi]
    by_cases e : j = i
    · rw [if_pos e, e]
      exact ho
    · rw [if_neg e]
      exact own_same (h.L.row j hj) (fun k hk hlt => hg.block k hlt (fun e2 => h.ne i j hi hj (fun e3 => e e3.symm) k e2.symm hk))

theorem KeepA.same {base : Nat} {W W1 : World} {g : Nat} {vL vW : Value} {vs : List Value} {yss : List (List Int)} (h : KeepA base W g vL vW vs yss) (hm : ∀ k, k < W.heap.size → W1.heap[k]? = W.heap[k]?) : KeepA base W1 g vL vW vs yss :=
  ⟨(hm g (blk_lt h.blk)).trans h.blk, h.ge, h.L.same hm, h.ne⟩

theorem set_self {yss : List (List Int)} {i : Nat} (hi : i < yss.length) : yss.set i (yss.getD i []) = yss := by
  rw [List.getD_eq_getElem?_getD, List.getElem?_eq_getElem hi]
  exact List.set_getElem_self hi

theorem KeepA.stay {base : Nat} {W W2 : World} {g : Nat} {vL vW : Value} {vs : List Value} {yss : List (List Int)} (h : KeepA base W g vL vW vs yss) {i : Nat} (hi : i < yss.length)
    (hg : W.grownBy W2 (vs.getD i nilS).ownBlock) (ho : W2.ownsRow base 3 1 (vs.getD i nilS) (yss.getD i []).length (nums .i64 (yss.getD i []))) : KeepA base W2 g vL vW vs yss := by
  have := h.upd hi hg ho
  rwa [set_self hi] at this

/-- what a list is marked with -/
def mkL (xss : List (List Int)) (i : Nat) : List Int := List.replicate (xss.getD i []).length (-2 - (i : Int))

/-- an element of a row -/
theorem own_cell {W : World} {base n : Nat} {v : Value} {xs : List Value} {e : Nat} (h : W.ownsRow base e 1 v n xs) {i : Nat} (hi : i < n) : ∃ b c, v = .slice (some ⟨b, 0, none⟩) n c ∧ W.cell? ⟨b, i, none⟩ = some (xs.getD i undef) ∧ W.frozen? ⟨b, i, none⟩ = false := by
  rcases h.2 with ⟨_, h0⟩ | ⟨b, c, cur, hv, _, hh, h3, _, h5, h6⟩
  · omega
  · refine ⟨b, c, hv, ?_, blk_frozen hh i⟩
    rw [blk_cell hh i]
    have hx : xs[i]? = cur.toList[i]? := by rw [← h6, List.getElem?_take_of_lt (by omega)]
    have hlt : i < cur.size := by omega
    rw [List.getD_eq_getElem?_getD, hx]
    simp [hlt]

theorem own_ints {W : World} {base b c : Nat} {xs : List Int} (h : W.ownsRow base 3 1 (.slice (some ⟨b, 0, none⟩) xs.length c) xs.length (nums .i64 xs)) (i : Nat) (x : Int) :
    (W.setCell ⟨b, i, none⟩ (.int .i64 x)).ownsRow base 3 1 (.slice (some ⟨b, 0, none⟩) xs.length c) (xs.set i x).length (nums .i64 (xs.set i x)) ∧ W.grownBy (W.setCell ⟨b, i, none⟩ (.int .i64 x)) (some b) := by
  obtain ⟨h1, h2⟩ := own_store h (i : Int) x
  simp only [Int.toNat_natCast] at h1 h2
  rw [List.length_set]
  exact ⟨h1, h2⟩

theorem nums_getD {xs : List Int} {j : Nat} (h : j < xs.length) : (nums .i64 xs).getD j undef = .int .i64 (xs.getD j 0) := by
  simp [nums, List.getD_eq_getElem?_getD, h]

/-- a state of the walk: what is kept, how far it is marked -/
structure Lens (xss yss : List (List Int)) : Prop where
  n : yss.length = xss.length
  len : ∀ i, i < xss.length → (yss.getD i []).length = (xss.getD i []).length

theorem Lens.set {xss yss : List (List Int)} (h : Lens xss yss) {i : Nat} (hi : i < xss.length) {y : List Int} (hy : y.length = (xss.getD i []).length) : Lens xss (yss.set i y) :=
  ⟨by rw [List.length_set]; exact h.n, fun j hj => by
    rw [getD_setL (by rw [h.n]; exact hi)]
    by_cases e : j = i
    · rw [if_pos e, hy, e]
    · rw [if_neg e]; exact h.len j hj⟩

theorem grow_zeros2 {P : Program} {ops : Array Oper} {rest : List Oper} {o : Oper} {a : Act} {Q : Exit → Act → World → Prop} {W : World} (base : Nat) (hgd : o.guard = none) (s x : Operand) (t ti e : TypeId) (kz : IntKind) (bytes : Nat)
    (ho : o.op = .call { callee := .builtin .append, args := #[s, x], argTypes := #[t, ti] })
    (ht : P.underlying t = some (.slice e)) {k : IntKind} (hti : P.underlying ti = some (.int k)) (hinfo : (P.info? e).map (fun i => (i.zero, i.size, i.bytes)) = some (some (.int kz 0), 1, bytes)) (hb0 : 0 < bytes)
    (v : Value) (n : Nat) (xs : List Value) (m : Nat) (hm0 : 0 < m) (hown : W.ownsRow base e 1 v n xs) (hs : a.eval s = v) (hx : a.eval x = .int .i64 m)
    (hbytes : (n + m) * bytes ≤ 140737488355328) (hbase : base ≤ W.heap.size)
    (h : ∀ b1 c1 w1 y k, k + 1 = n + m → w1.cell? ⟨b1, k, none⟩ = some y → w1.frozen? ⟨b1, k, none⟩ = false → (∀ u, (w1.setCell ⟨b1, k, none⟩ u).ownsRow base e 1 v n xs ∧ W.grownBy (w1.setCell ⟨b1, k, none⟩ u) v.ownBlock) → wpList P ops Q rest (a.put o.dst (.slice (some ⟨b1, 0, none⟩) (k + 1) c1)) w1) : wpList P ops Q (o :: rest) a W := by
  refine grow_zeros base hgd s x t ti e kz bytes ho ht hti hinfo hb0 v n xs m hm0 hown hs hx hbytes hbase ?_
  intro b1 c1 w1 y h1 h2 h3
  obtain ⟨k, hk⟩ : ∃ k, n + m = k + 1 := ⟨n + m - 1, by omega⟩
  rw [hk, Nat.add_sub_cancel] at h1 h2 h3
  rw [hk]
  exact h b1 c1 w1 y k hk.symm h1 h2 h3

def F24RT4 : Bool × List (List Nat × List Nat) := (true, [([], []), ([0], [0]), ([1], [1]), ([2], [2]), ([], []), ([3, 4], [3, 4]), ([5], [5]), ([], []), ([7], [7]), ([8], [8]), ([9], [9]), ([], []), ([10, 11], [10, 11]), ([12], [12]), ([6, 13], [6, 13]), ([14], [14])])
def F24RB4 : List Nat := [0, 1, 3, 7, 0, 31, 63, 0, 128, 384, 896, 0, 3968, 8064, 16383, 32767]
theorem F24Rtab4 : rtab .any (opsOf Try.f24 4) = F24RT4 := by kernel_rfl
theorem F24Rbits4 : waitsOk F24RT4.2 F24RB4 = true := by kernel_rfl
set_option maxHeartbeats 1000000 in
set_option maxRecDepth 100000 in
theorem Apart_calls (base : Nat) (w0 w : World) (g : Nat) (vL vW : Value) (vs ws : List Value) (xss : List (List Int)) (hK : KeepI base w g vL vW vs ws xss) (hn : xss.length ≤ 300) (hl : ∀ i, i < xss.length → (xss.getD i []).length ≤ 100000) (hB : Below base w0 w) (hbs : base ≤ w.heap.size) :
    Calls Try.prog 24 #[.pointer (some ⟨g, 0, none⟩)] w fun e w' => e = .returned (.bool true) ∧ Below base w0 w' := by
  obtain ⟨AL, cL, hvL⟩ := own_slice hK.L.o
  obtain ⟨AW, cW, hvW⟩ := own_slice hK.Wa.o
  subst hvL hvW
  obtain ⟨N, hN⟩ : ∃ N, N = xss.length := ⟨_, rfl⟩
  have hvs : vs.length = N := by rw [hK.L.len, hN]
  have hws : ws.length = N := by rw [hK.Wa.len, hN]
  rw [hvs, hws] at hK
  have HK := Aside0.mk hK
  have HN := Aside0.mk hN
  have HV := Aside0.mk (And.intro hvs hws)
  have HL := Aside0.mk hl
  have HB := Aside0.mk hB
  have HBS := Aside0.mk hbs
  rw [← hN] at hn
  clear hK hN hvs hws hl hB hbs
  go_enter Try.func24, Try.ntmps24
  go_wp2
  go_loopg [3] N (fun kq v3 w' => ∃ i : Nat, v3 = .int .i64 i ∧ Aside0 (i + kq = N) ∧ Aside0 (KeepI base w' g (.slice AL N cL) (.slice AW N cW) vs ws xss) ∧ Aside0 (Below base w0 w') ∧ Aside0 (base ≤ w'.heap.size))
  case atStart => exact ⟨0, rfl, ⟨by omega⟩, HK, HB, HBS⟩
  case round =>
    clear HK HB HBS
    obtain ⟨i, rfl, HI, HK, HB, HBS⟩ := hrel
    have c0 := blk_cell HK.out.blk 0
    have c1 := blk_cell HK.out.blk 1
    simp only [List.getElem?_toArray, List.getElem?_cons_zero, List.getElem?_cons_succ] at c0 c1
    by_cases hlt : i < N
    · as_aux_lemma =>
        have d1 : decide (i < N) = true := decide_eq_true hlt
        obtain ⟨bL, cL', hvL, e0, _⟩ := own_cell HK.out.L.o (i := i) (by rw [HV.out.1]; exact hlt)
        obtain ⟨bW, cW', hvW, e1, _⟩ := own_cell HK.out.Wa.o (i := i) (by rw [HV.out.2]; exact hlt)
        have hAL : AL = some ⟨bL, 0, none⟩ := by injection hvL
        have hAW : AW = some ⟨bW, 0, none⟩ := by injection hvW
        subst hAL hAW
        have hg1 : vs.getD i undef = vs.getD i nilS := by rw [List.getD_eq_getElem?_getD, List.getD_eq_getElem?_getD, List.getElem?_eq_getElem (by rw [HV.out.1]; exact hlt)]; rfl
        have hg2 : ws.getD i undef = ws.getD i nilS := by rw [List.getD_eq_getElem?_getD, List.getD_eq_getElem?_getD, List.getElem?_eq_getElem (by rw [HV.out.2]; exact hlt)]; rfl
        obtain ⟨A1, k1, h1, hle1, hC1⟩ := own_C (HK.out.L.row i (by rw [← HN.out]; exact hlt))
        obtain ⟨A2, k2, h2, hle2, hC2⟩ := own_C (HK.out.Wa.row i (by rw [← HN.out]; exact hlt))
        rw [hg1, h1] at e0
        rw [hg2, h2] at e1
        have hl := HL.out i (by rw [← HN.out]; exact hlt)
        have HS := Aside0.mk (fun (W : World) (a : Kd.C (Kd.int .i64) W A1 (xss.getD i []).length (xss.getD i [])) (b : Kd.C (Kd.int .i64) W A2 (xss.getD i []).length (xss.getD i [])) => pupillaw2_Same.calls ((xss.getD i []).length + 1) A1 k1 (xss.getD i []) A2 k2 (xss.getD i []) true W a hle1 b hle2 (same_self (xss.getD i []) (by omega)))
        have HC := Aside0.mk (And.intro hC1 hC2)
        generalize xss.getD i [] = xs at e0 e1 HS HC
        clear hvL hvW hg1 hg2 h1 h2 hle1 hle2 hC1 hC2 hl
        go_wp2
        refine start_ (n := 16) (S := fun w' => w'.cell? ⟨g, 0, none⟩ = some (.slice (some ⟨bL, 0, none⟩) N cL) ∧ w'.cell? ⟨g, 1, none⟩ = some (.slice (some ⟨bW, 0, none⟩) N cW) ∧ w'.cell? ⟨bL, i, none⟩ = some (.slice A1 xs.length k1) ∧ w'.cell? ⟨bW, i, none⟩ = some (.slice A2 xs.length k2)) (ds := []) #[false, false, false, false, false, false, false, false, false, false, false, false, false, false, false, false] (by kernel_rfl) rfl rfl ⟨c0, c1, e0, e1⟩ (fun hHeld => ?_)
        refine with_tabW F24Rtab4 F24Rbits4 (fun HT_ HW_ => ?_)
        refine pure_ (i := 0) (N := some 18) (v := ?_) (a' := ?_) #[true, false, false, false, false, false, false, false, false, false, false, false, false, false, false, false] rfl rfl (any_of HT_.out (by kernel_rfl)) (fun _ _ _ h => h) (Or.inl ⟨by rfl, ?_⟩) ?_ ?_
        rotate_left
        · intro w'
          go_simp
          with_reducible rfl
        rotate_left
        · simp only [Act.put, List.setIfInBounds_toArray, List.set_cons_zero, List.set_cons_succ, i64_w, i32_w]
          rfl
        refine pure_ (i := 1) (N := some 19) (v := ?_) (a' := ?_) #[true, true, false, false, false, false, false, false, false, false, false, false, false, false, false, false] rfl rfl (any_of HT_.out (by kernel_rfl)) (fun _ _ _ h => h) (Or.inl ⟨by rfl, ?_⟩) ?_ ?_
        rotate_left
        · intro w'
          go_simp
          with_reducible rfl
        rotate_left
        · simp only [Act.put, List.setIfInBounds_toArray, List.set_cons_zero, List.set_cons_succ, i64_w, i32_w]
          rfl
        refine pure_ (i := 2) (N := some 20) (v := ?_) (a' := ?_) #[true, true, true, false, false, false, false, false, false, false, false, false, false, false, false, false] rfl rfl (any_of HT_.out (by kernel_rfl)) (fun _ _ _ h => h) (Or.inl ⟨by rfl, ?_⟩) ?_ ?_
        rotate_left
        · intro w'
          go_simp
          with_reducible rfl
        rotate_left
        · simp only [Act.put, List.setIfInBounds_toArray, List.set_cons_zero, List.set_cons_succ, i64_w, i32_w]
          rfl
        refine pure_ (i := 4) (N := some 22) (v := ?_) (a' := ?_) #[true, true, true, false, true, false, false, false, false, false, false, false, false, false, false, false] rfl rfl (any_of HT_.out (by kernel_rfl)) (fun _ _ _ h => h) (Or.inl ⟨by rfl, ?_⟩) ?_ ?_
        rotate_left
        · intro w'
          go_simp
          with_reducible rfl
        rotate_left
        · simp only [Act.put, List.setIfInBounds_toArray, List.set_cons_zero, List.set_cons_succ, i64_w, i32_w]
          rfl
        refine pure_ (i := 7) (N := some 25) (v := ?_) (a' := ?_) #[true, true, true, false, true, false, false, true, false, false, false, false, false, false, false, false] rfl rfl (any_of HT_.out (by kernel_rfl)) (fun _ _ _ h => h) (Or.inl ⟨by rfl, ?_⟩) ?_ ?_
        rotate_left
        · intro w'
          go_simp
          with_reducible rfl
        rotate_left
        · simp only [Act.put, List.setIfInBounds_toArray, List.set_cons_zero, List.set_cons_succ, i64_w, i32_w]
          rfl
        refine pure_ (i := 8) (N := some 26) (v := ?_) (a' := ?_) #[true, true, true, false, true, false, false, true, true, false, false, false, false, false, false, false] rfl rfl (any_of HT_.out (by kernel_rfl)) (fun _ _ _ h => h) (Or.inl ⟨by rfl, ?_⟩) ?_ ?_
        rotate_left
        · intro w'
          go_simp
          with_reducible rfl
        rotate_left
        · simp only [Act.put, List.setIfInBounds_toArray, List.set_cons_zero, List.set_cons_succ, i64_w, i32_w]
          rfl
        refine pure_ (i := 9) (N := some 27) (v := ?_) (a' := ?_) #[true, true, true, false, true, false, false, true, true, true, false, false, false, false, false, false] rfl rfl (any_of HT_.out (by kernel_rfl)) (fun _ _ _ h => h) (Or.inl ⟨by rfl, ?_⟩) ?_ ?_
        rotate_left
        · intro w'
          go_simp
          with_reducible rfl
        rotate_left
        · simp only [Act.put, List.setIfInBounds_toArray, List.set_cons_zero, List.set_cons_succ, i64_w, i32_w]
          rfl
        refine pure_ (i := 11) (N := some 29) (v := ?_) (a' := ?_) #[true, true, true, false, true, false, false, true, true, true, false, true, false, false, false, false] rfl rfl (any_of HT_.out (by kernel_rfl)) (fun _ _ _ h => h) (Or.inl ⟨by rfl, ?_⟩) ?_ ?_
        rotate_left
        · intro w'
          go_simp
          with_reducible rfl
        rotate_left
        · simp only [Act.put, List.setIfInBounds_toArray, List.set_cons_zero, List.set_cons_succ, i64_w, i32_w]
          rfl
        refine take_ (i := 3) (N := some 21) (v := ?_) (a' := ?_) #[true, true, true, true, true, false, false, true, true, true, false, true, false, false, false, false] rfl rfl (take_ofW HT_.out HW_.out (by kernel_rfl)) (fun _ _ _ h => h) (Or.inl ⟨by rfl, ?_⟩) hHeld ?_ ?_
        rotate_left
        · rintro w' ⟨s0, s1, s2, s3⟩
          go_simp
          with_reducible rfl
        rotate_left
        · simp only [Act.put, List.setIfInBounds_toArray, List.set_cons_zero, List.set_cons_succ, i64_w, i32_w]
          rfl
        refine pure_ (i := 5) (N := some 23) (v := ?_) (a' := ?_) #[true, true, true, true, true, true, false, true, true, true, false, true, false, false, false, false] rfl rfl (any_of HT_.out (by kernel_rfl)) (fun _ _ _ h => h) (Or.inl ⟨by rfl, ?_⟩) ?_ ?_
        rotate_left
        · intro w'
          go_simp
          with_reducible rfl
        rotate_left
        · simp only [Act.put, List.setIfInBounds_toArray, List.set_cons_zero, List.set_cons_succ, i64_w, i32_w]
          rfl
        refine take_ (i := 6) (N := some 24) (v := ?_) (a' := ?_) #[true, true, true, true, true, true, true, true, true, true, false, true, false, false, false, false] rfl rfl (take_ofW HT_.out HW_.out (by kernel_rfl)) (fun _ _ _ h => h) (Or.inl ⟨by rfl, ?_⟩) hHeld ?_ ?_
        rotate_left
        · rintro w' ⟨s0, s1, s2, s3⟩
          go_simp
          with_reducible rfl
        rotate_left
        · simp only [Act.put, List.setIfInBounds_toArray, List.set_cons_zero, List.set_cons_succ, i64_w, i32_w]
          rfl
        refine take_ (i := 10) (N := some 28) (v := ?_) (a' := ?_) #[true, true, true, true, true, true, true, true, true, true, true, true, false, false, false, false] rfl rfl (take_ofW HT_.out HW_.out (by kernel_rfl)) (fun _ _ _ h => h) (Or.inl ⟨by rfl, ?_⟩) hHeld ?_ ?_
        rotate_left
        · rintro w' ⟨s0, s1, s2, s3⟩
          go_simp
          with_reducible rfl
        rotate_left
        · simp only [Act.put, List.setIfInBounds_toArray, List.set_cons_zero, List.set_cons_succ, i64_w, i32_w]
          rfl
        refine pure_ (i := 12) (N := some 30) (v := ?_) (a' := ?_) #[true, true, true, true, true, true, true, true, true, true, true, true, true, false, false, false] rfl rfl (any_of HT_.out (by kernel_rfl)) (fun _ _ _ h => h) (Or.inl ⟨by rfl, ?_⟩) ?_ ?_
        rotate_left
        · intro w'
          go_simp
          with_reducible rfl
        rotate_left
        · simp only [Act.put, List.setIfInBounds_toArray, List.set_cons_zero, List.set_cons_succ, i64_w, i32_w]
          rfl
        refine take_ (i := 13) (N := some 31) (v := ?_) (a' := ?_) #[true, true, true, true, true, true, true, true, true, true, true, true, true, true, false, false] rfl rfl (take_ofW HT_.out HW_.out (by kernel_rfl)) (fun _ _ _ h => h) (Or.inl ⟨by rfl, ?_⟩) hHeld ?_ ?_
        rotate_left
        · rintro w' ⟨s0, s1, s2, s3⟩
          go_simp
          with_reducible rfl
        rotate_left
        · simp only [Act.put, List.setIfInBounds_toArray, List.set_cons_zero, List.set_cons_succ, i64_w, i32_w]
          rfl
        refine one_ (i := 14) (N := some 32) #[true, true, true, true, true, true, true, true, true, true, true, true, true, true, true, false] rfl rfl (one_of HT_.out (by kernel_rfl)) (by decide) (fun K hK => ?_)
        refine goes_ Try.func32 (by kernel_rfl) rfl #[.slice A1 xs.length k1, .slice A2 xs.length k2] (by rfl) rfl rfl (by simp only [List.map_toArray, List.map_cons, List.map_nil]; rfl) ?_
        with_reducible refine (HS.out _ (Kd.C_drew HC.out.1) (Kd.C_drew HC.out.2)).mono ?_
        rintro e w5 ⟨rfl, hd⟩
        refine ⟨_, rfl, ?_⟩
        have HD := Aside0.mk (Below.trans (Below.drew (Below.refl wr.heap.size wr)) hd.below)
        refine hK.out _ _ ⟨pw_cell_below HD.out c0, pw_cell_below HD.out c1, pw_cell_below HD.out e0, pw_cell_below HD.out e1⟩ (fun hHeld => ?_)
        clear hK K
        refine norm_ (a' := ?_) ?_ ?_
        rotate_left
        · show Act.put _ (some 32) _ = _
          simp only [Act.put, List.setIfInBounds_toArray, List.set_cons_zero, List.set_cons_succ, i64_w, i32_w]
          rfl
        refine pure_ (i := 15) (N := some 33) (v := ?_) (a' := ?_) #[true, true, true, true, true, true, true, true, true, true, true, true, true, true, true, true] rfl rfl (any_of HT_.out (by kernel_rfl)) (fun _ _ _ h => h) (Or.inl ⟨by rfl, ?_⟩) ?_ ?_
        rotate_left
        · intro w'
          go_simp
          with_reducible rfl
        rotate_left
        · simp only [Act.put, List.setIfInBounds_toArray, List.set_cons_zero, List.set_cons_succ, i64_w, i32_w]
          rfl
        refine done_ (done_of HT_.out (by kernel_rfl)) ?_
        go_wp2
        go_roundg (gk - 1)
        case measure => have := HI.out; omega
        case rel => exact ⟨i + 1, by go_num, ⟨by have := HI.out; omega⟩, ⟨HK.out.below HD.out⟩, ⟨HB.out.trans (HD.out.mono HBS.out)⟩, ⟨Nat.le_trans HBS.out HD.out.size⟩⟩
    · have d1 : decide (i < N) = false := decide_eq_false hlt
      have HA0 := Aside0.mk (show KeepA base wr g (.slice AL N cL) (.slice AW N cW) vs xss from HK.out.toA)
      have HLe0 : Aside0 (Lens xss xss) := ⟨⟨rfl, fun _ _ => rfl⟩⟩
      clear HK HI
      go_wp2
      clear c0 c1 d1 hlt
      go_loopg [4] 3 (fun kq v4 w' => ∃ (r : Nat) (yss : List (List Int)), v4 = .int .i64 r ∧ Aside0 (r + kq = 3) ∧ Aside0 (KeepA base w' g (.slice AL N cL) (.slice AW N cW) vs yss) ∧ Aside0 (Lens xss yss) ∧ Aside0 (1 ≤ r → ∀ i, i < N → yss.getD i [] = mkL xss i) ∧ Aside0 (Below base w0 w') ∧ Aside0 (base ≤ w'.heap.size))
      case atStart => exact ⟨0, xss, rfl, ⟨by omega⟩, HA0, HLe0, ⟨fun h => absurd h (by omega)⟩, HB, HBS⟩
      case round =>
        clear HA0 HLe0 HB HBS
        obtain ⟨r, yss, rfl, HR, HA, HLe, HM, HB, HBS⟩ := hrel
        by_cases hr3 : r < 3
        · have d1 : decide ((r : Int) < 3) = true := decide_eq_true (by omega)
          have HR3 := Aside0.mk hr3
          clear hr3
          obtain ⟨gr, hgr⟩ : ∃ x : Nat, x = gk := ⟨_, rfl⟩
          have HGR := Aside0.mk hgr
          clear hgr
          go_wp2
          clear d1
          go_loopg [5] N (fun kq v5 w' => ∃ (i : Nat) (yss : List (List Int)), v5 = .int .i64 i ∧ Aside0 (i + kq = N) ∧ Aside0 (KeepA base w' g (.slice AL N cL) (.slice AW N cW) vs yss) ∧ Aside0 (Lens xss yss) ∧ Aside0 ((1 ≤ r → ∀ i, i < N → yss.getD i [] = mkL xss i) ∧ (r = 0 → ∀ i', i' < i → yss.getD i' [] = mkL xss i')) ∧ Aside0 (Below base w0 w') ∧ Aside0 (base ≤ w'.heap.size))
          case atStart => exact ⟨0, yss, rfl, ⟨by omega⟩, HA, HLe, ⟨⟨HM.out, fun _ i' h => absurd h (by omega)⟩⟩, HB, HBS⟩
          case round =>
            clear HA HLe HM HB HBS
            obtain ⟨i, yss, rfl, HI, HA, HLe, HM, HB, HBS⟩ := hrel
            have c0 := blk_cell HA.out.blk 0
            simp only [List.getElem?_toArray, List.getElem?_cons_zero, List.getElem?_cons_succ] at c0
            by_cases hlt : i < N
            · have d1 : decide (i < N) = true := decide_eq_true hlt
              have hix : i < xss.length := by rw [← HN.out]; exact hlt
              have HIX := Aside0.mk hix
              have hml := HL.out i hix
              obtain ⟨m, hm⟩ : ∃ m, m = (xss.getD i []).length := ⟨_, rfl⟩
              rw [← hm] at hml
              have HMM := Aside0.mk hm
              clear hm hix
              obtain ⟨bL, cL', hvL, e0, _⟩ := own_cell HA.out.L.o (i := i) (by rw [HV.out.1]; exact hlt)
              have hAL : AL = some ⟨bL, 0, none⟩ := by injection hvL
              have hg1 : vs.getD i undef = vs.getD i nilS := by rw [List.getD_eq_getElem?_getD, List.getD_eq_getElem?_getD, List.getElem?_eq_getElem (by rw [HV.out.1]; exact hlt)]; rfl
              have hrow := HA.out.L.row i (by rw [HLe.out.n]; exact HIX.out)
              rw [HLe.out.len i HIX.out, ← HMM.out] at hrow
              obtain ⟨A1, k1, h1⟩ := own_slice hrow
              rw [hg1, h1] at e0
              have HAL := Aside0.mk hAL
              have HA1 := Aside0.mk h1
              clear hvL hAL hg1 hrow h1
              rw [HAL.out] at c0
              obtain ⟨gi, hgi⟩ : ∃ x : Nat, x = gk := ⟨_, rfl⟩
              have HGI := Aside0.mk hgi
              clear hgi
              go_wp2
              clear d1 c0 e0
              go_loopg [6] m (fun kq v6 w' => ∃ (j : Nat) (yss : List (List Int)), v6 = .int .i64 j ∧ Aside0 (j + kq = m) ∧ Aside0 (KeepA base w' g (.slice AL N cL) (.slice AW N cW) vs yss) ∧ Aside0 (Lens xss yss) ∧ Aside0 ((1 ≤ r → ∀ i, i < N → yss.getD i [] = mkL xss i) ∧ (r = 0 → ∀ i', i' < i → yss.getD i' [] = mkL xss i') ∧ (r = 0 → ∀ j', j' < j → (yss.getD i []).getD j' 0 = -2 - (i : Int))) ∧ Aside0 (Below base w0 w') ∧ Aside0 (base ≤ w'.heap.size))
              case atStart => exact ⟨0, yss, rfl, ⟨by omega⟩, HA, HLe, ⟨⟨HM.out.1, HM.out.2, fun _ j' h => absurd h (by omega)⟩⟩, HB, HBS⟩
              case round =>
                clear HA HLe HM HB HBS
                obtain ⟨j, yss, rfl, HJ, HA, HLe, HM, HB, HBS⟩ := hrel
                have c0 := blk_cell HA.out.blk 0
                simp only [List.getElem?_toArray, List.getElem?_cons_zero, List.getElem?_cons_succ] at c0
                rw [HAL.out] at c0
                obtain ⟨bL2, cL2, hvL, e0, _⟩ := own_cell HA.out.L.o (i := i) (by rw [HV.out.1]; exact hlt)
                have hAL2 : bL2 = bL := by rw [HAL.out] at hvL; injection hvL with hvL; injection hvL with hvL; injection hvL with hvL; exact hvL.symm
                rw [hAL2] at e0
                have hg1 : vs.getD i undef = vs.getD i nilS := by rw [List.getD_eq_getElem?_getD, List.getD_eq_getElem?_getD, List.getElem?_eq_getElem (by rw [HV.out.1]; exact hlt)]; rfl
                rw [hg1, HA1.out] at e0
                clear hvL hg1 hAL2
                by_cases hjm : j < m
                · have d1 : decide (j < m) = true := decide_eq_true hjm
                  have hlen : (yss.getD i []).length = m := by rw [HLe.out.len i HIX.out, ← HMM.out]
                  have hrow := HA.out.L.row i (by rw [HLe.out.n]; exact HIX.out)
                  obtain ⟨b, k2, hv2, e1, f1⟩ := own_cell hrow (i := j) (by rw [hlen]; exact hjm)
                  rw [hlen, HA1.out] at hv2
                  have hAb : A1 = some ⟨b, 0, none⟩ := by injection hv2
                  have hk2 : k2 = k1 := by injection hv2 with _ _ h; exact h.symm
                  subst hAb hk2
                  have hval := nums_getD (xs := yss.getD i []) (j := j) (by rw [hlen]; exact hjm)
                  rw [hval] at e1
                  have hb : (vs.getD i nilS).ownBlock = some b := by rw [HA1.out]; rfl
                  have hst : ∀ x : Int, (wr.setCell ⟨b, j, none⟩ (.int .i64 x)).ownsRow base 3 1 (vs.getD i nilS) ((yss.getD i []).set j x).length (nums .i64 ((yss.getD i []).set j x)) ∧ wr.grownBy (wr.setCell ⟨b, j, none⟩ (.int .i64 x)) (vs.getD i nilS).ownBlock := fun x => by
                    rw [hb, HA1.out]
                    rw [HA1.out, ← hlen] at hrow
                    have h2 := own_ints hrow j x
                    rw [hlen] at h2
                    exact h2
                  have HST := Aside0.mk hst
                  have HLN := Aside0.mk hlen
                  have hbg : base ≤ b := own_base hrow b (by rw [HA1.out]; rfl)
                  have HBG := Aside0.mk hbg
                  obtain ⟨x0, hx0⟩ : ∃ x0, x0 = (yss.getD i []).getD j 0 := ⟨_, rfl⟩
                  have hx2 : r = 2 → x0 = -2 - (i : Int) := fun h => by
                    rw [hx0, HM.out.1 (by omega) i hlt, mkL, ← HMM.out, List.getD_eq_getElem?_getD, List.getElem?_replicate, if_pos hjm]; rfl
                  rw [← hx0] at e1
                  have HX2 := Aside0.mk hx2
                  clear hlen hrow hv2 hval hb hst hx0 hx2 hbg
                  rcases Nat.lt_or_ge 0 r with hr0 | hr0
                  · rcases Nat.lt_or_ge r 2 with hr1 | hr1
                    · have hr : r = 1 := by omega
                      subst hr
                      as_aux_lemma =>
                        go_wp2
                        go_roundg (gk - 1)
                        case measure => have := HJ.out; omega
                        case rel => exact ⟨j + 1, yss, by go_num, ⟨by have := HJ.out; omega⟩, HA, HLe, ⟨⟨HM.out.1, HM.out.2.1, fun h => absurd h (by omega)⟩⟩, HB, HBS⟩
                    · have hr : r = 2 := by have := HR3.out; omega
                      subst hr
                      have hx2 := HX2.out rfl
                      subst hx2
                      as_aux_lemma =>
                        go_wp2
                        go_roundg (gk - 1)
                        case measure => have := HJ.out; omega
                        case rel => exact ⟨j + 1, yss, by go_num, ⟨by have := HJ.out; omega⟩, HA, HLe, ⟨⟨HM.out.1, HM.out.2.1, fun h => absurd h (by omega)⟩⟩, HB, HBS⟩
                  · have hr : r = 0 := by omega
                    subst hr
                    as_aux_lemma =>
                      go_wp2
                      go_roundg (gk - 1)
                      case measure => have := HJ.out; omega
                      case rel => exact ⟨j + 1, yss.set i ((yss.getD i []).set j (-2 - (i : Int))), by go_num, ⟨by have := HJ.out; omega⟩, ⟨HA.out.upd (by rw [HLe.out.n]; exact HIX.out) (HST.out _).2 (HST.out _).1⟩, ⟨HLe.out.set HIX.out (by rw [List.length_set]; exact HLe.out.len i HIX.out)⟩, ⟨⟨fun h => absurd h (by omega), fun _ i' hi' => by rw [getD_setL (by rw [HLe.out.n]; exact HIX.out), if_neg (by omega)]; exact HM.out.2.1 (by simp) i' hi', fun _ j' hj' => by
                        rw [getD_setL (by rw [HLe.out.n]; exact HIX.out), if_pos rfl, getD_set _ _ _ _ (by rw [HLN.out]; exact hjm)]
                        by_cases e : j' = j
                        · rw [if_pos e]
                        · rw [if_neg e]; exact HM.out.2.2 (by simp) j' (by omega)⟩⟩, ⟨HB.out.setCell HBG.out _⟩, ⟨by simpa using HBS.out⟩⟩
                · have d1 : decide (j < m) = false := decide_eq_false hjm
                  have hjm2 : j = m := by have := HJ.out; omega
                  have HM2 : Aside0 ((1 ≤ r → ∀ i, i < N → yss.getD i [] = mkL xss i) ∧ (r = 0 → ∀ i', i' < i + 1 → yss.getD i' [] = mkL xss i')) := ⟨⟨HM.out.1, fun h i' hi' => by
                    by_cases e : i' = i
                    · rw [e, mkL, ← HMM.out]
                      refine List.ext_getElem (by rw [HLe.out.len i HIX.out, ← HMM.out, List.length_replicate]) (fun q h1 h2 => ?_)
                      have h3 := HM.out.2.2 h q (by rw [List.length_replicate] at h2; omega)
                      rw [List.getD_eq_getElem?_getD, List.getElem?_eq_getElem h1] at h3
                      rw [List.getElem_replicate]
                      exact h3
                    · exact HM.out.2.1 h i' (by omega)⟩⟩
                  clear HM HJ hjm2
                  go_wp2
                  clear c0 e0 d1 hjm
                  go_loopg [7] 18 (fun kq v7 w' => ∃ (q : Nat), v7 = .int .i64 q ∧ Aside0 (q + kq = 19) ∧ Aside0 (1 ≤ q) ∧ Aside0 (KeepA base w' g (.slice AL N cL) (.slice AW N cW) vs yss) ∧ Aside0 (Below base w0 w') ∧ Aside0 (base ≤ w'.heap.size))
                  case atStart => exact ⟨1, rfl, ⟨by omega⟩, ⟨by omega⟩, HA, HB, HBS⟩
                  case round =>
                    clear HA HB HBS
                    obtain ⟨q, rfl, HQ, HQ1, HA, HB, HBS⟩ := hrel
                    by_cases hq : q ≤ 17
                    · have d0 : decide ((q : Int) ≤ 17) = true := decide_eq_true (by omega)
                      by_cases hr : r = 1
                      · subst hr
                        as_aux_lemma =>
                          have d1 : decide ((q : Int) ≤ 17) = true := decide_eq_true (by omega)
                          have hq1 := HQ1.out
                          have c0 := blk_cell HA.out.blk 0
                          simp only [List.getElem?_toArray, List.getElem?_cons_zero, List.getElem?_cons_succ] at c0
                          rw [HAL.out] at c0
                          obtain ⟨bL2, cL2, hvL, e0, _⟩ := own_cell HA.out.L.o (i := i) (by rw [HV.out.1]; exact hlt)
                          have hAL2 : bL2 = bL := by rw [HAL.out] at hvL; injection hvL with hvL; injection hvL with hvL; injection hvL with hvL; exact hvL.symm
                          rw [hAL2] at e0
                          have hg1 : vs.getD i undef = vs.getD i nilS := by rw [List.getD_eq_getElem?_getD, List.getD_eq_getElem?_getD, List.getElem?_eq_getElem (by rw [HV.out.1]; exact hlt)]; rfl
                          rw [hg1, HA1.out] at e0
                          have hrow := HA.out.L.row i (by rw [HLe.out.n]; exact HIX.out)
                          have hlen : (yss.getD i []).length = m := by rw [HLe.out.len i HIX.out, ← HMM.out]
                          rw [HA1.out, hlen] at hrow
                          have HROW := Aside0.mk hrow
                          have HLN := Aside0.mk hlen
                          clear hvL hg1 hrow hlen hAL2
                          go_wp2_with ((with_reducible refine gate_builtin (b := .append) (xs := #[.tmp 103, .tmp 108]) rfl ?_); at_builtin; refine grow_zeros2 base rfl (.tmp 103) (.tmp 108) 45 3 3 .i64 8 rfl Try.underlying45 Try.underlying3 info3 (by decide) (.slice A1 m k1) m (nums .i64 (yss.getD i [])) (q + q / 17 * 80) (by omega) HROW.out rfl ?aX (by omega) HBS.out ?_; (case aX => first | rfl | (simp; done) | (show Value.int .i64 _ = Value.int .i64 _; exact (0 : Nat))); intro b1 c1 w1 y k hk hc hf hst; have HST := Aside0.mk (hst (.int .i64 7)); have hk0 := eq_true (show k < k + 1 from Nat.lt_succ_self k); have hkb : k ≤ 300000 := (by omega); clear hst hk)
                          clear c0 e0
                          have HG2 := Aside0.mk (show wr.grownBy (w1.setCell ⟨b1, k, none⟩ (.int .i64 7)) (vs.getD i nilS).ownBlock by rw [HA1.out]; exact HST.out.2)
                          have HO2 := Aside0.mk (show (w1.setCell ⟨b1, k, none⟩ (.int .i64 7)).ownsRow base 3 1 (vs.getD i nilS) (yss.getD i []).length (nums .i64 (yss.getD i [])) by rw [HA1.out, HLN.out]; exact HST.out.1)
                          go_roundg (gk - 1)
                          case measure => have := HQ.out; omega
                          case rel => exact ⟨q + 1, by go_num, ⟨by have := HQ.out; omega⟩, ⟨by omega⟩, ⟨HA.out.stay (by rw [HLe.out.n]; exact HIX.out) HG2.out HO2.out⟩, ⟨HB.out.grown HG2.out HBS.out (fun k hk => own_base (HA.out.L.row i (by rw [HLe.out.n]; exact HIX.out)) k hk)⟩, ⟨Nat.le_trans HBS.out HG2.out.size⟩⟩
                      · rcases Nat.eq_zero_or_pos r with h0 | h0
                        · subst h0
                          as_aux_lemma =>
                            have c0 := blk_cell HA.out.blk 0
                            simp only [List.getElem?_toArray, List.getElem?_cons_zero, List.getElem?_cons_succ] at c0
                            go_wp2
                            go_roundg (gi - 1)
                            case measure => have := HI.out; have := HGI.out; omega
                            case rel => exact ⟨i + 1, yss, by go_num, ⟨by have := HI.out; have := HGI.out; omega⟩, HA, HLe, ⟨⟨fun h => absurd h (by omega), fun _ => HM2.out.2 (by simp)⟩⟩, HB, HBS⟩
                        · have h2 : r = 2 := by have := HR3.out; omega
                          subst h2
                          as_aux_lemma =>
                            have c0 := blk_cell HA.out.blk 0
                            simp only [List.getElem?_toArray, List.getElem?_cons_zero, List.getElem?_cons_succ] at c0
                            go_wp2
                            go_roundg (gi - 1)
                            case measure => have := HI.out; have := HGI.out; omega
                            case rel => exact ⟨i + 1, yss, by go_num, ⟨by have := HI.out; have := HGI.out; omega⟩, HA, HLe, ⟨⟨fun _ => HM2.out.1 (by simp), fun h => absurd h (by omega)⟩⟩, HB, HBS⟩
                    · have d0 : decide ((q : Int) ≤ 17) = false := decide_eq_false (by omega)
                      as_aux_lemma =>
                        have c0 := blk_cell HA.out.blk 0
                        simp only [List.getElem?_toArray, List.getElem?_cons_zero, List.getElem?_cons_succ] at c0
                        go_wp2
                        go_roundg (gi - 1)
                        case measure => have := HI.out; have := HGI.out; omega
                        case rel => exact ⟨i + 1, yss, by go_num, ⟨by have := HI.out; have := HGI.out; omega⟩, HA, HLe, HM2, HB, HBS⟩
            · have d1 : decide (i < N) = false := decide_eq_false hlt
              have hin : i = N := by have := HI.out; omega
              have hr3 := HR3.out
              go_wp2
              go_roundg (gr - 1)
              case measure => have := HR.out; have := HGR.out; have := HR3.out; omega
              case rel => exact ⟨r + 1, yss, by go_num, ⟨by have := HR.out; have := HGR.out; have := HR3.out; omega⟩, HA, HLe, ⟨fun _ i' hi' => by
                rcases Nat.eq_zero_or_pos r with h0 | h0
                · exact HM.out.2 h0 i' (by omega)
                · exact HM.out.1 h0 i' hi'⟩, HB, HBS⟩
        · have d1 : decide ((r : Int) < 3) = false := decide_eq_false (by omega)
          go_wp2
          go_ret
          exact ⟨rfl, HB.out⟩

end Go.Proofs.Ytpobladocccnmaa

/- rng.Shuffle and rng.Pick where they refuse. -/
namespace Go.Proofs.Ytpobladocccnmaa
open Go.RowKit Mix PBase
open Go.Proofs.YtpobladocccnmaaW.PrintWords Go.Proofs.YtpobladocccnmaaW.PrintLast Go.Proofs.YtpobladocccnmaaW.PrintMore
set_option linter.unusedVariables false
set_option linter.unusedSimpArgs false

/-- what is answered with an error -/
def Refused (w w' : World) (e : Ending) (x : Int) : Prop := e = .returned (.tuple #[.slice none 0 0, .agg #[.int .i64 0, .int .i64 0, .int .i64 0], .int .i64 x]) ∧ Below w.heap.size w w'

set_option maxHeartbeats 1000000 in
set_option maxRecDepth 100000 in
theorem Shuffle_neg (s t a n : Int) (w : World) (hn : n < 0) : Calls Try.prog 25 #[.agg #[.int .i64 s, .int .i64 t, .int .i64 a], .int .i64 n] w fun e w' => Refused w w' e 1 := by
  have d1 : decide (n < 0) = true := decide_eq_true hn
  go_enter Try.func25, Try.ntmps25
  go_wp2
  refine bodyPost_ret (v := .tuple #[.slice none 0 0, .agg #[.int .i64 0, .int .i64 0, .int .i64 0], .int .i64 1]) (by simp [results, Try.results25, go_sem]) rfl ⟨rfl, ?_⟩
  exact ((Below.refl _ _).alloc (Nat.le_refl _) _).alloc (by simp) _

set_option maxHeartbeats 1000000 in
set_option maxRecDepth 100000 in
theorem Shuffle_long (s t a n : Int) (w : World) (hn : 65536 < n) : Calls Try.prog 25 #[.agg #[.int .i64 s, .int .i64 t, .int .i64 a], .int .i64 n] w fun e w' => Refused w w' e 2 := by
  have d1 : decide (n < 0) = false := decide_eq_false (by omega)
  have d2 : decide (65536 < n) = true := decide_eq_true hn
  go_enter Try.func25, Try.ntmps25
  go_wp2
  refine bodyPost_ret (v := .tuple #[.slice none 0 0, .agg #[.int .i64 0, .int .i64 0, .int .i64 0], .int .i64 2]) (by simp [results, Try.results25, go_sem]) rfl ⟨rfl, ?_⟩
  exact ((Below.refl _ _).alloc (Nat.le_refl _) _).alloc (by simp) _

set_option maxHeartbeats 1000000 in
set_option maxRecDepth 100000 in
theorem Pick_arg (s t a n k : Int) (w : World) (hn : n < 0 ∨ k < 0 ∨ n < k) : Calls Try.prog 26 #[.agg #[.int .i64 s, .int .i64 t, .int .i64 a], .int .i64 n, .int .i64 k] w fun e w' => Refused w w' e 1 := by
  by_cases h1 : n < 0
  · have d1 : decide (n < 0) = true := decide_eq_true h1
    go_enter Try.func26, Try.ntmps26
    go_wp2
    refine bodyPost_ret (v := .tuple #[.slice none 0 0, .agg #[.int .i64 0, .int .i64 0, .int .i64 0], .int .i64 1]) (by simp [results, Try.results26, go_sem]) rfl ⟨rfl, ?_⟩
    exact ((Below.refl _ _).alloc (Nat.le_refl _) _).alloc (by simp) _
  · have d1 : decide (n < 0) = false := decide_eq_false h1
    by_cases h2 : k < 0
    · have d2 : decide (k < 0) = true := decide_eq_true h2
      go_enter Try.func26, Try.ntmps26
      go_wp2
      refine bodyPost_ret (v := .tuple #[.slice none 0 0, .agg #[.int .i64 0, .int .i64 0, .int .i64 0], .int .i64 1]) (by simp [results, Try.results26, go_sem]) rfl ⟨rfl, ?_⟩
      exact ((Below.refl _ _).alloc (Nat.le_refl _) _).alloc (by simp) _
    · have d2 : decide (k < 0) = false := decide_eq_false h2
      have d3 : decide (n < k) = true := decide_eq_true (by omega)
      go_enter Try.func26, Try.ntmps26
      go_wp2
      refine bodyPost_ret (v := .tuple #[.slice none 0 0, .agg #[.int .i64 0, .int .i64 0, .int .i64 0], .int .i64 1]) (by simp [results, Try.results26, go_sem]) rfl ⟨rfl, ?_⟩
      exact ((Below.refl _ _).alloc (Nat.le_refl _) _).alloc (by simp) _

set_option maxHeartbeats 1000000 in
set_option maxRecDepth 100000 in
theorem Pick_long (s t a n k : Int) (w : World) (h0 : 65536 < n) (h1 : 0 ≤ k) (h2 : k ≤ n) : Calls Try.prog 26 #[.agg #[.int .i64 s, .int .i64 t, .int .i64 a], .int .i64 n, .int .i64 k] w fun e w' => Refused w w' e 2 := by
  have d1 : decide (n < 0) = false := decide_eq_false (by omega)
  have d2 : decide (k < 0) = false := decide_eq_false (by omega)
  have d3 : decide (n < k) = false := decide_eq_false (by omega)
  have d4 : decide (65536 < n) = true := decide_eq_true h0
  go_enter Try.func26, Try.ntmps26
  go_wp2
  refine bodyPost_ret (v := .tuple #[.slice none 0 0, .agg #[.int .i64 0, .int .i64 0, .int .i64 0], .int .i64 2]) (by simp [results, Try.results26, go_sem]) rfl ⟨rfl, ?_⟩
  exact ((Below.refl _ _).alloc (Nat.le_refl _) _).alloc (by simp) _

theorem IsInts.own {W : World} {b base : Nat} {xs : List Int} (h : IsInts W b xs) (hb : base ≤ b) (hl : xs.length ≤ 9223372036854775807) : W.ownsRow base 3 1 (.slice (some ⟨b, 0, none⟩) xs.length xs.length) xs.length (nums .i64 xs) :=
  ⟨by simp [nums], .inr ⟨b, xs.length, _, rfl, hb, h, Nat.le_refl _, by simp only [maxLen]; exact hl, by simp [nums], by rw [Nat.mul_one, List.take_of_length_le (by simp [nums])]⟩⟩

theorem OwnInts.low {w W : World} {v : Value} {xs : List Int} {base : Nat} (h : OwnInts w W v xs) (hb : base ≤ w.heap.size) : W.ownsRow base 3 1 v xs.length (nums .i64 xs) := own_less h.own hb

/-- a Keep of at most B lists -/
def KeepX (base : Nat) (W : World) (g B : Nat) : Prop := ∃ vL vW vs ws xss, KeepI base W g vL vW vs ws xss ∧ xss.length ≤ B ∧ ∀ i, i < xss.length → (xss.getD i []).length ≤ 100000

theorem KeepX.below {base : Nat} {W W1 : World} {g B : Nat} (h : KeepX base W g B) (hb : Below W.heap.size W W1) : KeepX base W1 g B := by
  obtain ⟨vL, vW, vs, ws, xss, h1, h2, h3⟩ := h
  exact ⟨vL, vW, vs, ws, xss, h1.below hb, h2, h3⟩
theorem KeepX.more {base : Nat} {W : World} {g B B2 : Nat} (h : KeepX base W g B) (hb : B ≤ B2) : KeepX base W g B2 := by
  obtain ⟨vL, vW, vs, ws, xss, h1, h2, h3⟩ := h
  exact ⟨vL, vW, vs, ws, xss, h1, by omega, h3⟩

/-- Add, as it is asked of a Keep that is elder than what is added. -/
theorem AddX_calls (base : Nat) (w0 w w1 : World) (g B : Nat) (A1 : Option Addr) (c1 : Nat) (l : List Int) (A : Option Addr) (c : Nat)
    (hK : KeepX base w g B) (hB : B < 300) (hb1 : Below w.heap.size w w1) (hv : w1.ownsRow w.heap.size 3 1 (.slice A1 l.length c1) l.length (nums .i64 l)) (hC : w1.ownsRow base 3 1 (.slice A l.length c) l.length (nums .i64 l)) (hl : l.length ≤ 100000) (hB0 : Below base w0 w) (hbs : base ≤ w.heap.size) :
    Calls Try.prog 46 #[.pointer (some ⟨g, 0, none⟩), .slice A1 l.length c1, .slice A l.length c] w1 fun e w' => e = .returned (.bool true) ∧ KeepX base w' g (B + 1) ∧ TyKeep w1 w' ∧ Below base w0 w' := by
  obtain ⟨vL, vW, vs, ws, xss, h1, h2, h3⟩ := hK
  refine (Add_calls base w0 w1 g vL vW vs ws xss (.slice A1 l.length c1) l A c (h1.below hb1) (by rw [h1.L.len]; omega) (own_less hv hbs) (fun i hi k hk hk' => ?_) hC hl (hB0.trans (hb1.mono hbs)) (Nat.le_trans hbs hb1.size)).mono ?_
  · have e1 := own_lt (h1.L.row i hi) k hk
    have e2 := own_base hv k hk'
    omega
  · rintro e w' ⟨rfl, ⟨vL', vW', wv, k1⟩, k2, k3⟩
    refine ⟨rfl, ⟨_, _, _, _, _, k1, by rw [List.length_append, List.length_singleton]; omega, fun i hi => ?_⟩, k2, k3⟩
    rw [List.length_append, List.length_singleton] at hi
    by_cases he : i = xss.length
    · subst he
      have e2 : (xss ++ [l]).getD xss.length [] = l := by rw [List.getD_eq_getElem?_getD, List.getElem?_append_right (Nat.le_refl _)]; simp
      rw [e2]; exact hl
    · have e2 : (xss ++ [l]).getD i [] = xss.getD i [] := by rw [List.getD_eq_getElem?_getD, List.getElem?_append_left (by omega), List.getD_eq_getElem?_getD]
      rw [e2]; exact h3 i (by omega)

theorem ApartX_calls (base : Nat) (w0 w : World) (g B : Nat) (hK : KeepX base w g B) (hB : B ≤ 300) (hB0 : Below base w0 w) (hbs : base ≤ w.heap.size) :
    Calls Try.prog 24 #[.pointer (some ⟨g, 0, none⟩)] w fun e w' => e = .returned (.bool true) ∧ Below base w0 w' := by
  obtain ⟨vL, vW, vs, ws, xss, h1, h2, h3⟩ := hK
  exact Apart_calls base w0 w g vL vW vs ws xss h1 (by omega) h3 hB0 hbs

theorem keepX_new (base : Nat) (W : World) (hb : base ≤ W.heap.size) : KeepX base (W.alloc (.cells #[.slice none 0 0, .slice none 0 0] 43)) W.heap.size 0 := by
  refine ⟨nilS, nilS, [], [], [], ⟨by simpa using blk_new W _, hb, ⟨own_nil _ _ _ _, rfl, fun i hi => absurd hi (by simp)⟩, ⟨own_nil _ _ _ _, rfl, fun i hi => absurd hi (by simp)⟩, ne_nil _, fun i j hi => absurd hi (by simp)⟩, Nat.le_refl _, fun i hi => absurd hi (by simp)⟩

end Go.Proofs.Ytpobladocccnmaa

/- The walk of pupillaw6.orders. -/
namespace Go.Proofs.Ytpobladocccnmaa
open Go.RowKit Mix PBase
open Go.Proofs.YtpobladocccnmaaW.PrintWords Go.Proofs.YtpobladocccnmaaW.PrintLast Go.Proofs.YtpobladocccnmaaW.PrintMore
set_option linter.unusedVariables false
set_option linter.unusedSimpArgs false

/-- what the walk of 'orders' comes to -/
def OrdQ (base : Nat) (w0 w : World) (g B : Nat) (e : Ending) (w' : World) : Prop := e = .returned (.bool true) ∧ KeepX base w' g B ∧ TyKeep w w' ∧ Below base w0 w'

set_option maxHeartbeats 1000000 in
set_option maxRecDepth 100000 in
/-- n is refused -/
theorem orders_bad (base : Nat) (w0 w : World) (g B : Nat) (s t a n m x y : Int) (hK : KeepX base w g B) (hB : Below base w0 w) (hbs : base ≤ w.heap.size)
    (hx : (n < 0 ∧ x = 1 ∧ y = 1) ∨ (65536 < n ∧ x = 2 ∧ ((m < 0 ∨ n < m) ∧ y = 1 ∨ (0 ≤ m ∧ m ≤ n) ∧ y = 2))) :
    Calls Try.prog 23 #[.pointer (some ⟨g, 0, none⟩), .agg #[.int .i64 s, .int .i64 t, .int .i64 a], .int .i64 n, .int .i64 m] w (OrdQ base w0 w g B) := by
  have HX := Aside0.mk hx
  have HSh := Aside0.mk (show ∀ W, Calls Try.prog 25 #[.agg #[.int .i64 s, .int .i64 t, .int .i64 a], .int .i64 n] W fun e w' => Refused W w' e x from fun W => by
    rcases hx with ⟨h1, rfl, _⟩ | ⟨h1, rfl, _⟩
    · exact Shuffle_neg s t a n W h1
    · exact Shuffle_long s t a n W h1)
  have HPi := Aside0.mk (show ∀ W, Calls Try.prog 26 #[.agg #[.int .i64 s, .int .i64 t, .int .i64 a], .int .i64 n, .int .i64 m] W fun e w' => Refused W w' e y from fun W => by
    rcases hx with ⟨h1, _, rfl⟩ | ⟨h1, _, ⟨h2, rfl⟩ | ⟨h2, rfl⟩⟩
    · exact Pick_arg s t a n m W (.inl h1)
    · exact Pick_arg s t a n m W (.inr h2)
    · exact Pick_long s t a n m W h1 h2.1 h2.2)
  have HK := Aside0.mk hK
  have HB := Aside0.mk hB
  have HBS := Aside0.mk hbs
  clear hx hK hB hbs
  go_enter Try.func23, Try.ntmps23
  go_wp2_with fail
  refine (HSh.out _).mono ?_
  rintro e w1 ⟨rfl, hb⟩
  have G1 := Aside0.mk ((IsS23.new w w s t a (Below.refl _ _)).below hb)
  have HB1 := Aside0.mk (below_step ((Below.refl _ _).alloc (Nat.le_refl _) _) hb)
  clear hb
  obtain ⟨hI0, _⟩ := G1.out
  have c0 := cellS23_0 hI0
  have c1 := cellS23_1 hI0
  have c2 := cellS23_2 hI0
  clear hI0
  have hlt : w.heap.size < w1.heap.size := G1.out.lt
  go_wp2_with fail
  refine (HPi.out _).mono ?_
  rintro e w2 ⟨rfl, hb⟩
  have G1 := Aside0.mk ((G1.out.alloc (.cells #[.int .i64 0, .int .i64 0, .int .i64 0] 23)).below hb)
  have G2 := Aside0.mk ((IsS23.new w w1 0 0 0 HB1.out).below hb)
  have HB2 := Aside0.mk (below_step (below_alloc HB1.out (.cells #[.int .i64 0, .int .i64 0, .int .i64 0] 23)) hb)
  clear hb c0 c1 c2 hlt
  obtain ⟨hI1, _⟩ := G2.out
  have e0 := cellS23_0 hI1
  have e1 := cellS23_1 hI1
  have e2 := cellS23_2 hI1
  clear hI1
  have hlt : w1.heap.size < w2.heap.size := G2.out.lt
  have HB3 := Aside0.mk (below_alloc HB2.out (.cells #[.int .i64 0, .int .i64 0, .int .i64 0] 23))
  have HFin : Aside0 (∀ W, Below w.heap.size w W → OrdQ base w0 w g B (.returned (.bool true)) W) := ⟨fun W hW => ⟨rfl, HK.out.below hW, TyKeep.of_below hW, HB.out.trans (hW.mono HBS.out)⟩⟩
  rcases HX.out with ⟨h1, rfl, rfl⟩ | ⟨h1, rfl, ⟨h2, rfl⟩ | ⟨⟨h2, h3⟩, rfl⟩⟩
  · have d1 : decide (n < 0) = true := decide_eq_true h1
    by_cases h4 : m < 0
    · have d2 : decide (m < 0) = true := decide_eq_true h4
      go_wp2
      go_ret
      exact HFin.out _ HB3.out
    · have d2 : decide (m < 0) = false := decide_eq_false h4
      have d3 : decide (n < m) = true := decide_eq_true (by omega)
      go_wp2
      go_ret
      exact HFin.out _ HB3.out
  · have d1 : decide (n < 0) = false := decide_eq_false (by omega)
    have d4 : decide (65536 < n) = true := decide_eq_true h1
    by_cases h4 : m < 0
    · have d2 : decide (m < 0) = true := decide_eq_true h4
      go_wp2
      go_ret
      exact HFin.out _ HB3.out
    · have d2 : decide (m < 0) = false := decide_eq_false h4
      have d3 : decide (n < m) = true := decide_eq_true (by omega)
      go_wp2
      go_ret
      exact HFin.out _ HB3.out
  · have d1 : decide (n < 0) = false := decide_eq_false (by omega)
    have d4 : decide (65536 < n) = true := decide_eq_true h1
    have d2 : decide (m < 0) = false := decide_eq_false (by omega)
    have d3 : decide (n < m) = false := decide_eq_false (by omega)
    go_wp2
    go_ret
    exact HFin.out _ HB3.out

end Go.Proofs.Ytpobladocccnmaa

/- The walk of pupillaw6.orders, n as it may be. -/
namespace Go.Proofs.Ytpobladocccnmaa
open Go.RowKit Mix PBase
open Go.Proofs.YtpobladocccnmaaW.PrintWords Go.Proofs.YtpobladocccnmaaW.PrintLast Go.Proofs.YtpobladocccnmaaW.PrintMore
set_option linter.unusedVariables false
set_option linter.unusedSimpArgs false

/-- a Keep of at most B lists, in blocks of which S tells -/
def KeepY (base : Nat) (W : World) (g B : Nat) (S : Nat → Prop) : Prop := ∃ vL vW vs ws xss, KeepI base W g vL vW vs ws xss ∧ xss.length ≤ B ∧ (∀ i, i < xss.length → (xss.getD i []).length ≤ 100000) ∧ ∀ i, i < xss.length → ∀ k, (vs.getD i nilS).ownBlock = some k → S k

theorem KeepX.toY {base : Nat} {W : World} {g B : Nat} (h : KeepX base W g B) : KeepY base W g B (· < W.heap.size) := by
  obtain ⟨vL, vW, vs, ws, xss, h1, h2, h3⟩ := h
  exact ⟨vL, vW, vs, ws, xss, h1, h2, h3, fun i hi k hk => own_lt (h1.L.row i hi) k hk⟩
theorem KeepY.toX {base : Nat} {W : World} {g B : Nat} {S : Nat → Prop} (h : KeepY base W g B S) : KeepX base W g B := by
  obtain ⟨vL, vW, vs, ws, xss, h1, h2, h3, _⟩ := h
  exact ⟨vL, vW, vs, ws, xss, h1, h2, h3⟩
theorem KeepY.below {base : Nat} {W W1 : World} {g B : Nat} {S : Nat → Prop} (h : KeepY base W g B S) (hb : Below W.heap.size W W1) : KeepY base W1 g B S := by
  obtain ⟨vL, vW, vs, ws, xss, h1, h2, h3, h4⟩ := h
  exact ⟨vL, vW, vs, ws, xss, h1.below hb, h2, h3, h4⟩

theorem AddY_calls (base : Nat) (w0 w1 : World) (g B n : Nat) (S : Nat → Prop) (A1 : Option Addr) (c1 : Nat) (l : List Int) (A : Option Addr) (c : Nat) (hn : l.length = n)
    (hK : KeepY base w1 g B S) (hB : B < 300) (hv : w1.ownsRow base 3 1 (.slice A1 n c1) l.length (nums .i64 l)) (hS : ∀ k, (Value.slice A1 n c1).ownBlock = some k → ¬ S k) (hC : w1.ownsRow base 3 1 (.slice A n c) l.length (nums .i64 l)) (hl : n ≤ 100000) (hB0 : Below base w0 w1) (hbs : base ≤ w1.heap.size) :
    Calls Try.prog 46 #[.pointer (some ⟨g, 0, none⟩), .slice A1 n c1, .slice A n c] w1 fun e w' => e = .returned (.bool true) ∧ KeepY base w' g (B + 1) (fun k => S k ∨ (Value.slice A1 n c1).ownBlock = some k) ∧ TyKeep w1 w' ∧ Below base w0 w' := by
  subst hn
  obtain ⟨vL, vW, vs, ws, xss, h1, h2, h3, h4⟩ := hK
  refine (Add_calls base w0 w1 g vL vW vs ws xss (.slice A1 l.length c1) l A c h1 (by rw [h1.L.len]; omega) hv (fun i hi k hk hk' => hS k hk' (h4 i hi k hk)) hC hl hB0 hbs).mono ?_
  rintro e w' ⟨rfl, ⟨vL', vW', wv, k1⟩, k2, k3⟩
  refine ⟨rfl, ⟨_, _, _, _, _, k1, by rw [List.length_append, List.length_singleton]; omega, fun i hi => ?_, fun i hi k hk => ?_⟩, k2, k3⟩
  · rw [List.length_append, List.length_singleton] at hi
    by_cases he : i = xss.length
    · subst he
      have e2 : (xss ++ [l]).getD xss.length [] = l := by rw [List.getD_eq_getElem?_getD, List.getElem?_append_right (Nat.le_refl _)]; simp
      rw [e2]; exact hl
    · have e2 : (xss ++ [l]).getD i [] = xss.getD i [] := by rw [List.getD_eq_getElem?_getD, List.getElem?_append_left (by omega), List.getD_eq_getElem?_getD]
      rw [e2]; exact h3 i (by omega)
  · rw [List.length_append, List.length_singleton] at hi
    by_cases he : i = xss.length
    · subst he
      have e2 : (vs ++ [Value.slice A1 l.length c1]).getD xss.length nilS = Value.slice A1 l.length c1 := by rw [List.getD_eq_getElem?_getD, List.getElem?_append_right (by rw [h1.L.len]; exact Nat.le_refl _), h1.L.len]; simp
      rw [e2] at hk
      exact .inr hk
    · have e2 : (vs ++ [Value.slice A1 l.length c1]).getD i nilS = vs.getD i nilS := by rw [List.getD_eq_getElem?_getD, List.getElem?_append_left (by rw [h1.L.len]; omega), List.getD_eq_getElem?_getD]
      rw [e2] at hk
      exact .inl (h4 i (by omega) k hk)

set_option maxHeartbeats 1000000 in
set_option maxRecDepth 100000 in
theorem orders_half0 (base : Nat) (w0 w : World) (g B n : Nat) (s t a m : Int) (hK : KeepX base w g B) (hB3 : B < 298) (hB : Below base w0 w) (hbs : base ≤ w.heap.size) (hn : n ≤ 65536) (hm : m < 0) :
    Calls Try.prog 23 #[.pointer (some ⟨g, 0, none⟩), .agg #[.int .i64 s, .int .i64 t, .int .i64 a], .int .i64 n, .int .i64 m] w (OrdQ base w0 w g (B + 2)) := by
  have HK := Aside0.mk hK
  have HB := Aside0.mk hB
  have HBS := Aside0.mk hbs
  have HM := Aside0.mk hm
  have HB3 := Aside0.mk hB3
  have d1 : decide ((n : Int) < 0) = false := decide_eq_false (by omega)
  have d4 : decide ((65536 : Int) < (n : Int)) = false := decide_eq_false (by omega)
  have hlen := shuf_length s t a n
  have d2 : decide (m < 0) = true := decide_eq_true hm
  obtain ⟨a2, ha2⟩ : ∃ x, x = (shuf s t a n).2 := ⟨_, rfl⟩
  obtain ⟨l, hl⟩ : ∃ x, x = (shuf s t a n).1 := ⟨_, rfl⟩
  rw [← hl] at hlen
  have HA2 := Aside0.mk ha2
  have HLL := Aside0.mk hl
  have HL := Aside0.mk hlen
  clear hK hB hB3 hbs hm ha2 hl hlen
  go_enter Try.func23, Try.ntmps23
  go_wp2_with fail
  refine (Shuffle_calls s t a n _ hn).mono ?_
  rintro e w1 ⟨b, rfl, hI, hbb, hb⟩
  rw [← HA2.out]
  rw [← HLL.out] at hI
  have HI := Aside0.mk hI
  have HBB := Aside0.mk (show w.heap.size ≤ b by simp at hbb; omega)
  have G1 := Aside0.mk ((IsS23.new w w s t a (Below.refl _ _)).below hb)
  have HB1 := Aside0.mk (below_step ((Below.refl _ _).alloc (Nat.le_refl _) _) hb)
  have HBL := Aside0.mk (show b < w1.heap.size from blk_lt hI)
  clear hb hI hbb
  obtain ⟨hI0, _⟩ := G1.out
  have c0 := cellS23_0 hI0
  have c1 := cellS23_1 hI0
  have c2 := cellS23_2 hI0
  clear hI0
  have hlt : w.heap.size < w1.heap.size := G1.out.lt
  go_wp2_with fail
  refine (Pick_arg s t a n m _ (.inr (.inl HM.out))).mono ?_
  rintro e w2 ⟨rfl, hb⟩
  have G1 := Aside0.mk ((G1.out.alloc (.cells #[.int .i64 s, .int .i64 t, .int .i64 a2] 23)).below hb)
  have G2 := Aside0.mk ((IsS23.new w w1 s t a2 HB1.out).below hb)
  have HI := Aside0.mk ((HI.out.below (below_alloc (Below.refl _ _) (.cells #[.int .i64 s, .int .i64 t, .int .i64 a2] 23))).below hb)
  have HB2 := Aside0.mk (below_step (below_alloc HB1.out (.cells #[.int .i64 s, .int .i64 t, .int .i64 a2] 23)) hb)
  clear hb c0 c1 c2 hlt
  obtain ⟨hI0, _⟩ := G1.out
  have c0 := cellS23_0 hI0
  have c1 := cellS23_1 hI0
  have c2 := cellS23_2 hI0
  clear hI0
  have hlt : w.heap.size < w2.heap.size := G1.out.lt
  go_wp2_with fail
  refine (refShuffle_calls s t a n _ hn).mono ?_
  rintro e w4 ⟨v, rfl, hR, hb⟩
  rw [← HA2.out]
  rw [← HLL.out] at hR
  obtain ⟨Av, cv, hv, _, _⟩ := OwnInts.C hR
  rw [HL.out] at hv
  subst hv
  have G1 := Aside0.mk ((G1.out.alloc (.cells #[.int .i64 0, .int .i64 0, .int .i64 0] 23)).below hb)
  have G2 := Aside0.mk ((G2.out.alloc (.cells #[.int .i64 0, .int .i64 0, .int .i64 0] 23)).below hb)
  have G3 := Aside0.mk ((IsS23.new w w2 0 0 0 HB2.out).below hb)
  have HI := Aside0.mk ((HI.out.below (below_alloc (Below.refl _ _) (.cells #[.int .i64 0, .int .i64 0, .int .i64 0] 23))).below hb)
  have HB4 := Aside0.mk (below_step (below_alloc HB2.out (.cells #[.int .i64 0, .int .i64 0, .int .i64 0] 23)) hb)
  have HR := Aside0.mk (hR.low (base := base) (by have := HBS.out; have := HB2.out.size; simp; omega))
  clear hb hR c0 c1 c2 hlt
  obtain ⟨hI1, _⟩ := G2.out
  have e0 := cellS23_0 hI1
  have e1 := cellS23_1 hI1
  have e2 := cellS23_2 hI1
  clear hI1
  have hlt1 : w1.heap.size < w4.heap.size := G2.out.lt
  go_wp2_with fail
  have hBB5 := below_alloc HB4.out (.cells #[.int .i64 s, .int .i64 t, .int .i64 a2] 23)
  have hO := IsInts.own (HI.out.below (below_alloc (Below.refl _ _) (.cells #[.int .i64 s, .int .i64 t, .int .i64 a2] 23))) (base := base) (Nat.le_trans HBS.out HBB.out) (by rw [HL.out]; omega)
  rw [HL.out] at hO
  refine (AddY_calls base w0 _ g B n (· < w.heap.size) (some ⟨b, 0, none⟩) n l Av cv HL.out (HK.out.toY.below hBB5) (by have := HB3.out; omega) (by rw [HL.out]; exact hO) (fun k hk => by simp [Value.ownBlock] at hk; have := HBB.out; omega) (own_alloc HR.out _) (by omega) (HB.out.trans (hBB5.mono HBS.out)) (Nat.le_trans HBS.out hBB5.size)).mono ?_
  rintro e w6 ⟨rfl, hK6, hT6, hB6⟩
  have hT5 := hT6
  have HT6 := Aside0.mk (TyKeep.trans (TyKeep.of_below hBB5) hT6)
  have HB6 := Aside0.mk hB6
  have HK6 := Aside0.mk hK6
  have G1 := Aside0.mk (show IsS23 w w6 w.heap.size s t a from ⟨hT6.blk (G1.out.alloc (.cells #[.int .i64 s, .int .i64 t, .int .i64 a2] 23)).1 (by decide) (by decide), G1.out.2⟩)
  have G2 := Aside0.mk (show IsS23 w w6 w1.heap.size s t a2 from ⟨hT6.blk (G2.out.alloc (.cells #[.int .i64 s, .int .i64 t, .int .i64 a2] 23)).1 (by decide) (by decide), G2.out.2⟩)
  have G3 := Aside0.mk (show IsS23 w w6 w2.heap.size 0 0 0 from ⟨hT6.blk (G3.out.alloc (.cells #[.int .i64 s, .int .i64 t, .int .i64 a2] 23)).1 (by decide) (by decide), G3.out.2⟩)
  have G4 := Aside0.mk (show IsS23 w w6 w4.heap.size s t a2 from ⟨hT6.blk (IsS23.new w w4 s t a2 HB4.out).1 (by decide) (by decide), HB4.out.size⟩)
  clear hBB5 hO hK6 hT6 hB6 hT5 e0 e1 e2 hlt1
  obtain ⟨hI1, _⟩ := G2.out
  have e0 := cellS23_0 hI1
  have e1 := cellS23_1 hI1
  have e2 := cellS23_2 hI1
  obtain ⟨hI2, _⟩ := G4.out
  have r0 := cellS23_0 hI2
  have r1 := cellS23_1 hI2
  have r2 := cellS23_2 hI2
  obtain ⟨hI3, _⟩ := G3.out
  have q0 := cellS23_0 hI3
  have q1 := cellS23_1 hI3
  have q2 := cellS23_2 hI3
  obtain ⟨hI4, _⟩ := G1.out
  have c0 := cellS23_0 hI4
  have c1 := cellS23_1 hI4
  have c2 := cellS23_2 hI4
  clear hI1 hI2 hI3 hI4
  go_wp2
  go_ret
  exact ⟨rfl, HK6.out.toX.more (by omega), HT6.out, HB6.out⟩

set_option maxHeartbeats 1000000 in
set_option maxRecDepth 100000 in
theorem orders_half1 (base : Nat) (w0 w : World) (g B n : Nat) (s t a m : Int) (hK : KeepX base w g B) (hB3 : B < 298) (hB : Below base w0 w) (hbs : base ≤ w.heap.size) (hn : n ≤ 65536) (hm : 0 ≤ m ∧ (n : Int) < m) :
    Calls Try.prog 23 #[.pointer (some ⟨g, 0, none⟩), .agg #[.int .i64 s, .int .i64 t, .int .i64 a], .int .i64 n, .int .i64 m] w (OrdQ base w0 w g (B + 2)) := by
  have HK := Aside0.mk hK
  have HB := Aside0.mk hB
  have HBS := Aside0.mk hbs
  have HM := Aside0.mk hm
  have HB3 := Aside0.mk hB3
  have d1 : decide ((n : Int) < 0) = false := decide_eq_false (by omega)
  have d4 : decide ((65536 : Int) < (n : Int)) = false := decide_eq_false (by omega)
  have hlen := shuf_length s t a n
  have d2 : decide (m < 0) = false := decide_eq_false (by omega)
  have d3 : decide ((n : Int) < m) = true := decide_eq_true hm.2
  obtain ⟨a2, ha2⟩ : ∃ x, x = (shuf s t a n).2 := ⟨_, rfl⟩
  obtain ⟨l, hl⟩ : ∃ x, x = (shuf s t a n).1 := ⟨_, rfl⟩
  rw [← hl] at hlen
  have HA2 := Aside0.mk ha2
  have HLL := Aside0.mk hl
  have HL := Aside0.mk hlen
  clear hK hB hB3 hbs hm ha2 hl hlen
  go_enter Try.func23, Try.ntmps23
  go_wp2_with fail
  refine (Shuffle_calls s t a n _ hn).mono ?_
  rintro e w1 ⟨b, rfl, hI, hbb, hb⟩
  rw [← HA2.out]
  rw [← HLL.out] at hI
  have HI := Aside0.mk hI
  have HBB := Aside0.mk (show w.heap.size ≤ b by simp at hbb; omega)
  have G1 := Aside0.mk ((IsS23.new w w s t a (Below.refl _ _)).below hb)
  have HB1 := Aside0.mk (below_step ((Below.refl _ _).alloc (Nat.le_refl _) _) hb)
  have HBL := Aside0.mk (show b < w1.heap.size from blk_lt hI)
  clear hb hI hbb
  obtain ⟨hI0, _⟩ := G1.out
  have c0 := cellS23_0 hI0
  have c1 := cellS23_1 hI0
  have c2 := cellS23_2 hI0
  clear hI0
  have hlt : w.heap.size < w1.heap.size := G1.out.lt
  go_wp2_with fail
  refine (Pick_arg s t a n m _ (.inr (.inr HM.out.2))).mono ?_
  rintro e w2 ⟨rfl, hb⟩
  have G1 := Aside0.mk ((G1.out.alloc (.cells #[.int .i64 s, .int .i64 t, .int .i64 a2] 23)).below hb)
  have G2 := Aside0.mk ((IsS23.new w w1 s t a2 HB1.out).below hb)
  have HI := Aside0.mk ((HI.out.below (below_alloc (Below.refl _ _) (.cells #[.int .i64 s, .int .i64 t, .int .i64 a2] 23))).below hb)
  have HB2 := Aside0.mk (below_step (below_alloc HB1.out (.cells #[.int .i64 s, .int .i64 t, .int .i64 a2] 23)) hb)
  clear hb c0 c1 c2 hlt
  obtain ⟨hI0, _⟩ := G1.out
  have c0 := cellS23_0 hI0
  have c1 := cellS23_1 hI0
  have c2 := cellS23_2 hI0
  clear hI0
  have hlt : w.heap.size < w2.heap.size := G1.out.lt
  go_wp2_with fail
  refine (refShuffle_calls s t a n _ hn).mono ?_
  rintro e w4 ⟨v, rfl, hR, hb⟩
  rw [← HA2.out]
  rw [← HLL.out] at hR
  obtain ⟨Av, cv, hv, _, _⟩ := OwnInts.C hR
  rw [HL.out] at hv
  subst hv
  have G1 := Aside0.mk ((G1.out.alloc (.cells #[.int .i64 0, .int .i64 0, .int .i64 0] 23)).below hb)
  have G2 := Aside0.mk ((G2.out.alloc (.cells #[.int .i64 0, .int .i64 0, .int .i64 0] 23)).below hb)
  have G3 := Aside0.mk ((IsS23.new w w2 0 0 0 HB2.out).below hb)
  have HI := Aside0.mk ((HI.out.below (below_alloc (Below.refl _ _) (.cells #[.int .i64 0, .int .i64 0, .int .i64 0] 23))).below hb)
  have HB4 := Aside0.mk (below_step (below_alloc HB2.out (.cells #[.int .i64 0, .int .i64 0, .int .i64 0] 23)) hb)
  have HR := Aside0.mk (hR.low (base := base) (by have := HBS.out; have := HB2.out.size; simp; omega))
  clear hb hR c0 c1 c2 hlt
  obtain ⟨hI1, _⟩ := G2.out
  have e0 := cellS23_0 hI1
  have e1 := cellS23_1 hI1
  have e2 := cellS23_2 hI1
  clear hI1
  have hlt1 : w1.heap.size < w4.heap.size := G2.out.lt
  go_wp2_with fail
  have hBB5 := below_alloc HB4.out (.cells #[.int .i64 s, .int .i64 t, .int .i64 a2] 23)
  have hO := IsInts.own (HI.out.below (below_alloc (Below.refl _ _) (.cells #[.int .i64 s, .int .i64 t, .int .i64 a2] 23))) (base := base) (Nat.le_trans HBS.out HBB.out) (by rw [HL.out]; omega)
  rw [HL.out] at hO
  refine (AddY_calls base w0 _ g B n (· < w.heap.size) (some ⟨b, 0, none⟩) n l Av cv HL.out (HK.out.toY.below hBB5) (by have := HB3.out; omega) (by rw [HL.out]; exact hO) (fun k hk => by simp [Value.ownBlock] at hk; have := HBB.out; omega) (own_alloc HR.out _) (by omega) (HB.out.trans (hBB5.mono HBS.out)) (Nat.le_trans HBS.out hBB5.size)).mono ?_
  rintro e w6 ⟨rfl, hK6, hT6, hB6⟩
  have hT5 := hT6
  have HT6 := Aside0.mk (TyKeep.trans (TyKeep.of_below hBB5) hT6)
  have HB6 := Aside0.mk hB6
  have HK6 := Aside0.mk hK6
  have G1 := Aside0.mk (show IsS23 w w6 w.heap.size s t a from ⟨hT6.blk (G1.out.alloc (.cells #[.int .i64 s, .int .i64 t, .int .i64 a2] 23)).1 (by decide) (by decide), G1.out.2⟩)
  have G2 := Aside0.mk (show IsS23 w w6 w1.heap.size s t a2 from ⟨hT6.blk (G2.out.alloc (.cells #[.int .i64 s, .int .i64 t, .int .i64 a2] 23)).1 (by decide) (by decide), G2.out.2⟩)
  have G3 := Aside0.mk (show IsS23 w w6 w2.heap.size 0 0 0 from ⟨hT6.blk (G3.out.alloc (.cells #[.int .i64 s, .int .i64 t, .int .i64 a2] 23)).1 (by decide) (by decide), G3.out.2⟩)
  have G4 := Aside0.mk (show IsS23 w w6 w4.heap.size s t a2 from ⟨hT6.blk (IsS23.new w w4 s t a2 HB4.out).1 (by decide) (by decide), HB4.out.size⟩)
  clear hBB5 hO hK6 hT6 hB6 hT5 e0 e1 e2 hlt1
  obtain ⟨hI1, _⟩ := G2.out
  have e0 := cellS23_0 hI1
  have e1 := cellS23_1 hI1
  have e2 := cellS23_2 hI1
  obtain ⟨hI2, _⟩ := G4.out
  have r0 := cellS23_0 hI2
  have r1 := cellS23_1 hI2
  have r2 := cellS23_2 hI2
  obtain ⟨hI3, _⟩ := G3.out
  have q0 := cellS23_0 hI3
  have q1 := cellS23_1 hI3
  have q2 := cellS23_2 hI3
  obtain ⟨hI4, _⟩ := G1.out
  have c0 := cellS23_0 hI4
  have c1 := cellS23_1 hI4
  have c2 := cellS23_2 hI4
  clear hI1 hI2 hI3 hI4
  go_wp2
  go_ret
  exact ⟨rfl, HK6.out.toX.more (by omega), HT6.out, HB6.out⟩

end Go.Proofs.Ytpobladocccnmaa

/- The walk of pupillaw6.orders, n as it may be. -/
namespace Go.Proofs.Ytpobladocccnmaa
open Go.RowKit Mix PBase
open Go.Proofs.YtpobladocccnmaaW.PrintWords Go.Proofs.YtpobladocccnmaaW.PrintLast Go.Proofs.YtpobladocccnmaaW.PrintMore
set_option linter.unusedVariables false
set_option linter.unusedSimpArgs false

set_option maxHeartbeats 1000000 in
set_option maxRecDepth 100000 in
theorem orders_good (base : Nat) (w0 w : World) (g B n m : Nat) (s t a : Int) (hK : KeepX base w g B) (hB3 : B < 298) (hB : Below base w0 w) (hbs : base ≤ w.heap.size) (hn : n ≤ 65536) (hm : m ≤ n) :
    Calls Try.prog 23 #[.pointer (some ⟨g, 0, none⟩), .agg #[.int .i64 s, .int .i64 t, .int .i64 a], .int .i64 n, .int .i64 m] w (OrdQ base w0 w g (B + 2)) := by
  have HK := Aside0.mk hK
  have HB := Aside0.mk hB
  have HBS := Aside0.mk hbs
  have HM := Aside0.mk hm
  have HB3 := Aside0.mk hB3
  have d1 : decide ((n : Int) < 0) = false := decide_eq_false (by omega)
  have d4 : decide ((65536 : Int) < (n : Int)) = false := decide_eq_false (by omega)
  have hlen := shuf_length s t a n
  have hplen : (pickL s t a n m).length = m := by show (srt _).length = m; simp [srt, hlen]; omega
  have d2 : decide ((m : Int) < 0) = false := decide_eq_false (by omega)
  have d3 : decide (n < m) = false := decide_eq_false (by omega)
  obtain ⟨pl, hpl⟩ : ∃ x, x = pickL s t a n m := ⟨_, rfl⟩
  rw [← hpl] at hplen
  have HPL := Aside0.mk hpl
  have HPLen := Aside0.mk hplen
  clear hpl hplen
  obtain ⟨a2, ha2⟩ : ∃ x, x = (shuf s t a n).2 := ⟨_, rfl⟩
  obtain ⟨l, hl⟩ : ∃ x, x = (shuf s t a n).1 := ⟨_, rfl⟩
  rw [← hl] at hlen
  have HA2 := Aside0.mk ha2
  have HLL := Aside0.mk hl
  have HL := Aside0.mk hlen
  clear hK hB hB3 hbs hm ha2 hl hlen
  go_enter Try.func23, Try.ntmps23
  go_wp2_with fail
  refine (Shuffle_calls s t a n _ hn).mono ?_
  rintro e w1 ⟨b, rfl, hI, hbb, hb⟩
  rw [← HA2.out]
  rw [← HLL.out] at hI
  have HI := Aside0.mk hI
  have HBB := Aside0.mk (show w.heap.size ≤ b by simp at hbb; omega)
  have G1 := Aside0.mk ((IsS23.new w w s t a (Below.refl _ _)).below hb)
  have HB1 := Aside0.mk (below_step ((Below.refl _ _).alloc (Nat.le_refl _) _) hb)
  have HBL := Aside0.mk (show b < w1.heap.size from blk_lt hI)
  clear hb hI hbb
  obtain ⟨hI0, _⟩ := G1.out
  have c0 := cellS23_0 hI0
  have c1 := cellS23_1 hI0
  have c2 := cellS23_2 hI0
  clear hI0
  have hlt : w.heap.size < w1.heap.size := G1.out.lt
  go_wp2_with fail
  refine (Pick_calls s t a n m _ HM.out hn).mono ?_
  rintro e w2 ⟨pv, rfl, hP, hb⟩
  rw [← HPL.out] at hP
  rw [← HA2.out]
  obtain ⟨Ap, cp, hv, _, _⟩ := OwnInts.C hP
  rw [HPLen.out] at hv
  subst hv
  have HP := Aside0.mk (hP.low (base := w1.heap.size) (by simp))
  clear hP
  have G1 := Aside0.mk ((G1.out.alloc (.cells #[.int .i64 s, .int .i64 t, .int .i64 a2] 23)).below hb)
  have G2 := Aside0.mk ((IsS23.new w w1 s t a2 HB1.out).below hb)
  have HI := Aside0.mk ((HI.out.below (below_alloc (Below.refl _ _) (.cells #[.int .i64 s, .int .i64 t, .int .i64 a2] 23))).below hb)
  have HB2 := Aside0.mk (below_step (below_alloc HB1.out (.cells #[.int .i64 s, .int .i64 t, .int .i64 a2] 23)) hb)
  clear hb c0 c1 c2 hlt
  obtain ⟨hI0, _⟩ := G1.out
  have c0 := cellS23_0 hI0
  have c1 := cellS23_1 hI0
  have c2 := cellS23_2 hI0
  clear hI0
  have hlt : w.heap.size < w2.heap.size := G1.out.lt
  go_wp2_with fail
  refine (refShuffle_calls s t a n _ hn).mono ?_
  rintro e w4 ⟨v, rfl, hR, hb⟩
  rw [← HA2.out]
  rw [← HLL.out] at hR
  obtain ⟨Av, cv, hv, _, _⟩ := OwnInts.C hR
  rw [HL.out] at hv
  subst hv
  have G1 := Aside0.mk ((G1.out.alloc (.cells #[.int .i64 s, .int .i64 t, .int .i64 a2] 23)).below hb)
  have G2 := Aside0.mk ((G2.out.alloc (.cells #[.int .i64 s, .int .i64 t, .int .i64 a2] 23)).below hb)
  have G3 := Aside0.mk ((IsS23.new w w2 s t a2 HB2.out).below hb)
  have HI := Aside0.mk ((HI.out.below (below_alloc (Below.refl _ _) (.cells #[.int .i64 s, .int .i64 t, .int .i64 a2] 23))).below hb)
  have HB4 := Aside0.mk (below_step (below_alloc HB2.out (.cells #[.int .i64 s, .int .i64 t, .int .i64 a2] 23)) hb)
  have HR := Aside0.mk (hR.low (base := base) (by have := HBS.out; have := HB2.out.size; simp; omega))
  have HP := Aside0.mk (pw_own_below (own_alloc HP.out (.cells #[.int .i64 s, .int .i64 t, .int .i64 a2] 23)) hb)
  clear hb hR c0 c1 c2 hlt
  obtain ⟨hI1, _⟩ := G2.out
  have e0 := cellS23_0 hI1
  have e1 := cellS23_1 hI1
  have e2 := cellS23_2 hI1
  clear hI1
  have hlt1 : w1.heap.size < w4.heap.size := G2.out.lt
  go_wp2_with fail
  have hBB5 := below_alloc HB4.out (.cells #[.int .i64 s, .int .i64 t, .int .i64 a2] 23)
  have hO := IsInts.own (HI.out.below (below_alloc (Below.refl _ _) (.cells #[.int .i64 s, .int .i64 t, .int .i64 a2] 23))) (base := base) (Nat.le_trans HBS.out HBB.out) (by rw [HL.out]; omega)
  rw [HL.out] at hO
  refine (AddY_calls base w0 _ g B n (· < w.heap.size) (some ⟨b, 0, none⟩) n l Av cv HL.out (HK.out.toY.below hBB5) (by have := HB3.out; omega) (by rw [HL.out]; exact hO) (fun k hk => by simp [Value.ownBlock] at hk; have := HBB.out; omega) (own_alloc HR.out _) (by omega) (HB.out.trans (hBB5.mono HBS.out)) (Nat.le_trans HBS.out hBB5.size)).mono ?_
  rintro e w6 ⟨rfl, hK6, hT6, hB6⟩
  have hT5 := hT6
  have HT6 := Aside0.mk (TyKeep.trans (TyKeep.of_below hBB5) hT6)
  have HB6 := Aside0.mk hB6
  have HK6 := Aside0.mk hK6
  have G1 := Aside0.mk (show IsS23 w w6 w.heap.size s t a from ⟨hT6.blk (G1.out.alloc (.cells #[.int .i64 s, .int .i64 t, .int .i64 a2] 23)).1 (by decide) (by decide), G1.out.2⟩)
  have G2 := Aside0.mk (show IsS23 w w6 w1.heap.size s t a2 from ⟨hT6.blk (G2.out.alloc (.cells #[.int .i64 s, .int .i64 t, .int .i64 a2] 23)).1 (by decide) (by decide), G2.out.2⟩)
  have G3 := Aside0.mk (show IsS23 w w6 w2.heap.size s t a2 from ⟨hT6.blk (G3.out.alloc (.cells #[.int .i64 s, .int .i64 t, .int .i64 a2] 23)).1 (by decide) (by decide), G3.out.2⟩)
  have G4 := Aside0.mk (show IsS23 w w6 w4.heap.size s t a2 from ⟨hT6.blk (IsS23.new w w4 s t a2 HB4.out).1 (by decide) (by decide), HB4.out.size⟩)
  have HP := Aside0.mk (hT5.own (own_alloc HP.out (.cells #[.int .i64 s, .int .i64 t, .int .i64 a2] 23)))
  clear hBB5 hO hK6 hT6 hB6 hT5 e0 e1 e2 hlt1
  obtain ⟨hI1, _⟩ := G2.out
  have e0 := cellS23_0 hI1
  have e1 := cellS23_1 hI1
  have e2 := cellS23_2 hI1
  obtain ⟨hI2, _⟩ := G4.out
  have r0 := cellS23_0 hI2
  have r1 := cellS23_1 hI2
  have r2 := cellS23_2 hI2
  obtain ⟨hI3, _⟩ := G3.out
  have q0 := cellS23_0 hI3
  have q1 := cellS23_1 hI3
  have q2 := cellS23_2 hI3
  obtain ⟨hI4, _⟩ := G1.out
  have c0 := cellS23_0 hI4
  have c1 := cellS23_1 hI4
  have c2 := cellS23_2 hI4
  clear hI1 hI2 hI3 hI4
  have hl6 : w.heap.size < w6.heap.size := G1.out.lt
  have hl61 : w1.heap.size < w6.heap.size := G2.out.lt
  have hl62 : w2.heap.size < w6.heap.size := G3.out.lt
  have hl64 : w4.heap.size < w6.heap.size := G4.out.lt
  go_wp2_with fail
  refine (refPick_calls s t a n m _ HM.out hn).mono ?_
  rintro e w7 ⟨v, rfl, hR, hb⟩
  rw [← HA2.out]
  have hE : srt ((shuf s t a n).1.take m) = pl := HPL.out.symm
  rw [hE] at hR
  obtain ⟨Aq, cq, hv, _, _⟩ := OwnInts.C hR
  rw [HPLen.out] at hv
  subst hv
  have HR7 := Aside0.mk (hR.low (base := base) (Nat.le_trans HBS.out (Nat.le_of_lt (Nat.lt_of_le_of_lt (by omega) hl6))))
  have HP7 := Aside0.mk (pw_own_below HP.out hb)
  have HB7 := Aside0.mk (hb)
  have G3 := Aside0.mk (G3.out.below hb)
  clear hb hR c0 c1 c2 e0 e1 e2 r0 r1 r2 q0 q1 q2 G1 G2 G4
  obtain ⟨hI3, _⟩ := G3.out
  have q0 := cellS23_0 hI3
  have q1 := cellS23_1 hI3
  have q2 := cellS23_2 hI3
  have hl72 : w2.heap.size < w7.heap.size := G3.out.lt
  clear hI3
  go_wp2_with fail
  have hBB8 := below_alloc HB7.out (.cells #[.int .i64 s, .int .i64 t, .int .i64 a2] 23)
  refine (AddY_calls base w0 _ g (B + 1) m _ Ap cp pl Aq cq HPLen.out (HK6.out.below hBB8) (by have := HB3.out; omega) (own_less (own_alloc HP7.out _) (by have := HBS.out; have := HB1.out.size; omega)) (fun k hk => by have h1 := own_base HP7.out k hk; have h2 := HBL.out; have h3 := HB1.out.size; rintro (h4 | h4); exact absurd h4 (by omega); simp [Value.ownBlock] at h4; omega) (own_alloc HR7.out _) (by have := HM.out; omega) (HB6.out.trans (hBB8.mono (Nat.le_trans HBS.out (by omega)))) (Nat.le_trans (Nat.le_trans HBS.out (by omega)) hBB8.size)).mono ?_
  rintro e w9 ⟨rfl, hK9, hT9, hB9⟩
  have HT9 := Aside0.mk (HT6.out.trans (TyKeep.trans (TyKeep.of_below hBB8) hT9))
  have HB9 := Aside0.mk hB9
  have HK9 := Aside0.mk hK9
  have G3 := Aside0.mk (show IsS23 w w9 w2.heap.size s t a2 from ⟨hT9.blk (G3.out.alloc (.cells #[.int .i64 s, .int .i64 t, .int .i64 a2] 23)).1 (by decide) (by decide), G3.out.2⟩)
  have G5 := Aside0.mk (show IsS23 w7 w9 w7.heap.size s t a2 from ⟨hT9.blk (IsS23.new w7 w7 s t a2 (Below.refl _ _)).1 (by decide) (by decide), Nat.le_refl _⟩)
  clear hBB8 hK9 hT9 hB9 q0 q1 q2 hl6 hl61 hl62 hl64 hl72
  obtain ⟨hI3, _⟩ := G3.out
  have q0 := cellS23_0 hI3
  have q1 := cellS23_1 hI3
  have q2 := cellS23_2 hI3
  obtain ⟨hI5, _⟩ := G5.out
  have r0 := cellS23_0 hI5
  have r1 := cellS23_1 hI5
  have r2 := cellS23_2 hI5
  clear hI3 hI5
  go_wp2
  go_ret
  exact ⟨rfl, HK9.out.toX, HT9.out, HB9.out⟩

end Go.Proofs.Ytpobladocccnmaa
