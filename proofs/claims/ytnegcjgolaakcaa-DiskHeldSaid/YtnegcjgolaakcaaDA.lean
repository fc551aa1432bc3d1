/- Chapter 24, plainly: a disk as a list of files, each with two pictures, and a list of works. -/
import Derived.Test.YtnegcjgolaakcaaProg
import Derived.Below
import Derived.Deep.Draws
import Derived.Deep.AppendLies
import Derived.Maps.AppendAt
import Derived.OwnWalk
import Derived.Laws.BytesArg
import Derived.Laws.MakeOwn
import Derived.Laws.OwnMore
import Derived.Deep.OwnRows
import Derived.Tactics
import Derived.Lib.ConvBytes
import Derived.Laws.Slices
import Derived.WalkKit
import Derived.KernelRfl
import Derived.RowKit3
import Derived.Deep.LoopGhost
import Derived.Deep.QuietTactic
import Derived.BigQuiet
import Derived.WideLaws
import Derived.Deep.DeepCutAuto
import Derived.Deep.CutBlock
import Derived.Deep.RegionHeld3
import Derived.Laws.Rows
import Derived.Lib.AppendStr
import Derived.ArgAppend
import Derived.Laws.IdiomCopy
import Derived.OrdersHeld
import Derived.Laws.BitsLemmas
import Derived.RowKit
import Derived.Test.YtnegcjgolaakcaaWWords
import Derived.Test.YtnegcjgolaakcaaWLast
import Derived.Test.YtnegcjgolaakcaaWTab
import Derived.Test.YtnegcjgolaakcaaWFour
import Derived.Test.YtnegcjgolaakcaaWQPut
import Derived.Test.YtnegcjgolaakcaaWApart
import Derived.Test.YtnegcjgolaakcaaWArr
import Derived.Test.YtnegcjgolaakcaaWZeros
import Derived.Test.YtnegcjgolaakcaaWFoot
import Derived.Test.YtnegcjgolaakcaaWKept
import Derived.Test.YtnegcjgolaakcaaWShare
import Derived.Test.YtnegcjgolaakcaaWN
import Derived.Test.YtnegcjgolaakcaaWFootNe
import Derived.Test.YtnegcjgolaakcaaWAt
import Derived.Test.YtnegcjgolaakcaaWRepsOne
import Derived.Test.YtnegcjgolaakcaaWNEv
import Derived.Test.YtnegcjgolaakcaaWMore
import Derived.Maps.OwnSet
import Derived.Maps.RangeWalk
import Derived.Lib.SliceRun
import Derived.Laws.RangeAny
import Derived.Laws.Strings
import Derived.Sort.KeysCollected
namespace Go.Proofs.Ytnegcjgolaakcaa
/-- A file: its names (none: the empty one) and bytes, as they are, and as they are fast. -/
structure PF where
  name : ByteArray
  fast : ByteArray
  now : List Int
  old : List Int
/-- What is pending. -/
structure PW where
  kind : Int
  nm : ByteArray
  tgt : ByteArray
  len : Int
  file : Nat
  b : List Int
structure DS where
  files : List PF
  works : List PW
  names : Int
  room : Int
  off : Bool
  left : Int
/-- the bytes that a name may have -/
def goodB (c : UInt8) : Bool := (97 ≤ c && c ≤ 122) || (48 ≤ c && c ≤ 57) || c == 45 || c == 46 || c == 95
def namedV (s : ByteArray) : Bool := s.data.toList.all goodB && (1 ≤ s.size && s.size ≤ 32)
def nameless : ByteArray := ByteArray.empty
namespace DS
/-- the file with a name -/
def find (s : DS) (n : ByteArray) : Option Nat := s.files.findIdx? (fun f => f.name = n)
def count (s : DS) : Nat := (s.files.filter (fun f => f.name ≠ nameless)).length
def used (s : DS) : Nat := ((s.files.filter (fun f => f.name ≠ nameless)).map (fun f => f.now.length)).sum
/-- one more step was made -/
def tick (s : DS) : DS := if 0 < s.left then { s with left := s.left - 1, off := s.left - 1 = 0 } else s
/-- names, power, then something is done; then a step was made -/
def step (s : DS) (ns : List ByteArray) (act : DS → Int × DS) : Int × DS :=
  if ns.all namedV then
    if s.off then (63, s) else
    if (act s).1 = 0 then (0, (act s).2.tick) else act s
  else (61, s)
/-- a file that has not been there -/
def fresh (s : DS) (n : ByteArray) : DS :=
  match s.find n with
  | some _ => s
  | none => { s with files := s.files ++ [⟨n, nameless, [], []⟩], works := s.works ++ [⟨3, nameless, n, 0, s.files.length, []⟩] }
def spot (s : DS) (n : ByteArray) : Nat := (s.find n).getD s.files.length
def setNow (s : DS) (k : Nat) (b : List Int) : DS := { s with files := s.files.modify k (fun f => { f with now := b }) }
def setOld (s : DS) (k : Nat) (b : List Int) : DS := { s with files := s.files.modify k (fun f => { f with old := b }) }
def setName (s : DS) (k : Nat) (n : ByteArray) : DS := { s with files := s.files.modify k (fun f => { f with name := n }) }
def setFast (s : DS) (k : Nat) (n : ByteArray) : DS := { s with files := s.files.modify k (fun f => { f with fast := n }) }
def add (s : DS) (w : PW) : DS := { s with works := s.works ++ [w] }
def nowAt (s : DS) (k : Nat) : List Int := (s.files[k]?.map PF.now).getD []
def oldAt (s : DS) (k : Nat) : List Int := (s.files[k]?.map PF.old).getD []
def fastAt (s : DS) (k : Nat) : ByteArray := (s.files[k]?.map PF.fast).getD nameless
/-- how much there would be -/
def wantN (s : DS) (n : ByteArray) : Int := s.count + (if (s.find n).isNone then 1 else 0)
def wantB (s : DS) (kind : Int) (n : ByteArray) (b : List Int) : Int :=
  (s.used : Int) + b.length - (match s.find n with | some k => if kind = 1 then ((s.nowAt k).length : Int) else 0 | none => 0)
def put (s : DS) (kind : Int) (n : ByteArray) (b : List Int) : Int × DS :=
  if s.wantN n > s.names ∨ s.wantB kind n b > s.room then (62, s)
  else (0, ((s.fresh n).setNow (s.spot n) ((if kind = 1 then [] else (s.fresh n).nowAt (s.spot n)) ++ b)).add ⟨kind, n, nameless, b.length, s.spot n, b⟩)
/-- a work is made fast, so many of its bytes -/
def work (s : DS) (w : PW) (n : Nat) : DS :=
  if w.kind = 3 then { s with files := (s.files.map (fun f => if f.fast = w.tgt then { f with fast := nameless } else f)).modify w.file (fun f => { f with fast := w.tgt }) }
  else if w.kind = 4 then (if s.fastAt w.file = w.nm then s.setFast w.file nameless else s)
  else s.setOld w.file ((if w.kind = 1 then [] else s.oldAt w.file) ++ w.b.take n)
def settle (s : DS) (is : PW → Bool) : DS :=
  { (s.works.filter is).foldl (fun s w => s.work w w.b.length) s with works := s.works.filter (fun w => !is w) }
def ofBytes (k : Nat) (w : PW) : Bool := w.file = k ∧ w.kind ≤ 2
def ofNames (w : PW) : Bool := 3 ≤ w.kind
def flush (s : DS) (n : ByteArray) : Int × DS :=
  match s.find n with
  | some k => (0, s.settle (ofBytes k))
  | none => (60, s)
def rename (s : DS) (a b : ByteArray) : Int × DS :=
  match s.find a with
  | some k => if a = b then (0, s) else
      (0, ((match s.find b with | some j => s.setName j nameless | none => s).setName k b).add ⟨3, a, b, 0, k, []⟩)
  | none => (60, s)
def remove (s : DS) (n : ByteArray) : Int × DS :=
  match s.find n with
  | some k => (0, (s.setName k nameless).add ⟨4, n, nameless, 0, k, []⟩)
  | none => (60, s)
def fuse (s : DS) (n : Int) : Int × DS :=
  if n < 0 then (1, s) else if s.off then (63, s) else (0, { s with left := n, off := n = 0 })
def read (s : DS) (n : ByteArray) : List Int × Int :=
  if namedV n then if s.off then ([], 63) else
    match s.find n with
    | some k => (s.nowAt k, 0)
    | none => ([], 60)
  else ([], 61)
def replay (s : DS) (keep : List Int) : DS :=
  (s.works.zip keep).foldl (fun s p => if 0 < p.2 then s.work p.1 p.2.toNat else s) s
def crash (s : DS) (keep : List Int) : DS :=
  { files := ((s.replay keep).files.filter (fun f => f.fast ≠ nameless)).map (fun f => { f with name := f.fast, now := f.old }), works := [], names := s.names, room := s.room, off := false, left := -1 }
def new (files bytes : Int) : DS := { files := [], works := [], names := files, room := bytes, off := false, left := -1 }
def Write (s : DS) (n : ByteArray) (b : List Int) : Int × DS := s.step [n] (fun s => s.put 1 n b)
def Append (s : DS) (n : ByteArray) (b : List Int) : Int × DS := s.step [n] (fun s => s.put 2 n b)
def Flush (s : DS) (n : ByteArray) : Int × DS := s.step [n] (fun s => s.flush n)
def Rename (s : DS) (a b : ByteArray) : Int × DS := s.step [a, b] (fun s => s.rename a b)
def Remove (s : DS) (n : ByteArray) : Int × DS := s.step [n] (fun s => s.remove n)
def Sync (s : DS) : Int × DS := s.step [] (fun s => (0, s.settle ofNames))
def Free (s : DS) : Int × Int := if s.off then (0, 0) else (s.names - s.count, s.room - s.used)
/-- what is kept of a disk: names are no one's twice, works are of files that are there, and there is no more than T of anything -/
structure Inv (T : Nat) (s : DS) : Prop where
  nm : s.files.Pairwise (fun f g => f.name = g.name → f.name = nameless)
  fs : s.files.Pairwise (fun f g => f.fast = g.fast → f.fast = nameless)
  wf : ∀ w ∈ s.works, w.file < s.files.length
  kinds : ∀ w ∈ s.works, w.kind = 1 ∨ w.kind = 2 ∨ (w.kind = 3 ∧ namedV w.tgt = true) ∨ (w.kind = 4 ∧ namedV w.nm = true)
  okn : ∀ f ∈ s.files, f.name = nameless ∨ namedV f.name = true
  okf : ∀ f ∈ s.files, f.fast = nameless ∨ namedV f.fast = true
  lf : s.files.length ≤ T
  lw : s.works.length ≤ T
  now : (s.files.map (fun f => f.now.length)).sum ≤ T
  old : (s.files.map (fun f => f.old.length)).sum + (s.works.map (fun w => w.b.length)).sum ≤ T
  left : -1 ≤ s.left ∧ s.left ≤ 9223372036854775807
  names : 1 ≤ s.names ∧ s.names ≤ 64
  room : 0 ≤ s.room ∧ s.room ≤ 4194304
end DS
end Go.Proofs.Ytnegcjgolaakcaa


/- What a disk is in memory: kinds, the map's elements, facts of the dump. -/
namespace Go.Proofs.Ytnegcjgolaakcaa
open Go.RowKit Go.Maps
open Go.Proofs.YtnegcjgolaakcaaW.PrintWords Go.Proofs.YtnegcjgolaakcaaW.PrintLast Go.Proofs.YtnegcjgolaakcaaW.PrintMore
set_option linter.unusedVariables false
set_option linter.unusedSimpArgs false
theorem info3 : (Try.prog.info? 3).map (fun i => (i.zero, i.size, i.bytes)) = some (some (.int .i64 0), 1, 8) := by kernel_rfl
theorem info5 : (Try.prog.info? 5).map (fun i => (i.zero, i.size, i.bytes)) = some (some (.int .u8 0), 1, 1) := by kernel_rfl
theorem info9 : (Try.prog.info? 9).map (fun i => (i.zero, i.size, i.bytes)) = some (some (.string ⟨#[]⟩), 1, 16) := by kernel_rfl
theorem info30 : (Try.prog.info? 30).map (fun i => (i.zero, i.size, i.bytes)) = some (some (.slice none 0 0), 1, 24) := by kernel_rfl
theorem info76 : (Try.prog.info? 76).map (fun i => (i.zero, i.size, i.bytes)) = some (some (.agg #[.int .i64 0, .string ⟨#[]⟩, .string ⟨#[]⟩, .int .i64 0, .pointer none, .slice none 0 0]), 6, 80) := by kernel_rfl
abbrev IsB (W : World) (g : Nat) (cs : Array Value) (t : Nat) : Prop := W.heap[g]? = some (.cells cs t (0, 0))
abbrev bK : Kd Int := Kd.int .u8
abbrev ptrV (b : Nat) : Value := .pointer (some ⟨b, 0, none⟩)
/-- a pointer to the beginning of a block -/
def ptrK : Kd Nat := Kd.scalar ptrV (fun _ => rfl)
/-- a work as it lies in memory: its file is a block -/
structure MW where
  kind : Int
  nm : ByteArray
  tgt : ByteArray
  len : Int
  f : Nat
  b : List Int
def workK : Kd MW := Kd.iso (Kd.pair (Kd.int .i64) (Kd.pair Kd.string (Kd.pair Kd.string (Kd.pair (Kd.int .i64) (Kd.pair ptrK (Kd.slice 5 bK)))))) (fun x : MW => (x.kind, x.nm, x.tgt, x.len, x.f, x.b))
theorem workK_E : workK.E = [5] := rfl
theorem workK_sz : workK.sz = 6 := rfl
theorem workK_open {w : World} {x : MW} {cs : List Value} (h : workK.K w x cs) : ∃ A c, cs = [.int .i64 x.kind, .string x.nm, .string x.tgt, .int .i64 x.len, ptrV x.f, .slice A x.b.length c] ∧ x.b.length ≤ c ∧ bK.C w A x.b.length x.b := by
  obtain ⟨_, _, rfl, rfl, ⟨_, _, rfl, rfl, ⟨_, _, rfl, rfl, ⟨_, _, rfl, rfl, ⟨_, _, rfl, rfl, ⟨A, c, rfl, l, g⟩⟩⟩⟩⟩⟩ := h
  exact ⟨A, c, rfl, l, g⟩
theorem workK_openM {w : World} {base : Nat} {ok : Nat → Prop} {x : MW} {cs : List Value} (h : workK.M w base ok x cs) : ∃ v, cs = [.int .i64 x.kind, .string x.nm, .string x.tgt, .int .i64 x.len, ptrV x.f, v] ∧ bK.R 5 w base ok v x.b := by
  obtain ⟨_, _, rfl, rfl, ⟨_, _, rfl, rfl, ⟨_, _, rfl, rfl, ⟨_, _, rfl, rfl, ⟨_, _, rfl, rfl, ⟨v, rfl, g⟩⟩⟩⟩⟩⟩ := h
  exact ⟨v, rfl, g⟩
theorem workK_mkM (w : World) (base : Nat) (ok : Nat → Prop) (x : MW) {v : Value} (g : bK.R 5 w base ok v x.b) : workK.M w base ok x [.int .i64 x.kind, .string x.nm, .string x.tgt, .int .i64 x.len, ptrV x.f, v] :=
  ⟨_, _, rfl, rfl, ⟨_, _, rfl, rfl, ⟨_, _, rfl, rfl, ⟨_, _, rfl, rfl, ⟨_, _, rfl, rfl, ⟨v, rfl, g⟩⟩⟩⟩⟩⟩
/-! ### the maps: a file reads as its block's number -/
abbrev DU := DataW Unit
def ptrD (b : Nat) : DU := .lit (.int .i64 b)
def filE (v : Value) : Option (DU × List MemPlace) :=
  match v with
  | .pointer none => some (.nil, [])
  | .pointer (some ⟨b, 0, none⟩) => some (ptrD b, [])
  | _ => none
theorem filE_nil : filE (.pointer none) = some (.nil, []) := rfl
theorem filE_ptr (b : Nat) : filE (ptrV b) = some (ptrD b, []) := rfl
theorem filE_inv {v : Value} {z : DU × List MemPlace} (h : filE v = some z) : (v = .pointer none ∧ z.1 = .nil) ∨ ∃ b, v = ptrV b ∧ z.1 = ptrD b := by
  unfold filE at h
  split at h
  · cases h; exact .inl ⟨rfl, rfl⟩
  · cases h; exact .inr ⟨_, rfl, rfl⟩
  · cases h
theorem keyLaw : Keyed Try.prog 9 := string_keyed Try.underlying9
theorem zeroF (w : World) : (zeroValue 71).run Try.prog w = .ok (.pointer none) w := by kernel_rfl
abbrev key (n : ByteArray) : Lit := .string n.data.toList
theorem key_of {n : ByteArray} (hn : n.size ≤ maxLen) : keyOf Try.prog 9 (.string n) = some (key n) := Go.WideMaps.keyOf_string_mk Try.underlying9 hn
end Go.Proofs.Ytnegcjgolaakcaa

/- slices.Clone, bytes.Clone, slices.Grow, slices.Concat at bytes. -/
namespace Go.Proofs.Ytnegcjgolaakcaa
open Go.RowKit Go.Maps
open Go.Proofs.YtnegcjgolaakcaaW.PrintWords Go.Proofs.YtnegcjgolaakcaaW.PrintLast Go.Proofs.YtnegcjgolaakcaaW.PrintMore
set_option linter.unusedVariables false
set_option linter.unusedSimpArgs false
theorem grown_none {W W' : World} (hg : W.grownBy W' none) : Below W.heap.size W W' := (Below.refl _ _).grown hg (Nat.le_refl _) (fun k hk => by cases hk)
theorem R_empty (w : World) (base : Nat) (hb : base ≤ w.heap.size) : bK.R 5 (w.alloc (.cells #[] 5)) base (fun _ => True) (.slice (some ⟨w.heap.size, 0, none⟩) 0 0) [] := by
  refine ⟨fun _ _ => trivial, [], ⟨rfl, .inr ⟨w.heap.size, 0, #[], rfl, hb, ?_, ?_, ?_, ?_, ?_⟩⟩, Reps.none _ _⟩
  · exact blk_new w (.cells #[] 5)
  all_goals first | decide | rfl | simp
theorem C_bK_M {w : World} {A : Option Addr} {n : Nat} {l : List Int} (h : bK.C w A n l) : ReadsRow (bK.K w) bK.sz w A n l := h
set_option maxHeartbeats 4000000 in
set_option maxRecDepth 100000 in
theorem clone_calls (A : Option Addr) (c : Nat) (l : List Int) (w : World) (hC : bK.C w A l.length l) (hl : l.length ≤ 1099511627776) :
    Calls Try.prog 53 #[.slice A l.length c] w fun e w' => ∃ v, e = .returned v ∧ bK.R 5 w' w.heap.size (fun _ => True) v l ∧ Below w.heap.size w w' := by
  have HC := Aside0.mk hC
  have HL := Aside0.mk hl
  have hN : A = none → l = [] := by
    rintro rfl
    rcases l with _ | ⟨x, l⟩
    · rfl
    · obtain ⟨_, h, _⟩ := hC.2.2 (by simp)
      cases h
  clear hC hl
  cases A with
  | none =>
    obtain rfl := hN rfl
    clear hN
    go_enter Try.func53, Try.ntmps53
    have hq := fun (W : World) => Go.Lib.run_eql_slice_nil (P := Try.prog) W 30 5 none 0 c 0 0 Try.underlying30
    go_wp2_with fail
    go_ret
    exact ⟨_, rfl, Kd.R_nil _ _ _ _ _, Below.refl _ _⟩
  | some ad =>
    clear hN
    obtain ⟨n, hn⟩ : ∃ n, n = l.length := ⟨_, rfl⟩
    rw [← hn] at HC HL ⊢
    have HN := Aside0.mk hn
    clear hn
    go_enter Try.func53, Try.ntmps53
    have hq := fun (W : World) => Go.Lib.run_eql_slice_nil (P := Try.prog) W 30 5 (some ad) n c 0 0 Try.underlying30
    have hr : bK.R 5 (w.alloc (.cells #[] 5)) w.heap.size (fun _ => True) (.slice (some ⟨w.heap.size, 0, none⟩) 0 0) [] := R_empty w _ (Nat.le_refl _)
    have HR := Aside0.mk hr
    clear hr
    go_wp2_with ((with_reducible refine gate_builtin (b := .append) (xs := #[.tmp 5, .tmp 6]) rfl ?_); at_builtin; refine Kd.R_append_rows bK (w0 := w) w.heap.size rfl (.tmp 5) (.tmp 6) 30 5 (.int .u8 0) 1 rfl Try.underlying30 info5 rfl (by decide) (by decide) (.slice (some ⟨w.heap.size, 0, none⟩) 0 0) [] l (some ad) n c (fun _ => True) (fun _ => False) rfl rfl HR.out (Kd.C_below HC.out (below_alloc (Below.refl _ _) _)) (fun _ _ h => h) (fun _ h => h.elim) (fun _ _ => trivial) (below_alloc (Below.refl _ _) _) (by simp) (by have := HL.out; simp; omega) ?_; intro v1 w1 hR1 hb1 hg1 _)
    go_ret
    exact ⟨_, rfl, hR1, hb1⟩
/-- append(nil, make([]T, m)...): a row of the call's own, as long as it may be. -/
theorem run_make_nil {P : Program} (w : World) (base : Nat) (t ti ty e : TypeId) (i : TypeInfo) (z : Value) (ht : P.underlying t = some (.slice e)) {k : IntKind} (hti : P.underlying ti = some (.int k)) (hi : P.info? e = some i) (hz : i.zero = some z)
    (hsize : i.size = 1) (hzs : z.cells.size = 1) (hb0 : 0 < i.bytes) (kx : IntKind) (m : Nat) (hm0 : 0 < m) (hbytes : m * i.bytes ≤ 140737488355328) (hbase : base ≤ w.heap.size) :
    ∃ c1 w', (Builtin.append_ #[t, ti] ty #[.slice none 0 0, .int kx m]).run P w = .ok (.slice (some ⟨w.heap.size, 0, none⟩) m c1) w' ∧ m ≤ c1 ∧ w'.ownsRow base e 1 (.slice (some ⟨w.heap.size, 0, none⟩) 0 c1) 0 [] ∧ w.grownBy w' none := by
  have hle : m ≤ 140737488355328 := Nat.le_trans (Nat.le_mul_of_pos_right _ hb0) hbytes
  have hw : IntKind.i64.wrap (m : Int) = m := by rw [IntKind.wrap_i64]; omega
  have hneg : ¬ ((m : Int) < 0) := by omega
  have hbig : ¬ (281474976710656 < (m : Int) * (i.bytes : Int)) := by
    rw [← Int.natCast_mul]
    omega
  obtain ⟨news, hnews⟩ : ∃ news, news = (Builtin.zeroCells z.cells m).toList := ⟨_, rfl⟩
  have hl : news.length = m := by rw [hnews, Array.length_toList, size_zeroCells, hzs, Nat.mul_one]
  have hna : Builtin.zeroCells z.cells m = news.toArray := by rw [hnews]
  have hmz : ¬ m = 0 := by omega
  have h63' : ¬ (9223372036854775807 < (m : Int)) := by omega
  have hfit := growslice_fits (old := 0) (need := m) (bytes := i.bytes) hm0 hbytes
  have h48' : ¬ (281474976710656 < Builtin.nextslicecap m 0 * i.bytes) := by omega
  have hge := grownCap_ge w m 0 e
  refine ⟨grownCap w m 0 e, w.drew.alloc (.cells (news.toArray ++ Builtin.zeroCells z.cells (grownCap w m 0 e - m)) e), ?_, hge, ⟨rfl, .inr ⟨w.heap.size, _, _, rfl, hbase, heap_alloc_new w.drew _, Nat.zero_le _, grownCap_le_maxLen w m 0 e (by simp only [maxLen]; omega), ?_, by simp⟩⟩, ⟨rfl, rfl, rfl, by simp, fun k hk _ => heap_alloc_old w.drew _ hk⟩⟩
  · simp [Builtin.append_, run_underlying ht, run_underlying hti, sizeOf, typeInfo, zeroValue, hi, hz, asInt, asIntOf, hw, hneg, hbig, h63', h48', Question.forced, newRow, grownCap, hmz, hna, hsize, Builtin.firstCells, loadCells, loadCellsFrom]
  · simp only [Array.size_append, List.size_toArray, size_zeroCells, hzs, hl]
    omega
theorem grow_nil {P : Program} {ops : Array Oper} {rest : List Oper} {o : Oper} {a : Act} {Q : Exit → Act → World → Prop} {W : World} (base : Nat) (hgd : o.guard = none) (s x : Operand) (t ti e : TypeId) (kz : IntKind) (bytes : Nat)
    (ho : o.op = .call { callee := .builtin .append, args := #[s, x], argTypes := #[t, ti] })
    (ht : P.underlying t = some (.slice e)) {k : IntKind} (hti : P.underlying ti = some (.int k)) (hinfo : (P.info? e).map (fun i => (i.zero, i.size, i.bytes)) = some (some (.int kz 0), 1, bytes)) (hb0 : 0 < bytes)
    (m : Nat) (hm0 : 0 < m) (hs : a.eval s = .slice none 0 0) (hx : a.eval x = .int .i64 m) (hbytes : m * bytes ≤ 140737488355328) (hbase : base ≤ W.heap.size)
    (h : ∀ c1 w1, m ≤ c1 → w1.ownsRow base e 1 (.slice (some ⟨W.heap.size, 0, none⟩) 0 c1) 0 [] → W.grownBy w1 none → wpList P ops Q rest (a.put o.dst (.slice (some ⟨W.heap.size, 0, none⟩) m c1)) w1) : wpList P ops Q (o :: rest) a W := by
  obtain ⟨i0, hi, hzz⟩ := Option.map_eq_some_iff.1 hinfo
  simp only [Prod.mk.injEq] at hzz
  obtain ⟨hz0, hz1, hz2⟩ := hzz
  obtain ⟨c1, w1, hr, hle, how, hg⟩ := run_make_nil (P := P) W base t ti o.type e i0 (.int kz 0) ht hti hi hz0 hz1 rfl (by omega) .i64 m hm0 (by rw [hz2]; exact hbytes) hbase
  refine wpList_plain hgd fun K hK => ?_
  unfold Oper.wp execOp
  simp only [ho, resolve, invoke, builtin, Sem.run_bind, Sem.run_pure, Result.andThen_ok, List.map_toArray, List.map_cons, List.map_nil, hs, hx, hr]
  exact hK _ _ (h c1 w1 hle how hg)
set_option maxHeartbeats 4000000 in
set_option maxRecDepth 100000 in
theorem grow_calls (n : Nat) (w : World) (hn : n ≤ 1099511627776) :
    Calls Try.prog 92 #[.slice none 0 0, .int .i64 n] w fun e w' => ∃ v, e = .returned v ∧ bK.R 5 w' w.heap.size (fun _ => True) v [] ∧ Below w.heap.size w w' := by
  have HN := Aside0.mk hn
  clear hn
  rcases Nat.eq_zero_or_pos n with rfl | hp
  · go_enter Try.func92, Try.ntmps92
    go_wp2_with fail
    go_ret
    exact ⟨_, rfl, Kd.R_nil _ _ _ _ _, Below.refl _ _⟩
  · have HP := Aside0.mk hp
    have dw : wrap64 (n : Int) = (n : Int) := by have := HN.out; unfold wrap64; omega
    have d0 : decide ((n : Int) < 0) = false := decide_eq_false (by omega)
    have d1 : ((0 : Int) < (n : Int)) = True := eq_true (by omega)
    go_enter Try.func92, Try.ntmps92
    go_wp2_with ((with_reducible refine gate_builtin (b := .append) (xs := #[.tmp 20, .tmp 21]) rfl ?_); refine grow_nil w.heap.size rfl (.tmp 20) (.tmp 21) 30 3 5 .u8 1 rfl Try.underlying30 Try.underlying3 info5 (by decide) n HP.out rfl ?hx (by have := HN.out; omega) (Nat.le_refl _) ?_; (case hx => exact congrArg (Value.int .i64) (by first | rfl | exact dw | (rw [dw]; exact dw) | (rw [dw, dw]))); intro c1 w1 hc1 ho1 hg1; have HO1 := Aside0.mk ho1; have HG1 := Aside0.mk hg1; clear ho1 hg1)
    go_ret
    exact ⟨_, rfl, ⟨fun _ _ => trivial, [], HO1.out, Reps.none _ _⟩, grown_none HG1.out⟩
end Go.Proofs.Ytnegcjgolaakcaa

/- slices.Concat at bytes. -/
namespace Go.Proofs.Ytnegcjgolaakcaa
open Go.RowKit Go.Maps
open Go.Proofs.YtnegcjgolaakcaaW.PrintWords Go.Proofs.YtnegcjgolaakcaaW.PrintLast Go.Proofs.YtnegcjgolaakcaaW.PrintMore
set_option linter.unusedVariables false
set_option linter.unusedSimpArgs false
theorem next_i6 {i : Nat} (h : i ≤ 1099511627776) : Value.int .i64 (wrap64 ((i : Int) + 1)) = .int .i64 ((i + 1 : Nat) : Int) := by
  rw [IntWalk.wrap64_in ((i : Int) + 1) (by omega)]; rfl
def rd_L (xs : List (List Int)) (i : Int) : (List Int) := xs.getD i.toNat ([] : List Int)
theorem at_L {w : World} {A : Option Addr} {n : Nat} {xs : List (List Int)} (h : Kd.C (Kd.slice 5 (Kd.int .u8)) w A n xs) (i : Int) (h0 : 0 ≤ i) (h1 : i < n) : ∃ ad A0 c0, A = some ad ∧ w.cell? (ad.add i.toNat) = some (.slice A0 (rd_L xs i).length c0) ∧ (rd_L xs i).length ≤ c0 ∧ (Kd.int .u8).C w A0 (rd_L xs i).length (rd_L xs i) := by
  obtain ⟨ad, c, e, _, hK, hc0⟩ := Kd.C_get h ([] : List Int) i h0 h1
  have hc : ∀ j u, c[j]? = some u → w.cell? (ad.add (i.toNat * 1 + j)) = some u := hc0
  obtain ⟨A0, c0, rfl, l0, g0⟩ := hK
  exact ⟨ad, A0, c0, e, by have hq := hc 0 _ rfl; rwa [Nat.mul_one, Nat.add_zero] at hq, l0, g0⟩
theorem flat_len (ls : List (List Int)) (i : Nat) : (ls.take i).flatten.length ≤ ls.flatten.length := by
  conv => rhs; rw [← List.take_append_drop i ls, List.flatten_append, List.length_append]
  omega
theorem flat_next (ls : List (List Int)) {i : Nat} (h : i < ls.length) : (ls.take (i + 1)).flatten = (ls.take i).flatten ++ ls[i] := by
  rw [List.take_succ_eq_append_getElem h, List.flatten_append]; simp
set_option maxHeartbeats 4000000 in
set_option maxRecDepth 100000 in
theorem concat_calls (A : Option Addr) (c : Nat) (ls : List (List Int)) (w : World) (hC : (Kd.slice 5 bK).C w A ls.length ls) (hn : ls.length ≤ 1099511627776) (hl : ls.flatten.length ≤ 1099511627776) :
    Calls Try.prog 80 #[.slice A ls.length c] w fun e w' => ∃ v, e = .returned v ∧ bK.R 5 w' w.heap.size (fun _ => True) v ls.flatten ∧ Below w.heap.size w w' := by
  have HC := Aside0.mk hC
  have HN := Aside0.mk hn
  have HL := Aside0.mk hl
  clear hC hn hl
  go_enter Try.func80, Try.ntmps80
  go_wp2_with fail
  go_loopg [3, 11] ls.length (fun kq v3 v11 w' => ∃ (i t : Nat), v11 = .int .i64 i ∧ v3 = .int .i64 t ∧ Aside0 (i + kq = ls.length ∧ t = (ls.take i).flatten.length) ∧ w' = w)
  case atStart => exact ⟨0, 0, rfl, rfl, ⟨by omega, rfl⟩, rfl⟩
  case round =>
    obtain ⟨i, t, rfl, rfl, HI, hw⟩ := hrel
    have hw' := hw.symm
    clear hw
    subst hw'
    by_cases hlt : i < ls.length
    · have d6 : decide ((i : Int) < (ls.length : Int)) = true := decide_eq_true (by omega)
      have d7 : decide (i < ls.length) = true := decide_eq_true hlt
      have j0 : (0 : Int) ≤ (i : Int) := by omega
      have j1 : (i : Int) < (ls.length : Int) := by omega
      obtain ⟨ad2, A5, c5, hA0, k0, hl5, hC5⟩ := at_L HC.out (i : Int) (by omega) (by omega)
      subst hA0
      have hm : rd_L ls (i : Int) = ls[i] := by simp [rd_L, List.getD_eq_getElem?_getD, hlt]
      have HS := Aside0.mk (show (ls.take (i + 1)).flatten.length = t + ls[i].length by rw [HI.out.2, flat_next ls hlt, List.length_append])
      have HLE := Aside0.mk (flat_len ls (i + 1))
      rw [hm] at k0
      simp only [Int.toNat_natCast] at k0
      generalize ls[i] = m at k0 HS
      have dq : decide (wrap64 ((t : Int) + (m.length : Int)) < 0) = false := decide_eq_false (by have := HS.out; have := HLE.out; have := HL.out; rw [IntWalk.wrap64_in _ (by omega)]; omega)
      have HLT := Aside0.mk hlt
      clear hl5 hC5 hm hlt
      go_wp2_with fail
      go_roundg (gk - 1)
      case measure => have := HI.out.1; have := HLT.out; omega
      case rel => exact ⟨i + 1, t + m.length, next_i6 (by have := HLT.out; have := HN.out; omega), by have := HS.out; have := HLE.out; have := HL.out; rw [IntWalk.wrap64_in _ (by omega)]; rfl, ⟨by have := HI.out.1; have := HLT.out; omega, HS.out.symm⟩, rfl⟩
    · have d6 : decide ((i : Int) < (ls.length : Int)) = false := decide_eq_false (by omega)
      have d7 : decide (i < ls.length) = false := decide_eq_false hlt
      have hi : i = ls.length := by have := HI.out.1; omega
      have HT := Aside0.mk (show t = ls.flatten.length by rw [HI.out.2, hi, List.take_length])
      clear HI hlt hi
      go_wp2_with fail
      refine (grow_calls t _ (by have := HT.out; have := HL.out; omega)).mono ?_
      rintro e w1 ⟨v, rfl, hR1, hb1⟩
      have HR1 := Aside0.mk hR1
      have HB1 := Aside0.mk hb1
      clear hR1 hb1
      go_wp2_with fail
      go_loopg [6, 27] ls.length (fun kq v6 v27 w' => ∃ (j : Nat) (u : Value) (xs : List Int), v27 = .int .i64 j ∧ v6 = u ∧ Aside0 (j + kq = ls.length ∧ xs = (ls.take j).flatten) ∧ Aside0 (bK.R 5 w' w.heap.size (fun _ => True) u xs) ∧ Aside0 (Below w.heap.size w w'))
      case atStart => exact ⟨0, _, [], rfl, rfl, ⟨by omega, rfl⟩, HR1, HB1⟩
      case round =>
        clear HR1 HB1
        obtain ⟨j, u, xs, rfl, rfl, HI, HR, HB⟩ := hrel
        by_cases hlt : j < ls.length
        · have d6 : decide ((j : Int) < (ls.length : Int)) = true := decide_eq_true (by omega)
          have d7 : decide (j < ls.length) = true := decide_eq_true hlt
          have j0 : (0 : Int) ≤ (j : Int) := by omega
          have j1 : (j : Int) < (ls.length : Int) := by omega
          obtain ⟨ad2, A5, c5, hA0, k0, hl5, hC5⟩ := at_L (Kd.C_below HC.out HB.out) (j : Int) (by omega) (by omega)
          subst hA0
          have hm : rd_L ls (j : Int) = ls[j] := by simp [rd_L, List.getD_eq_getElem?_getD, hlt]
          have HS := Aside0.mk (show (ls.take (j + 1)).flatten = xs ++ ls[j] by rw [HI.out.2, flat_next ls hlt])
          have HLE := Aside0.mk (flat_len ls (j + 1))
          rw [hm] at k0 hC5
          simp only [Int.toNat_natCast] at k0
          generalize ls[j] = m at k0 HS hC5
          have HC5 := Aside0.mk hC5
          have HLT := Aside0.mk hlt
          have HSUM := Aside0.mk (show (xs.length + m.length) * 1 ≤ 140737488355328 by have := HLE.out; have := HL.out; rw [HS.out, List.length_append] at *; omega)
          clear hl5 hC5 hm hlt
          go_wp2_with (first | ((with_reducible refine gate_builtin (b := .append) (xs := #[.tmp 31, .tmp 32]) rfl ?_); at_builtin; refine Kd.R_append_rows bK (w0 := w) w.heap.size rfl (.tmp 31) (.tmp 32) 30 5 (.int .u8 0) 1 rfl Try.underlying30 info5 rfl (by decide) (by decide) u6 xs m A5 m.length c5 (fun _ => True) (fun _ => False) rfl rfl HR.out HC5.out (fun _ _ h => h) (fun _ h => h.elim) (fun _ _ => trivial) HB.out HB.out.size HSUM.out ?_; intro v1 w2 hR2 hb2 _ _; have HR2 := Aside0.mk hR2; have HB2 := Aside0.mk hb2; clear hR2 hb2) | fail)
          go_roundg (gk - 1)
          case measure => have := HI.out.1; have := HLT.out; omega
          case rel => exact ⟨j + 1, _, xs ++ m, next_i6 (by have := HLT.out; have := HN.out; omega), rfl, ⟨by have := HI.out.1; have := HLT.out; omega, HS.out.symm⟩, HR2, HB2⟩
        · have d6 : decide ((j : Int) < (ls.length : Int)) = false := decide_eq_false (by omega)
          have d7 : decide (j < ls.length) = false := decide_eq_false hlt
          have HX := Aside0.mk (show xs = ls.flatten by rw [HI.out.2, (by have := HI.out.1; omega : j = ls.length), List.take_length])
          clear HI hlt
          go_wp2_with fail
          go_ret
          exact ⟨_, rfl, HX.out ▸ HR.out, HB.out⟩
end Go.Proofs.Ytnegcjgolaakcaa

/- (disk.work).on: what a work on bytes makes of bytes. -/
namespace Go.Proofs.Ytnegcjgolaakcaa
open Go.RowKit Go.Maps
open Go.Proofs.YtnegcjgolaakcaaW.PrintWords Go.Proofs.YtnegcjgolaakcaaW.PrintLast Go.Proofs.YtnegcjgolaakcaaW.PrintMore
set_option linter.unusedVariables false
set_option linter.unusedSimpArgs false
theorem two_C {w : World} {g : Nat} {A B : Option Addr} {a b : List Int} {ca cb : Nat} (h : IsB w g #[.slice A a.length ca, .slice B b.length cb] 30) (hca : a.length ≤ ca) (hA : bK.C w A a.length a) (hcb : b.length ≤ cb) (hB : bK.C w B b.length b) : (Kd.slice 5 bK).C w (some ⟨g, 0, none⟩) 2 [a, b] := by
  refine ⟨rfl, by decide, fun _ => ⟨_, rfl, fun j p hj => ?_⟩⟩
  have key : ∀ (j : Nat) (v : Value), (#[.slice A a.length ca, .slice B b.length cb] : Array Value)[j]? = some v → ∀ i u, [v][i]? = some u → w.cell? ((⟨g, 0, none⟩ : Addr).add (j * 1 + i)) = some u := by
    intro j v hv i u hu
    have hi : i = 0 := by
      cases i with
      | zero => rfl
      | succ i => simp at hu
    subst hi
    obtain rfl : v = u := by simpa using hu
    rw [Nat.mul_one, Nat.add_zero, add_plain, blk_cell h]
    first | exact hv | (rw [Nat.zero_add]; exact hv)
  match j, hj with
  | 0, hj =>
    obtain rfl : a = p := by simpa using hj
    exact ⟨_, rfl, ⟨A, ca, rfl, hca, hA⟩, key 0 _ rfl⟩
  | 1, hj =>
    obtain rfl : b = p := by simpa using hj
    exact ⟨_, rfl, ⟨B, cb, rfl, hcb, hB⟩, key 1 _ rfl⟩
  | j + 2, hj => simp at hj
abbrev cW (x : MW) (v : Value) : Array Value := #[.int .i64 x.kind, .string x.nm, .string x.tgt, .int .i64 x.len, ptrV x.f, v]
set_option maxHeartbeats 4000000 in
set_option maxRecDepth 100000 in
theorem on_calls (x : MW) (B : Option Addr) (cb : Nat) (A : Option Addr) (ca : Nat) (old : List Int) (n : Nat) (w : World) (hcb : x.b.length ≤ cb) (hB : bK.C w B x.b.length x.b) (hca : old.length ≤ ca) (hA : bK.C w A old.length old)
    (hl : old.length + x.b.length ≤ 1099511627776) (hn : n ≤ 9223372036854775807) :
    Calls Try.prog 69 #[.agg (cW x (.slice B x.b.length cb)), .slice A old.length ca, .int .i64 n] w fun e w' => ∃ v, e = .returned v ∧ bK.R 5 w' w.heap.size (fun _ => True) v ((if x.kind = 1 then [] else old) ++ x.b.take n) ∧ Below w.heap.size w w' := by
  have HB := Aside0.mk hB
  have HA := Aside0.mk hA
  have HL := Aside0.mk hl
  have HC := Aside0.mk (And.intro hcb hca)
  clear hB hA hl hcb hca
  obtain ⟨kd, nm, tgt, len, f, b⟩ := x
  simp only at HB HL HC ⊢
  have fin : ∀ (x : List Int) (C : Option Addr) (cc : Nat) (m : Nat), b.take n = b.take m → m ≤ b.length → x.length ≤ old.length → x.length ≤ cc → (∀ W, Below w.heap.size w W → bK.C W C x.length x) → (if kd = 1 then [] else old) = x →
      Calls Try.prog 80 #[.slice (some ⟨w.heap.size + 1, 0, none⟩) 2 2] ((w.alloc (.cells (cW ⟨kd, nm, tgt, len, f, b⟩ (.slice B b.length cb)) 76)).alloc (.cells #[.slice C x.length cc, .slice B m cb] 30)) fun e w' => ∃ v, e = .returned v ∧ bK.R 5 w' w.heap.size (fun _ => True) v ((if kd = 1 then [] else old) ++ b.take n) ∧ Below w.heap.size w w' := by
    intro x C cc m hm hmb hxl hxc hxC hx
    have hb2 : Below w.heap.size w ((w.alloc (.cells (cW ⟨kd, nm, tgt, len, f, b⟩ (.slice B b.length cb)) 76)).alloc (.cells #[.slice C x.length cc, .slice B m cb] 30)) := below_alloc (below_alloc (Below.refl _ _) _) _
    have hml : (b.take m).length = m := by rw [List.length_take]; omega
    have hblk : IsB ((w.alloc (.cells (cW ⟨kd, nm, tgt, len, f, b⟩ (.slice B b.length cb)) 76)).alloc (.cells #[.slice C x.length cc, .slice B m cb] 30)) (w.heap.size + 1) #[.slice C x.length cc, .slice B (b.take m).length cb] 30 := by
      rw [hml]
      exact (World.size_alloc w _) ▸ blk_new (w.alloc _) _
    refine (concat_calls (some ⟨w.heap.size + 1, 0, none⟩) 2 [x, b.take m] _ (two_C hblk hxc (hxC _ hb2) (by rw [hml]; have := HC.out.1; omega) (Kd.C_take (Kd.C_below HB.out hb2) hmb)) (show 2 ≤ 1099511627776 by decide) (by simp; have := HL.out; omega)).mono ?_
    rintro e w' ⟨v, rfl, hR, hB'⟩
    refine ⟨v, rfl, ?_, below_step hb2 hB'⟩
    rw [hx, hm]
    have := Kd.R_lower hR (base' := w.heap.size) hb2.size
    simpa using this
  have FIN := Aside0.mk fin
  clear fin
  generalize (if kd = 1 then [] else old) ++ b.take n = r at FIN ⊢
  have c1 := HC.out.1
  have dn : (0 : Int) ≤ (n : Int) := by omega
  by_cases hk : kd = 1
  · have HK := Aside0.mk hk
    have dk : (kd == 1) = true := by simp [hk]
    by_cases hm : n ≤ b.length
    · have HM := Aside0.mk hm
      have c2 : n ≤ cb := by omega
      have c3 : n ≤ b.length := hm
      clear hk hm
      go_enter Try.func69, Try.ntmps69
      go_wp2_with fail
      refine (FIN.out [] none 0 n rfl HM.out (by simp) (by simp) (fun W _ => ⟨rfl, by simp, fun h => absurd h (Nat.lt_irrefl 0)⟩) (if_pos HK.out)).mono ?_
      rintro e w1 ⟨v, rfl, hR, hB⟩
      have HR1 := Aside0.mk hR
      have HB1 := Aside0.mk hB
      clear hR hB
      go_wp2_with fail
      go_ret
      exact ⟨_, rfl, HR1.out, HB1.out⟩
    · have HM := Aside0.mk hm
      have c3 : ¬ (n ≤ b.length) := hm
      clear hk hm
      go_enter Try.func69, Try.ntmps69
      go_wp2_with fail
      refine (FIN.out [] none 0 b.length (by rw [List.take_of_length_le (by have := HM.out; omega), List.take_length]) (Nat.le_refl _) (by simp) (by simp) (fun W _ => ⟨rfl, by simp, fun h => absurd h (Nat.lt_irrefl 0)⟩) (if_pos HK.out)).mono ?_
      rintro e w1 ⟨v, rfl, hR, hB⟩
      have HR1 := Aside0.mk hR
      have HB1 := Aside0.mk hB
      clear hR hB
      go_wp2_with fail
      go_ret
      exact ⟨_, rfl, HR1.out, HB1.out⟩
  · have HK := Aside0.mk hk
    have dk : (kd == 1) = false := by simp [hk]
    by_cases hm : n ≤ b.length
    · have HM := Aside0.mk hm
      have c2 : n ≤ cb := by omega
      have c3 : n ≤ b.length := hm
      clear hk hm
      go_enter Try.func69, Try.ntmps69
      go_wp2_with fail
      refine (FIN.out old A ca n rfl HM.out (Nat.le_refl _) HC.out.2 (fun W hW => Kd.C_below HA.out hW) (if_neg HK.out)).mono ?_
      rintro e w1 ⟨v, rfl, hR, hB⟩
      have HR1 := Aside0.mk hR
      have HB1 := Aside0.mk hB
      clear hR hB
      go_wp2_with fail
      go_ret
      exact ⟨_, rfl, HR1.out, HB1.out⟩
    · have HM := Aside0.mk hm
      have c3 : ¬ (n ≤ b.length) := hm
      clear hk hm
      go_enter Try.func69, Try.ntmps69
      go_wp2_with fail
      refine (FIN.out old A ca b.length (by rw [List.take_of_length_le (by have := HM.out; omega), List.take_length]) (Nat.le_refl _) (Nat.le_refl _) HC.out.2 (fun W hW => Kd.C_below HA.out hW) (if_neg HK.out)).mono ?_
      rintro e w1 ⟨v, rfl, hR, hB⟩
      have HR1 := Aside0.mk hR
      have HB1 := Aside0.mk hB
      clear hR hB
      go_wp2_with fail
      go_ret
      exact ⟨_, rfl, HR1.out, HB1.out⟩
end Go.Proofs.Ytnegcjgolaakcaa

/- disk.named. -/
namespace Go.Proofs.Ytnegcjgolaakcaa
open Go.RowKit Go.Maps
open Go.Proofs.YtnegcjgolaakcaaW.PrintWords Go.Proofs.YtnegcjgolaakcaaW.PrintLast Go.Proofs.YtnegcjgolaakcaaW.PrintMore
set_option linter.unusedVariables false
set_option linter.unusedSimpArgs false
def goodR (r : Int) : Bool := (decide (97 ≤ r) && decide (r ≤ 122)) || (decide (48 ≤ r) && decide (r ≤ 57)) || (r == 45) || (r == 46) || (r == 95)
theorem good_eq (c : UInt8) : goodR ((c.toNat : Nat) : Int) = goodB c := by
  have key : ∀ n : Fin 256, goodR ((UInt8.ofNat n.val).toNat : Int) = goodB (UInt8.ofNat n.val) := by decide +kernel
  have h := key ⟨c.toNat, c.toNat_lt⟩
  simpa using h
theorem good_high {r : Int} (h : 128 ≤ r) : goodR r = false := by
  have h1 : decide (r ≤ 122) = false := decide_eq_false (by omega)
  have h2 : decide (r ≤ 57) = false := decide_eq_false (by omega)
  have h3 : (r == 45) = false := by simp; omega
  have h4 : (r == 46) = false := by simp; omega
  have h5 : (r == 95) = false := by simp; omega
  simp [goodR, h1, h2, h3, h4, h5]
theorem goodB_high {c : UInt8} (h : 128 ≤ c.toNat) : goodB c = false := by
  rw [← good_eq]; exact good_high (by omega)
theorem next_any (w : World) (s : ByteArray) (pos : Nat) (h : pos < s.size) : ∃ (r : Int) (wd : Nat), (∀ ty, (Instr.next (.pointer (some ⟨w.heap.size, 0, none⟩)) true ty).run Try.prog (w.iter s pos) = .ok (.tuple #[.bool true, .int .i64 pos, .int .i32 r]) (w.iter s (pos + wd))) ∧ goodR r = goodB (s[pos]'h) ∧ (goodR r = true → wd = 1) := by
  by_cases ha : (s[pos]'h).toNat < 128
  · exact ⟨_, 1, fun ty => run_next_ascii w s pos ty h ha, good_eq _, fun _ => rfl⟩
  · have hd := decode_high s pos h (by omega)
    exact ⟨_, _, fun ty => run_next_any w s pos ty h, by rw [good_high (by omega), goodB_high (by omega)], fun hc => by rw [good_high (by omega)] at hc; cases hc⟩
theorem all_take (s : ByteArray) (i : Nat) (h : i < s.size) : (s.data.toList.take (i + 1)).all goodB = ((s.data.toList.take i).all goodB && goodB (s[i]'h)) := by
  have hl : i < s.data.toList.length := by simpa using h
  rw [List.take_succ_eq_append_getElem hl, List.all_append]
  simp
  rfl
theorem all_stop (s : ByteArray) (i : Nat) (h : i < s.size) (hg : goodB (s[i]'h) = false) : namedV s = false := by
  have hl : i < s.data.toList.length := by simpa using h
  have : s.data.toList.all goodB = false := by
    rw [List.all_eq_false]
    refine ⟨s.data.toList[i], List.getElem_mem hl, ?_⟩
    have e : s.data.toList[i] = s[i]'h := by simp; rfl
    rw [e, hg]; simp
  simp [namedV, this]
theorem next_named (w : World) (s : ByteArray) (i : Nat) (h : i < s.size) (ha : (s.data.toList.take i).all goodB = true) : ∃ (r : Int) (wd : Nat), (∀ ty, (Instr.next (.pointer (some ⟨w.heap.size, 0, none⟩)) true ty).run Try.prog (w.iter s i) = .ok (.tuple #[.bool true, .int .i64 i, .int .i32 r]) (w.iter s (i + wd))) ∧ (goodR r = false → namedV s = false) ∧ (goodR r = true → wd = 1 ∧ (s.data.toList.take (i + 1)).all goodB = true) := by
  obtain ⟨r, wd, hn, hg, hw⟩ := next_any w s i h
  exact ⟨r, wd, hn, fun hb => all_stop s i h (hg ▸ hb), fun hb => ⟨hw hb, by rw [all_take s i h, ha, ← hg, hb]; rfl⟩⟩
theorem size_data (s : ByteArray) : s.size = s.toList.length := by rw [ByteArray.toList_eq]; exact Array.length_toList.symm
theorem named_end {s : ByteArray} (ha : s.data.toList.all goodB = true) (h : ¬ s.toList = []) : (!s.toList.isEmpty && decide ((s.size : Int) ≤ 32)) = namedV s := by
  have h1 : 1 ≤ s.size := by rw [size_data]; cases hs : s.toList with | nil => exact absurd hs h | cons a l => simp
  have h2 : s.toList.isEmpty = false := by simpa using h
  have h3 : ((s.size : Int) ≤ 32) ↔ (s.size ≤ 32) := by omega
  simp [namedV, ha, h2, h1, h3]
theorem named_nil {s : ByteArray} (h : s.toList = []) : false = namedV s := by
  have h1 : s.size = 0 := by rw [size_data, h]; rfl
  simp [namedV, h1]
set_option maxHeartbeats 4000000 in
set_option maxRecDepth 100000 in
theorem named_calls (s : ByteArray) (w : World) (hs : s.size ≤ 9223372036854775807) :
    Calls Try.prog 43 #[.string s] w fun e w' => e = .returned (.bool (namedV s)) ∧ Below w.heap.size w w' := by
  have HS := Aside0.mk hs
  clear hs
  generalize hr : namedV s = res
  have HR := Aside0.mk hr
  clear hr
  go_enter Try.func43, Try.ntmps43
  go_wp2_with fail
  go_loopg [] (s.size + 1) (fun kq w' => ∃ (i : Nat), w' = w.iter s i ∧ Aside0 (i + kq = s.size + 1 ∧ (s.data.toList.take i).all goodB = true))
  case atStart => exact ⟨0, rfl, ⟨by omega, by simp⟩⟩
  case round =>
    obtain ⟨i, rfl, HI⟩ := hrel
    by_cases hlt : i < s.size
    · obtain ⟨r, wd, hn, hg, hw⟩ := next_named w s i hlt HI.out.2
      have HG := Aside0.mk hg
      have HW := Aside0.mk hw
      have HLT := Aside0.mk hlt
      clear hg hw hlt
      go_wp2_with fail
      all_goals first
        | (have hgr : goodR r = false := by
            (try simp only [beq_iff_eq, beq_eq_false_iff_ne, ne_eq] at *)
            simp [goodR]; omega
           go_ret
           exact ⟨by rw [← HR.out, HG.out hgr]; rfl, below_alloc (Below.refl _ _) _⟩)
        | (have hgr : goodR r = true := by
            (try simp only [beq_iff_eq, beq_eq_false_iff_ne, ne_eq] at *)
            simp [goodR]; omega
           have HX := Aside0.mk (HW.out hgr)
           go_roundg (gk - 1)
           case measure => have := HI.out.1; have := HLT.out; omega
           case rel => exact ⟨i + 1, by rw [HX.out.1], ⟨by have := HI.out.1; have := HLT.out; omega, HX.out.2⟩⟩)
    · have hn := fun ty => run_next_end (P := Try.prog) w s i ty hlt
      have HX := Aside0.mk (show s.data.toList.all goodB = true by have h2 := HI.out.2; rwa [List.take_of_length_le (by simp; omega)] at h2)
      clear hlt
      go_wp2_with fail
      all_goals (go_ret; refine ⟨?_, below_alloc (Below.refl _ _) _⟩; rw [← HR.out]; exact congrArg (fun b => Ending.returned (.bool b)) (by first | exact named_end HX.out (by assumption) | exact named_nil (by assumption)))
end Go.Proofs.Ytnegcjgolaakcaa

/- A disk in memory. -/
namespace Go.Proofs.Ytnegcjgolaakcaa
open Go.RowKit Go.Maps
open Go.Proofs.YtnegcjgolaakcaaW.PrintWords Go.Proofs.YtnegcjgolaakcaaW.PrintLast Go.Proofs.YtnegcjgolaakcaaW.PrintMore
set_option linter.unusedVariables false
set_option linter.unusedSimpArgs false
theorem ownsMap_heap {w w' : World} {b n : Nat} {D : DU} (h : w.ownsMap Try.prog 9 filE b n D) (e : w'.heap[b]? = w.heap[b]?) : w'.ownsMap Try.prog 9 filE b n D := by
  obtain ⟨es, clock, hb, r⟩ := h
  exact ⟨es, clock, e.trans hb, r⟩
/-- no more entries than there are -/
theorem ownsMap_tight {w : World} {b n : Nat} {D : DU} (h : w.ownsMap Try.prog 9 filE b n D) : w.ownsMap Try.prog 9 filE b (Maps.size D) D := by
  obtain ⟨es, clock, hb, F, hs, rfl⟩ := h
  exact ⟨es, clock, hb, F, by simp [Maps.size, length_sorted], rfl⟩
def atD : Option Nat → DU
  | some b => ptrD b
  | none => .nil
theorem atD_inj {a b : Option Nat} (h : atD a = atD b) : a = b := by
  cases a <;> cases b <;> simp_all [atD, ptrD]
  omega
def mwOf (ad : List Nat) (p : PW) : MW := ⟨p.kind, p.nm, p.tgt, p.len, ad.getD p.file 0, p.b⟩
namespace DS
def nameAt (s : DS) (ad : List Nat) (n : ByteArray) : Option Nat := if n = nameless then none else (s.find n).bind (ad[·]?)
def findF (s : DS) (n : ByteArray) : Option Nat := s.files.findIdx? (fun f => f.fast = n)
def fastOf (s : DS) (ad : List Nat) (n : ByteArray) : Option Nat := if n = nameless then none else (s.findF n).bind (ad[·]?)
def countF (s : DS) : Nat := (s.files.filter (fun f => f.fast ≠ nameless)).length
end DS
/-- a map in memory that tells what 'get' tells -/
def MapAt (w : World) (b n : Nat) (get : ByteArray → Option Nat) : Prop :=
  ∃ D : DU, w.ownsMap Try.prog 9 filE b (Maps.size D) D ∧ Maps.size D = n ∧ ∀ n, D.atKey (key n) .nil = atD (get n) ∧ Maps.has D (key n) = (get n).isSome
theorem MapAt.heap {w w' : World} {b n : Nat} {get : ByteArray → Option Nat} (h : MapAt w b n get) (e : w'.heap[b]? = w.heap[b]?) : MapAt w' b n get := by
  obtain ⟨D, h1, h2, h3⟩ := h
  exact ⟨D, ownsMap_heap h1 e, h2, h3⟩
theorem MapAt.lt {w : World} {b n : Nat} {get : ByteArray → Option Nat} (h : MapAt w b n get) : b < w.heap.size := by
  obtain ⟨D, h1, _⟩ := h
  exact h1.lt
/-- a file in memory -/
def FileAt (w : World) (base : Nat) (ok : Nat → Prop) (g : Nat) (f : PF) : Prop :=
  ok g ∧ base ≤ g ∧ ∃ vn vo, IsB w g #[vn, vo] 79 ∧ bK.R 5 w base ok vn f.now ∧ bK.R 5 w base ok vo f.old
abbrev dC (s : DS) (nb fb : Nat) (v : Value) : Array Value := #[.int .i64 s.names, .int .i64 s.room, .map (some nb), .map (some fb), v, .bool s.off, .int .i64 s.left]
structure DiskAt (w : World) (g : Nat) (s : DS) (base : Nat) (ok : Nat → Prop) (nb fb : Nat) (v : Value) (ad : List Nat) : Prop where
  blk : IsB w g (dC s nb fb v) 68
  okg : ok g ∧ base ≤ g
  okn : ok nb ∧ base ≤ nb
  okf : ok fb ∧ base ≤ fb
  ne : nb ≠ fb
  nms : MapAt w nb s.count (s.nameAt ad)
  fst : MapAt w fb s.countF (s.fastOf ad)
  wks : workK.R 76 w base ok v (s.works.map (mwOf ad))
  fls : ∀ (i : Nat) f, s.files[i]? = some f → ∃ g', ad[i]? = some g' ∧ FileAt w base ok g' f
  len : ad.length = s.files.length
  nd : ad.Nodup
theorem FileAt.step {w w' : World} {base : Nat} {ok : Nat → Prop} {g : Nat} {f : PF} (h : FileAt w base ok g f) (hm : ∀ k, ok k → k < w.heap.size → w'.heap[k]? = w.heap[k]?) : FileAt w' base ok g f := by
  obtain ⟨h1, h2, vn, vo, h3, h4, h5⟩ := h
  exact ⟨h1, h2, vn, vo, (hm g h1 (blk_lt h3)).trans h3, Kd.R_step h4 hm, Kd.R_step h5 hm⟩
theorem FileAt.mono {w : World} {base : Nat} {ok ok' : Nat → Prop} {g : Nat} {f : PF} (h : FileAt w base ok g f) (hk : ∀ k, ok k → ok' k) : FileAt w base ok' g f := by
  obtain ⟨h1, h2, vn, vo, h3, h4, h5⟩ := h
  exact ⟨hk _ h1, h2, vn, vo, h3, Kd.R_mono h4 hk, Kd.R_mono h5 hk⟩
/-- any mover: what is ok, and there, stays -/
theorem DiskAt.step {w w' : World} {g : Nat} {s : DS} {base : Nat} {ok : Nat → Prop} {nb fb : Nat} {v : Value} {ad : List Nat} (h : DiskAt w g s base ok nb fb v ad) (hm : ∀ k, ok k → k < w.heap.size → w'.heap[k]? = w.heap[k]?) : DiskAt w' g s base ok nb fb v ad where
  blk := (hm g h.okg.1 (blk_lt h.blk)).trans h.blk
  okg := h.okg
  okn := h.okn
  okf := h.okf
  ne := h.ne
  nms := h.nms.heap (hm nb h.okn.1 h.nms.lt)
  fst := h.fst.heap (hm fb h.okf.1 h.fst.lt)
  wks := Kd.R_step h.wks hm
  fls := fun i f hf => by
    obtain ⟨g', e, hF⟩ := h.fls i f hf
    exact ⟨g', e, hF.step hm⟩
  len := h.len
  nd := h.nd
theorem DiskAt.below {w w' : World} {g : Nat} {s : DS} {base : Nat} {ok : Nat → Prop} {nb fb : Nat} {v : Value} {ad : List Nat} (h : DiskAt w g s base ok nb fb v ad) (hb : Below w.heap.size w w') : DiskAt w' g s base ok nb fb v ad := h.step (fun k _ hk => hb.block k hk)
theorem DiskAt.mono {w : World} {g : Nat} {s : DS} {base : Nat} {ok ok' : Nat → Prop} {nb fb : Nat} {v : Value} {ad : List Nat} (h : DiskAt w g s base ok nb fb v ad) (hk : ∀ k, ok k → ok' k) : DiskAt w g s base ok' nb fb v ad where
  blk := h.blk
  okg := ⟨hk _ h.okg.1, h.okg.2⟩
  okn := ⟨hk _ h.okn.1, h.okn.2⟩
  okf := ⟨hk _ h.okf.1, h.okf.2⟩
  ne := h.ne
  nms := h.nms
  fst := h.fst
  wks := Kd.R_mono h.wks hk
  fls := fun i f hf => by
    obtain ⟨g', e, hF⟩ := h.fls i f hf
    exact ⟨g', e, hF.mono hk⟩
  len := h.len
  nd := h.nd
end Go.Proofs.Ytnegcjgolaakcaa

/- disk.New. -/
namespace Go.Proofs.Ytnegcjgolaakcaa
open Go.RowKit Go.Maps
open Go.Proofs.YtnegcjgolaakcaaW.PrintWords Go.Proofs.YtnegcjgolaakcaaW.PrintLast Go.Proofs.YtnegcjgolaakcaaW.PrintMore
set_option linter.unusedVariables false
set_option linter.unusedSimpArgs false
def goodNew (files bytes : Int) : Bool := decide (1 ≤ files) && decide (files ≤ 64) && decide (0 ≤ bytes) && decide (bytes ≤ 4194304)
theorem map_made (w : World) : MapAt (w.alloc (.map #[] 0)) w.heap.size 0 (fun _ => none) :=
  ⟨.map [], World.ownsMap_made _ _ _ _, rfl, fun _ => ⟨rfl, rfl⟩⟩
theorem MapAt.congr {w : World} {b n : Nat} {get get' : ByteArray → Option Nat} (h : MapAt w b n get) (e : ∀ k, get k = get' k) : MapAt w b n get' := by
  obtain ⟨D, h1, h2, h3⟩ := h
  exact ⟨D, h1, h2, fun k => e k ▸ h3 k⟩
theorem MapAt.alloc {w : World} {b n : Nat} {get : ByteArray → Option Nat} (h : MapAt w b n get) (o : Obj) : MapAt (w.alloc o) b n get := h.heap (Below.heap_alloc w o b h.lt)
theorem new_at (w : World) (files bytes : Int) : DiskAt (((w.alloc (.map #[] 0)).alloc (.map #[] 0)).alloc (.cells #[.int .i64 files, .int .i64 bytes, .map (some w.heap.size), .map (some (w.heap.size + 1)), .slice none 0 0, .bool false, .int .i64 (-1)] 68)) (w.heap.size + 1 + 1) (DS.new files bytes) w.heap.size (fun _ => True) w.heap.size (w.heap.size + 1) (.slice none 0 0) [] where
  blk := by
    have e : w.heap.size + 1 + 1 = ((w.alloc (.map #[] 0)).alloc (.map #[] 0)).heap.size := by simp
    rw [e]
    exact blk_new _ _
  okg := ⟨trivial, by omega⟩
  okn := ⟨trivial, by omega⟩
  okf := ⟨trivial, by omega⟩
  ne := by omega
  nms := (((map_made w).alloc _).alloc _).congr (fun k => by simp [DS.nameAt, DS.find, DS.new])
  fst := by
    have h := map_made (w.alloc (.map #[] 0))
    rw [World.size_alloc] at h
    exact (h.alloc _).congr (fun k => by simp [DS.fastOf, DS.findF, DS.new])
  wks := Kd.R_nil _ _ _ _ _
  fls := fun i f hf => by simp [DS.new] at hf
  len := rfl
  nd := List.nodup_nil
set_option maxHeartbeats 4000000 in
set_option maxRecDepth 100000 in
theorem new_calls (files bytes : Int) (w : World) (hg : goodNew files bytes = true) :
    Calls Try.prog 11 #[.int .i64 files, .int .i64 bytes] w fun e w' => ∃ g nb fb, e = .returned (.tuple #[ptrV g, .int .i64 0]) ∧ DiskAt w' g (DS.new files bytes) w.heap.size (fun _ => True) nb fb (.slice none 0 0) [] ∧ Below w.heap.size w w' := by
  have hmm := @run_makeMap Try.prog
  have d1 : decide (files < 1) = false := by simp [goodNew] at hg; exact decide_eq_false (by omega)
  have d2 : decide (files > 64) = false := by simp [goodNew] at hg; exact decide_eq_false (by omega)
  have d3 : decide (bytes < 0) = false := by simp [goodNew] at hg; exact decide_eq_false (by omega)
  have d4 : decide (bytes > 4194304) = false := by simp [goodNew] at hg; exact decide_eq_false (by omega)
  clear hg
  go_enter Try.func11, Try.ntmps11
  go_wp2_with fail
  go_ret2
  refine ⟨_, w.heap.size, w.heap.size + 1, rfl, ?_, below_alloc (below_alloc (below_alloc (Below.refl _ _) _) _) _⟩
  exact new_at w files bytes
set_option maxHeartbeats 4000000 in
set_option maxRecDepth 100000 in
theorem new_bad (files bytes : Int) (w : World) (hg : goodNew files bytes = false) :
    Calls Try.prog 11 #[.int .i64 files, .int .i64 bytes] w fun e w' => e = .returned (.tuple #[.pointer none, .int .i64 1]) ∧ Below w.heap.size w w' := by
  have hd : (decide (files < 1) || decide (files > 64) || decide (bytes < 0) || decide (bytes > 4194304)) = true := by
    simp [goodNew] at hg ⊢
    omega
  have HD := Aside0.mk hd
  clear hd hg
  cases d1 : decide (files < 1) <;> cases d2 : decide (files > 64) <;> cases d3 : decide (bytes < 0) <;> cases d4 : decide (bytes > 4194304)
  case false.false.false.false => exact absurd HD.out (by rw [d1, d2, d3, d4]; decide)
  all_goals
    clear HD
    go_enter Try.func11, Try.ntmps11
    go_wp2_with fail
    go_ret2
    exact ⟨rfl, Below.refl _ _⟩
end Go.Proofs.Ytnegcjgolaakcaa

/- Frames; disk.On, disk.Fuse. -/
namespace Go.Proofs.Ytnegcjgolaakcaa
open Go.RowKit Go.Maps
open Go.Proofs.YtnegcjgolaakcaaW.PrintWords Go.Proofs.YtnegcjgolaakcaaW.PrintLast Go.Proofs.YtnegcjgolaakcaaW.PrintMore
set_option linter.unusedVariables false
set_option linter.unusedSimpArgs false
/-- of what was there only blocks in S have turned -/
structure Fr (S : Nat → Prop) (w w' : World) : Prop where
  os : w'.os = w.os
  tape : w'.tape = w.tape
  output : w'.output = w.output
  size : w.heap.size ≤ w'.heap.size
  block : ∀ k, k < w.heap.size → ¬ S k → w'.heap[k]? = w.heap[k]?
namespace Fr
variable {S S' : Nat → Prop} {w w' w'' : World}
theorem refl (S : Nat → Prop) (w : World) : Fr S w w := ⟨rfl, rfl, rfl, Nat.le_refl _, fun _ _ _ => rfl⟩
theorem trans (h : Fr S w w') (k : Fr S' w' w'') (hs : ∀ k, S' k → k < w.heap.size → S k) : Fr S w w'' :=
  ⟨k.os.trans h.os, k.tape.trans h.tape, k.output.trans h.output, Nat.le_trans h.size k.size, fun i hi hn => (k.block i (Nat.lt_of_lt_of_le hi h.size) (fun hc => hn (hs i hc hi))).trans (h.block i hi hn)⟩
theorem mono (h : Fr S w w') (hs : ∀ k, S k → S' k) : Fr S' w w' := ⟨h.os, h.tape, h.output, h.size, fun i hi hn => h.block i hi (fun hc => hn (hs i hc))⟩
theorem ofBelow (h : Below w.heap.size w w') : Fr S w w' := ⟨h.os, h.tape, h.output, h.size, fun i hi _ => h.block i hi⟩
theorem alloc (h : Fr S w w') (o : Obj) : Fr S w (w'.alloc o) := ⟨h.os, h.tape, h.output, Nat.le_trans h.size (by simp), fun i hi hn => (Below.heap_alloc w' o i (Nat.lt_of_lt_of_le hi h.size)).trans (h.block i hi hn)⟩
theorem setCell (h : Fr S w w') {p : Addr} (hp : p.block < w.heap.size → S p.block) (u : Value) : Fr S w (w'.setCell p u) := ⟨h.os, h.tape, h.output, by simpa [World.setCell] using h.size, fun i hi hn => (Below.heap_setCell w' p u i (fun e => hn (e ▸ hp (e ▸ hi)))).trans (h.block i hi hn)⟩
theorem grown (h : Fr S w w') {row : Option Nat} (hg : w'.grownBy w'' row) (hr : ∀ k, row = some k → k < w.heap.size → S k) : Fr S w w'' :=
  ⟨hg.os.trans h.os, hg.tape.trans h.tape, hg.output.trans h.output, Nat.le_trans h.size hg.size, fun i hi hn => (hg.block i (Nat.lt_of_lt_of_le hi h.size) (fun e => hn (hr i e.symm hi))).trans (h.block i hi hn)⟩
theorem below (h : Fr S w w') {B : Nat} (hB : B ≤ w.heap.size) (hs : ∀ k, S k → B ≤ k) : Below B w w' := ⟨h.os, h.tape, h.output, h.size, fun k hk => h.block k (Nat.lt_of_lt_of_le hk hB) (fun hc => by have := hs k hc; omega)⟩
end Fr
section
variable {w w' : World} {g : Nat} {s s' : DS} {base : Nat} {ok : Nat → Prop} {nb fb : Nat} {v : Value} {ad : List Nat}
theorem DiskAt.ng (h : DiskAt w g s base ok nb fb v ad) : nb ≠ g := by
  rintro rfl
  obtain ⟨D, ⟨es, clock, hb, _⟩, _⟩ := h.nms
  have := hb.symm.trans h.blk
  cases this
theorem DiskAt.fg (h : DiskAt w g s base ok nb fb v ad) : fb ≠ g := by
  rintro rfl
  obtain ⟨D, ⟨es, clock, hb, _⟩, _⟩ := h.fst
  have := hb.symm.trans h.blk
  cases this
theorem FileAt.far {f : PF} {x t : Nat} {cs : Array Value} (h : FileAt w base ok g f) (hb : IsB w x cs t) (h1 : t ≠ 79) (h2 : t ≠ 5) (hk : ∀ k, k ≠ x → k < w.heap.size → w'.heap[k]? = w.heap[k]?) : FileAt w' base ok g f := by
  obtain ⟨o1, o2, vn, vo, h3, h4, h5⟩ := h
  have hne : g ≠ x := by
    rintro rfl
    have hb := h3.symm.trans hb
    injection hb with hb
    injection hb with _ hb
    exact h1 hb.symm
  refine ⟨o1, o2, vn, vo, (hk g hne (blk_lt h3)).trans h3, ?_, ?_⟩
  · exact Kd.R_mono (Kd.R_step (Kd.R_types h4 hb (fun q hq => by rcases List.mem_cons.1 hq with rfl | hq; exact fun e => h2 e.symm; cases hq)) (fun k hk' hlt => hk k hk'.2 hlt)) (fun _ h => h.1)
  · exact Kd.R_mono (Kd.R_step (Kd.R_types h5 hb (fun q hq => by rcases List.mem_cons.1 hq with rfl | hq; exact fun e => h2 e.symm; cases hq)) (fun k hk' hlt => hk k hk'.2 hlt)) (fun _ h => h.1)
/-- the struct's block alone has turned -/
theorem DiskAt.head (h : DiskAt w g s base ok nb fb v ad) (hk : ∀ k, k ≠ g → k < w.heap.size → w'.heap[k]? = w.heap[k]?) (hb : IsB w' g (dC s' nb fb v) 68) (hf : s'.files = s.files) (hw : s'.works = s.works) : DiskAt w' g s' base ok nb fb v ad where
  blk := hb
  okg := h.okg
  okn := h.okn
  okf := h.okf
  ne := h.ne
  nms := by
    have e : s'.count = s.count := by unfold DS.count; rw [hf]
    rw [e]
    exact (h.nms.heap (hk nb h.ng h.nms.lt)).congr (fun k => by unfold DS.nameAt DS.find; rw [hf])
  fst := by
    have e : s'.countF = s.countF := by unfold DS.countF; rw [hf]
    rw [e]
    exact (h.fst.heap (hk fb h.fg h.fst.lt)).congr (fun k => by unfold DS.fastOf DS.findF; rw [hf])
  wks := by
    rw [hw]
    exact Kd.R_mono (Kd.R_step (Kd.R_types h.wks h.blk (fun q hq => by rcases List.mem_cons.1 hq with rfl | hq; decide; rcases List.mem_cons.1 hq with rfl | hq; decide; cases hq)) (fun k hk' hlt => hk k hk'.2 hlt)) (fun _ h => h.1)
  fls := fun i f hfi => by
    rw [hf] at hfi
    obtain ⟨g', e, hF⟩ := h.fls i f hfi
    exact ⟨g', e, hF.far h.blk (by decide) (by decide) hk⟩
  len := by rw [hf]; exact h.len
  nd := h.nd
set_option maxHeartbeats 4000000 in
set_option maxRecDepth 100000 in
theorem on_calls' (h : DiskAt w g s base ok nb fb v ad) : Calls Try.prog 21 #[ptrV g] w fun e w' => e = .returned (.bool (!s.off)) ∧ w' = w := by
  have y := (blk_cell h.blk 5).trans rfl
  have hsz := blk_lt h.blk
  clear h
  go_enter Try.func21, Try.ntmps21
  go_wp2_with fail
  go_ret
  exact ⟨rfl, rfl⟩
set_option maxHeartbeats 4000000 in
set_option maxRecDepth 100000 in
theorem fuse_calls (h : DiskAt w g s base ok nb fb v ad) (n : Int) : Calls Try.prog 19 #[ptrV g, .int .i64 n] w fun e w' => e = .returned (.int .i64 (s.fuse n).1) ∧ DiskAt w' g (s.fuse n).2 base ok nb fb v ad ∧ Fr (fun k => k = g) w w' := by
  have y : w.cell? ⟨g, 5, none⟩ = some (.bool s.off) := (blk_cell h.blk 5).trans rfl
  have y6 : w.cell? ⟨g, 6, none⟩ = some (.int .i64 s.left) := (blk_cell h.blk 6).trans rfl
  have hsz := blk_lt h.blk
  have f5 := blk_frozen h.blk 5
  have f6 := blk_frozen h.blk 6
  have H := Aside0.mk h
  clear h
  by_cases hn : n < 0
  · have d0 : decide (n < 0) = true := decide_eq_true hn
    have hr : s.fuse n = (1, s) := by simp [DS.fuse, hn]
    rw [hr]
    clear hn hr
    go_enter Try.func19, Try.ntmps19
    go_wp2_with fail
    go_ret
    exact ⟨rfl, H.out, Fr.refl _ _⟩
  · have d0 : decide (n < 0) = false := decide_eq_false hn
    cases ho : s.off with
    | true =>
      have hr : s.fuse n = (63, s) := by simp [DS.fuse, hn, ho]
      rw [hr]
      rw [ho] at y
      clear hn hr ho
      go_enter Try.func19, Try.ntmps19
      go_wp2_with fail
      go_ret
      exact ⟨rfl, H.out, Fr.refl _ _⟩
    | false =>
      have hr : s.fuse n = (0, { s with left := n, off := n = 0 }) := by simp [DS.fuse, hn, ho]
      rw [hr]
      rw [ho] at y
      clear hn hr ho
      go_enter Try.func19, Try.ntmps19
      go_wp2_with fail
      go_ret
      refine ⟨rfl, H.out.head (fun k hk _ => (Below.heap_setCell _ _ _ k hk).trans (Below.heap_setCell _ _ _ k hk)) ?_ rfl rfl, Fr.setCell (S := fun k => k = g) (p := ⟨g, 5, none⟩) (Fr.setCell (S := fun k => k = g) (p := ⟨g, 6, none⟩) (Fr.refl _ _) (fun _ => rfl) _) (fun _ => rfl) _⟩
      exact blk_put (blk_put H.out.blk 6 (.int .i64 n) rfl) 5 (.bool (n == 0)) rfl
end
end Go.Proofs.Ytnegcjgolaakcaa

/- Plain: how many bytes the files have, one by one. -/
namespace Go.Proofs.Ytnegcjgolaakcaa
open Go.RowKit Go.Maps
open Go.Proofs.YtnegcjgolaakcaaW.PrintWords Go.Proofs.YtnegcjgolaakcaaW.PrintLast Go.Proofs.YtnegcjgolaakcaaW.PrintMore
set_option linter.unusedVariables false
set_option linter.unusedSimpArgs false
theorem key_inj {m n : ByteArray} (h : m.data.toList = n.data.toList) : m = n := by
  obtain ⟨⟨m⟩⟩ := m
  obtain ⟨⟨n⟩⟩ := n
  simp at h
  rw [h]
theorem key_same (m n : ByteArray) : (key m).sameKey (key n) = decide (m = n) := by
  show (m.data.toList == n.data.toList) = _
  by_cases h : m = n
  · subst h; simp
  · have h2 : ¬ m.data.toList = n.data.toList := fun e => h (key_inj e)
    simp [h]
    intro e
    exact h (by cases m; cases n; simp_all)
/-- the bytes of the files that are still to come -/
def sumL (left : ByteArray → Bool) (fs : List PF) : Nat := ((fs.filter (fun f => decide (f.name ≠ nameless) && left f.name)).map (fun f => f.now.length)).sum
theorem sumL_cons (left : ByteArray → Bool) (f : PF) (fs : List PF) : sumL left (f :: fs) = (if (decide (f.name ≠ nameless) && left f.name) = true then f.now.length else 0) + sumL left fs := by
  unfold sumL
  rw [List.filter_cons]
  split
  · rw [List.map_cons, List.sum_cons]
  · rw [Nat.zero_add]
theorem sumL_congr {left left' : ByteArray → Bool} : ∀ {fs : List PF}, (∀ f ∈ fs, f.name ≠ nameless → left f.name = left' f.name) → sumL left fs = sumL left' fs
  | [], _ => rfl
  | f :: fs, h => by
    rw [sumL_cons, sumL_cons, sumL_congr (fun g hg => h g (List.mem_cons_of_mem _ hg))]
    by_cases hn : f.name = nameless
    · simp [hn]
    · rw [h f List.mem_cons_self hn]
theorem sumL_none {left : ByteArray → Bool} (h : ∀ n, left n = false) (fs : List PF) : sumL left fs = 0 := by
  unfold sumL
  rw [List.filter_eq_nil_iff.2 (fun f _ => by simp [h])]
  rfl
theorem sumL_all (s : DS) {left : ByteArray → Bool} (h : ∀ f ∈ s.files, f.name ≠ nameless → left f.name = true) : sumL left s.files = s.used := by
  unfold sumL DS.used
  congr 2
  refine List.filter_congr fun f hf => ?_
  by_cases hn : f.name = nameless
  · simp [hn]
  · simp [hn, h f hf hn]
/-- one of them comes -/
theorem sumL_step {left : ByteArray → Bool} : ∀ {fs : List PF} (_ : fs.Pairwise (fun f g => f.name = g.name → f.name = nameless)) {i : Nat} {f : PF} (_ : fs[i]? = some f) (_ : f.name ≠ nameless) (_ : left f.name = true),
    sumL left fs = f.now.length + sumL (fun n => left n && !decide (n = f.name)) fs
  | [], _, i, f, hi, _, _ => by simp at hi
  | g :: fs, hp, 0, f, hi, hn, hl => by
    obtain rfl : g = f := by simpa using hi
    rw [sumL_cons, sumL_cons]
    rw [if_pos (by simp [hn, hl]), if_neg (by simp), Nat.zero_add]
    congr 1
    refine sumL_congr fun h hh hne => ?_
    have := (List.pairwise_cons.1 hp).1 h hh
    have h2 : ¬ h.name = g.name := fun e => hn (this e.symm)
    simp [h2]
  | g :: fs, hp, i + 1, f, hi, hn, hl => by
    have hi' : fs[i]? = some f := by simpa using hi
    have ih := sumL_step (left := left) (List.pairwise_cons.1 hp).2 hi' hn hl
    rw [sumL_cons, sumL_cons, ih]
    have h2 : ¬ g.name = f.name := fun e => hn (e ▸ (List.pairwise_cons.1 hp).1 f (List.mem_of_getElem? hi') e)
    simp only [h2, decide_false, Bool.not_false, Bool.and_true]
    omega
end Go.Proofs.Ytnegcjgolaakcaa

/- (*disk.Disk).used. -/
namespace Go.Proofs.Ytnegcjgolaakcaa
open Go.RowKit Go.Maps
open Go.Proofs.YtnegcjgolaakcaaW.PrintWords Go.Proofs.YtnegcjgolaakcaaW.PrintLast Go.Proofs.YtnegcjgolaakcaaW.PrintMore
set_option linter.unusedVariables false
set_option linter.unusedSimpArgs false
def filV : Option Nat → Value
  | none => .pointer none
  | some b => ptrV b
theorem filE_shape (v : Value) (y : DU × List MemPlace) (h : filE v = some y) : ∃ c, v = filV c := by
  rcases filE_inv h with ⟨rfl, _⟩ | ⟨b, rfl, _⟩
  · exact ⟨none, rfl⟩
  · exact ⟨some b, rfl⟩
theorem key_shape (k : Value) (kl : Lit) (h : keyOf Try.prog 9 k = some kl) : ∃ x : List UInt8, k = encStr x := by
  obtain ⟨x, hx, _⟩ := Maps.keyOf_str Try.underlying9 h
  exact ⟨x, hx⟩
section
variable {w w' : World} {g : Nat} {s s' : DS} {base : Nat} {ok : Nat → Prop} {nb fb : Nat} {v : Value} {ad : List Nat} {T : Nat}
theorem nameAt_some (h : DiskAt w g s base ok nb fb v ad) {i : Nat} {f : PF} (hi : s.files[i]? = some f) (hn : f.name ≠ nameless) : (s.nameAt ad f.name).isSome = true := by
  unfold DS.nameAt DS.find
  rw [if_neg hn]
  cases hf : s.files.findIdx? (fun x => x.name = f.name) with
  | none =>
    rw [List.findIdx?_eq_none_iff] at hf
    have := hf f (List.mem_of_getElem? hi)
    simp at this
  | some j =>
    obtain ⟨hj, _⟩ := List.findIdx?_eq_some_iff_getElem.1 hf
    have : j < ad.length := by rw [h.len]; exact hj
    simp [this]
theorem nameAt_file (h : DiskAt w g s base ok nb fb v ad) {n : ByteArray} {c : Nat} (hc : s.nameAt ad n = some c) : ∃ (i : Nat) (f : PF), s.files[i]? = some f ∧ f.name = n ∧ n ≠ nameless ∧ FileAt w base ok c f := by
  unfold DS.nameAt DS.find at hc
  split at hc
  · cases hc
  · rename_i hn
    obtain ⟨i, hi, hci⟩ := Option.bind_eq_some_iff.1 hc
    obtain ⟨hj, hp, _⟩ := List.findIdx?_eq_some_iff_getElem.1 hi
    obtain ⟨g', e, hF⟩ := h.fls i _ (List.getElem?_eq_getElem hj)
    rw [hci] at e
    cases e
    exact ⟨i, _, List.getElem?_eq_getElem hj, by simpa using hp, hn, hF⟩
theorem used_le (s : DS) : s.used ≤ (s.files.map (fun f => f.now.length)).sum := by
  unfold DS.used
  induction s.files with
  | nil => simp
  | cons f fs ih =>
    rw [List.filter_cons]
    split
    · simp only [List.map_cons, List.sum_cons]; omega
    · simp only [List.map_cons, List.sum_cons]; omega
set_option maxHeartbeats 4000000 in
set_option maxRecDepth 100000 in
theorem used_calls (h : DiskAt w g s base ok nb fb v ad) (hI : s.Inv T) (hT : T ≤ 1073741824) : Calls Try.prog 68 #[ptrV g] w fun e w' => e = .returned (.int .i64 s.used) ∧ Below w.heap.size w w' := by
  obtain ⟨D, hown, hsz, hD⟩ := h.nms
  have y2 : w.cell? ⟨g, 2, none⟩ = some (.map (some nb)) := (blk_cell h.blk 2).trans rfl
  have hgs := blk_lt h.blk
  have H := Aside0.mk h
  have HI := Aside0.mk hI
  have HO := Aside0.mk hown
  have HD := Aside0.mk hD
  have HT := Aside0.mk hT
  clear h hI hown hsz hD hT
  go_enter Try.func68, Try.ntmps68
  go_wp2_with (first | (at_range; refine wpList_range_own _ rfl _ 65 rfl 9 71 keyLaw Try.underlying65 filE nb _ D rfl HO.out ?_; intro w0 hrg0 hg0 hs0) | fail)
  have HB0 : Aside0 (Below w.heap.size w w0) := ⟨grown_none hg0⟩
  have HR0 := Aside0.mk hrg0
  have HS0 := Aside0.mk hs0
  have HL0 : Aside0 ((0 : Nat) + sumL (fun n => Maps.has D (key n)) s.files = s.used) := by
    refine ⟨(Nat.zero_add _).trans (sumL_all s (left := fun n => Maps.has D (key n)) (fun f hf hn => ?_))⟩
    show Maps.has D (key f.name) = true
    rw [(HD.out f.name).2]
    obtain ⟨i, hi⟩ := List.mem_iff_getElem?.1 hf
    exact nameAt_some H.out hi hn
  clear hrg0 hg0 hs0
  go_frame
  go_loopg [3] (Maps.size D) (fun kq v3 w' => ∃ (left : Lit → Bool) (t : Nat), v3 = .int .i64 t ∧ Aside0 (w'.ranges Try.prog 9 filE nb w.heap.size (Maps.size D) D left kq) ∧ Aside0 (t + sumL (fun n => left (key n)) s.files = s.used) ∧ Aside0 (Below w.heap.size w w'))
  case atStart => exact ⟨_, 0, rfl, HR0, HL0, HB0⟩
  case round =>
    clear HR0 HL0 HB0 HS0
    obtain ⟨left, t, rfl, HR, HL, HB⟩ := hrel
    go_wp2_with (first | (at_next; refine wpList_next_ranges _ rfl _ rfl 9 keyLaw filE encStr filV key_shape filE_shape nb w.heap.size _ D left _ rfl HR.out ?_ ?_) | fail)
    case refine_1 =>
      intro hc0 hl0
      have HE : Aside0 (t = s.used) := ⟨by have := HL.out; rw [sumL_none (fun n => hl0 _)] at this; omega⟩
      clear hc0 hl0
      go_wp2_with fail
      go_ret
      exact ⟨by rw [← HE.out]; rfl, HB.out⟩
    case refine_2 =>
      intro x c kl a b w1 cnt1 hk hl hy hat hrg1 hlt hg1 hs1 hen
      have HB1 := Aside0.mk (HB.out.grown hg1 HB.out.size (fun k hk => by cases hk; exact Nat.le_refl _))
      obtain ⟨l, _, rfl, _⟩ := Maps.keyOf_str Try.underlying9 hk
      obtain ⟨n, hn⟩ : ∃ n : ByteArray, Lit.string l = key n := ⟨⟨l.toArray⟩, rfl⟩
      rw [hn] at hl hat hrg1
      have hsm := (HD.out n).2
      rw [Maps.has_true_of_atKey hat] at hsm
      obtain ⟨c', hc'⟩ := Option.isSome_iff_exists.1 hsm.symm
      have ha := (HD.out n).1
      rw [hc', hat] at ha
      obtain rfl : c = some c' := by
        cases c with
        | none => simp [filV, filE, ha, atD, ptrD] at hy
        | some c => simp [filV, filE, ha, atD, ptrD] at hy; have := hy.1; congr 1; omega
      have ef : filV (some c') = ptrV c' := rfl
      rw [ef] at hen ⊢
      clear ef
      obtain ⟨i, f, hi, hfn, hne, hF⟩ := nameAt_file (H.out.below HB1.out) hc'
      obtain ⟨_, _, vn, vo, hb, hR, _⟩ := hF
      obtain ⟨A, cap, rfl, _, _⟩ := Kd.R_reads hR
      have y0 : w1.cell? ⟨c', 0, none⟩ = some (.slice A f.now.length cap) := (blk_cell hb 0).trans rfl
      have hst := sumL_step (left := fun n => left (key n)) HI.out.nm hi (by rw [hfn]; exact hne) (by rw [hfn]; exact hl)
      have HS1 : Aside0 ((t + f.now.length) + sumL (fun m => left (key m) && !(key m).sameKey (key n)) s.files = s.used) := by
        refine ⟨?_⟩
        have e : (fun m => left (key m) && !(key m).sameKey (key n)) = (fun m => left (key m) && !decide (m = f.name)) := by funext m; rw [key_same, hfn]
        rw [e]
        have := HL.out
        omega
      have HW1 : Aside0 (t + f.now.length ≤ 1073741824) := ⟨by
        have h1 := HS1.out
        have h2 := used_le s
        have h3 := HI.out.now
        have h4 := HT.out
        omega⟩
      have HR1 := Aside0.mk hrg1
      have HLT := Aside0.mk hlt
      generalize f.now.length = m at y0 HS1 HW1
      clear hst hb hR hi hfn ha hc' hsm hat hl hk hy hrg1 hlt hg1 hs1
      go_wp2_with fail
      go_roundg cnt1
      case measure => exact HLT.out
      case rel => exact ⟨_, t + m, by have := HW1.out; rw [IntWalk.wrap64_in _ (by omega)]; rfl, HR1, HS1, HB1⟩
end
end Go.Proofs.Ytnegcjgolaakcaa

/- Plain: lists of names, none twice but the empty one; what a name stands for. -/
namespace Go.Proofs.Ytnegcjgolaakcaa
set_option linter.unusedVariables false
set_option linter.unusedSimpArgs false
def idxL (L : List ByteArray) (k : ByteArray) : Option Nat := L.findIdx? (fun x => x = k)
def atL (L : List ByteArray) (ad : List Nat) (k : ByteArray) : Option Nat := if k = nameless then none else (idxL L k).bind (ad[·]?)
def cntL (L : List ByteArray) : Nat := L.countP (fun x => x ≠ nameless)
def UL (L : List ByteArray) : Prop := L.Pairwise (fun x y => x = y → x = nameless)
theorem UL_at {L : List ByteArray} (h : UL L) {i j : Nat} {x : ByteArray} (hi : L[i]? = some x) (hj : L[j]? = some x) (hx : x ≠ nameless) : i = j := by
  obtain ⟨hi1, hi2⟩ := List.getElem?_eq_some_iff.1 hi
  obtain ⟨hj1, hj2⟩ := List.getElem?_eq_some_iff.1 hj
  rcases Nat.lt_trichotomy i j with hlt | rfl | hlt
  · exact absurd ((hi2 ▸ (List.pairwise_iff_getElem.1 h i j hi1 hj1 hlt)) (hj2.symm ▸ rfl)) hx
  · rfl
  · exact absurd ((hj2 ▸ (List.pairwise_iff_getElem.1 h j i hj1 hi1 hlt)) (hi2.symm ▸ rfl)) hx
theorem idxL_some {L : List ByteArray} {k : ByteArray} {i : Nat} (h : idxL L k = some i) : L[i]? = some k := by
  obtain ⟨h1, h2, _⟩ := List.findIdx?_eq_some_iff_getElem.1 h
  rw [List.getElem?_eq_getElem h1]
  simpa using h2
theorem idxL_of {L : List ByteArray} (h : UL L) {k : ByteArray} {i : Nat} (hi : L[i]? = some k) (hk : k ≠ nameless) : idxL L k = some i := by
  cases hf : idxL L k with
  | none =>
    have := List.findIdx?_eq_none_iff.1 hf k (List.mem_of_getElem? hi)
    simp at this
  | some j => rw [UL_at h hi (idxL_some hf) hk]
theorem idxL_none {L : List ByteArray} {k : ByteArray} : idxL L k = none ↔ k ∉ L := by
  unfold idxL
  rw [List.findIdx?_eq_none_iff]
  constructor
  · intro h hk
    have := h k hk
    simp at this
  · intro h x hx
    simp
    rintro rfl
    exact h hx
theorem UL_set {L : List ByteArray} (h : UL L) (i : Nat) (n : ByteArray) (hn : n = nameless ∨ ∀ j, j ≠ i → L[j]? ≠ some n) : UL (L.set i n) := by
  unfold UL
  rw [List.pairwise_iff_getElem]
  intro a b ha hb hab he
  rw [List.length_set] at ha hb
  rw [List.getElem_set, List.getElem_set] at he
  rw [List.getElem_set]
  split at he
  · rename_i h1
    rw [if_neg (by omega)] at he
    rw [if_pos h1]
    rcases hn with hn | hn
    · exact hn
    · exact absurd (by rw [List.getElem?_eq_getElem hb, ← he]) (hn b (by omega))
  · rename_i h1
    rw [if_neg h1]
    split at he
    · rcases hn with hn | hn
      · exact he.trans hn
      · exact absurd (by rw [List.getElem?_eq_getElem ha, he]) (hn a (by omega))
    · exact List.pairwise_iff_getElem.1 h a b ha hb hab he
theorem UL_push {L : List ByteArray} (h : UL L) (n : ByteArray) (hn : n = nameless ∨ n ∉ L) : UL (L ++ [n]) := by
  unfold UL
  rw [List.pairwise_append]
  refine ⟨h, by simp, fun a ha b hb he => ?_⟩
  obtain rfl : b = n := by simpa using hb
  rcases hn with hn | hn
  · exact he.trans hn
  · exact absurd (he ▸ ha) hn
theorem atL_set {L : List ByteArray} (h : UL L) {ad : List Nat} (hl : ad.length = L.length) {i : Nat} {m : ByteArray} (hi : L[i]? = some m) (n : ByteArray) (hn : n = nameless ∨ ∀ j, j ≠ i → L[j]? ≠ some n) (k : ByteArray) :
    atL (L.set i n) ad k = if k = n ∧ n ≠ nameless then ad[i]? else if k = m then none else atL L ad k := by
  have hil := (List.getElem?_eq_some_iff.1 hi).1
  unfold atL
  by_cases hk : k = nameless
  · rw [if_pos hk]
    subst hk
    by_cases h0 : nameless = n
    · subst h0; simp
    · rw [if_neg (fun h => h0 h.1)]; simp
  · rw [if_neg hk, if_neg hk]
    by_cases hkn : k = n
    · subst hkn
      rw [if_pos ⟨rfl, hk⟩, idxL_of (i := i) (UL_set h i k hn) (by rw [List.getElem?_set]; simp [hil]) hk]
      rfl
    · rw [if_neg (fun h => hkn h.1)]
      by_cases hkm : k = m
      · subst hkm
        rw [if_pos rfl]
        have : idxL (L.set i n) k = none := by
          rw [idxL_none]
          intro hm
          obtain ⟨j, hj⟩ := List.mem_iff_getElem?.1 hm
          rw [List.getElem?_set] at hj
          split at hj
          · rename_i hij
            try rw [if_pos hil] at hj
            exact hkn (Option.some.inj hj).symm
          · rename_i hij
            exact hij (UL_at h hi hj hk)
        rw [this]
        rfl
      · rw [if_neg hkm]
        congr 1
        cases hf : idxL L k with
        | none =>
          rw [idxL_none] at hf ⊢
          intro hm
          obtain ⟨j, hj⟩ := List.mem_iff_getElem?.1 hm
          rw [List.getElem?_set] at hj
          split at hj
          · try rw [if_pos hil] at hj
            exact hkn (Option.some.inj hj).symm
          · exact hf (List.mem_of_getElem? hj)
        | some j =>
          have hj := idxL_some hf
          have hij : i ≠ j := by
            rintro rfl
            rw [hi] at hj
            exact hkm (Option.some.inj hj).symm
          exact idxL_of (UL_set h i n hn) (by rw [List.getElem?_set, if_neg hij]; exact hj) hk
theorem atL_push {L : List ByteArray} (h : UL L) {ad : List Nat} (hl : ad.length = L.length) (n : ByteArray) (c : Nat) (hn : n = nameless ∨ n ∉ L) (k : ByteArray) :
    atL (L ++ [n]) (ad ++ [c]) k = if k = n ∧ n ≠ nameless then some c else atL L ad k := by
  unfold atL
  by_cases hk : k = nameless
  · subst hk
    rw [if_pos rfl, if_pos rfl]
    by_cases h0 : nameless = n
    · subst h0; simp
    · rw [if_neg (fun h => h0 h.1)]
  · rw [if_neg hk, if_neg hk]
    by_cases hkn : k = n
    · subst hkn
      rw [if_pos ⟨rfl, hk⟩, idxL_of (i := L.length) (UL_push h k hn) (by simp) hk]
      simp [hl]
    · rw [if_neg (fun h => hkn h.1)]
      cases hf : idxL L k with
      | none =>
        have : idxL (L ++ [n]) k = none := by
          rw [idxL_none] at hf ⊢
          simp [hf, hkn]
        rw [this]; rfl
      | some j =>
        have hj := idxL_some hf
        have hjl := (List.getElem?_eq_some_iff.1 hj).1
        rw [idxL_of (UL_push h n hn) (i := j) (by rw [List.getElem?_append_left hjl]; exact hj) hk]
        simp only [Option.bind_some]
        rw [List.getElem?_append_left (by omega)]
theorem cntL_set {L : List ByteArray} {i : Nat} {m : ByteArray} (hi : L[i]? = some m) (n : ByteArray) : cntL (L.set i n) + (if m = nameless then 0 else 1) = cntL L + (if n = nameless then 0 else 1) := by
  obtain ⟨hil, hm⟩ := List.getElem?_eq_some_iff.1 hi
  unfold cntL
  rw [List.countP_set hil, hm]
  have : m ≠ nameless → 0 < L.countP (fun x => decide (x ≠ nameless)) := fun h => List.countP_pos_iff.2 ⟨m, List.mem_of_getElem? hi, by simpa using h⟩
  generalize L.countP (fun x => decide (x ≠ nameless)) = c at *
  by_cases h1 : m = nameless <;> by_cases h2 : n = nameless <;> simp only [h1, h2, ne_eq, not_true_eq_false, not_false_eq_true, decide_true, decide_false, Bool.false_eq_true, if_true, if_false, forall_const] at this ⊢ <;> omega
theorem cntL_push (L : List ByteArray) (n : ByteArray) : cntL (L ++ [n]) = cntL L + (if n = nameless then 0 else 1) := by
  unfold cntL
  rw [List.countP_append]
  by_cases h : n = nameless <;> simp [h]
theorem map_modify_set {α β : Type} (l : List α) (i : Nat) (g : α → α) (p : α → β) (n : β) (h : ∀ x, p (g x) = n) : (l.modify i g).map p = (l.map p).set i n := by
  apply List.ext_getElem?
  intro j
  rw [List.getElem?_map, List.getElem?_modify, List.getElem?_set, List.length_map, List.getElem?_map]
  by_cases hj : i = j
  · subst hj
    simp only [if_pos]
    by_cases h1 : i < l.length
    · rw [List.getElem?_eq_getElem h1]; simp [h, h1]
    · rw [List.getElem?_eq_none (by omega)]; simp [h1]
  · simp [hj]
theorem map_modify_same {α β : Type} (l : List α) (i : Nat) (g : α → α) (p : α → β) (h : ∀ x, p (g x) = p x) : (l.modify i g).map p = l.map p := by
  apply List.ext_getElem?
  intro j
  rw [List.getElem?_map, List.getElem?_modify, List.getElem?_map]
  by_cases hj : i = j
  · subst hj
    simp only [if_pos]
    cases l[i]? <;> simp [h]
  · simp [hj]
namespace DS
def nmL (s : DS) : List ByteArray := s.files.map PF.name
def fsL (s : DS) : List ByteArray := s.files.map PF.fast
theorem find_L (s : DS) (n : ByteArray) : s.find n = idxL s.nmL n := by
  unfold find idxL nmL
  rw [List.findIdx?_map]
  rfl
theorem findF_L (s : DS) (n : ByteArray) : s.findF n = idxL s.fsL n := by
  unfold findF idxL fsL
  rw [List.findIdx?_map]
  rfl
theorem nameAt_L (s : DS) (ad : List Nat) (n : ByteArray) : s.nameAt ad n = atL s.nmL ad n := by
  unfold nameAt atL
  rw [find_L]
theorem fastOf_L (s : DS) (ad : List Nat) (n : ByteArray) : s.fastOf ad n = atL s.fsL ad n := by
  unfold fastOf atL
  rw [findF_L]
theorem count_L (s : DS) : s.count = cntL s.nmL := by
  unfold count cntL nmL
  rw [List.countP_eq_length_filter, List.filter_map, List.length_map]
  rfl
theorem countF_L (s : DS) : s.countF = cntL s.fsL := by
  unfold countF cntL fsL
  rw [List.countP_eq_length_filter, List.filter_map, List.length_map]
  rfl
theorem Inv.nmU {T : Nat} {s : DS} (h : s.Inv T) : UL s.nmL := by
  unfold UL nmL
  rw [List.pairwise_map]
  exact h.nm
theorem Inv.fsU {T : Nat} {s : DS} (h : s.Inv T) : UL s.fsL := by
  unfold UL fsL
  rw [List.pairwise_map]
  exact h.fs
end DS
end Go.Proofs.Ytnegcjgolaakcaa

/- A disk in memory, moved: maps that turn, a file's block, the works' row. -/
namespace Go.Proofs.Ytnegcjgolaakcaa
open Go.RowKit Go.Maps
open Go.Proofs.YtnegcjgolaakcaaW.PrintWords Go.Proofs.YtnegcjgolaakcaaW.PrintLast Go.Proofs.YtnegcjgolaakcaaW.PrintMore
set_option linter.unusedVariables false
set_option linter.unusedSimpArgs false
/-- what a map tells -/
def Tells (D : DU) (n : Nat) (get : ByteArray → Option Nat) : Prop := Maps.size D = n ∧ ∀ k, D.atKey (key k) .nil = atD (get k) ∧ Maps.has D (key k) = (get k).isSome
theorem key_ne {m n : ByteArray} (h : ¬ m = n) : key m ≠ key n := by
  intro e
  have e2 : m.data.toList = n.data.toList := by injection e
  exact h (key_inj e2)
theorem isKey (m : ByteArray) : WideAt.IsKeyLit (key m) := by trivial
theorem Tells.put {D : DU} {n : Nat} {get : ByteArray → Option Nat} (hT : Tidy D) (hM : IsMap D) (h : Tells D n get) (m : ByteArray) (c : Nat) : Tells (D.put (key m) (ptrD c)) (if (get m).isSome then n else n + 1) (fun k => if k = m then some c else get k) := by
  refine ⟨?_, fun k => ?_⟩
  · rw [size_put hT, (h.2 m).2, h.1]
  · simp only []
    by_cases hk : k = m
    · subst hk
      rw [atKey_put_same hM (isKey k), has_put_same hM (isKey k), if_pos rfl]
      exact ⟨rfl, rfl⟩
    · rw [atKey_put_other (key_ne hk), has_put_other (key_ne hk), if_neg hk]
      exact h.2 k
theorem Tells.del {D : DU} {n : Nat} {get : ByteArray → Option Nat} (hT : Tidy D) (h : Tells D n get) (m : ByteArray) : Tells (D.del (key m)) (n - (if (get m).isSome then 1 else 0)) (fun k => if k = m then none else get k) := by
  refine ⟨?_, fun k => ?_⟩
  · have := size_del (k := key m) hT
    rw [(h.2 m).2, h.1] at this
    omega
  · simp only []
    by_cases hk : k = m
    · subst hk
      rw [atKey_del_same, has_del_same, if_pos rfl]
      exact ⟨rfl, rfl⟩
    · rw [atKey_del_other (key_ne hk), has_del_other (key_ne hk), if_neg hk]
      exact h.2 k
theorem Tells.congr {D : DU} {n n' : Nat} {get get' : ByteArray → Option Nat} (h : Tells D n get) (hn : n = n') (e : ∀ k, get k = get' k) : Tells D n' get' := ⟨hn ▸ h.1, fun k => e k ▸ h.2 k⟩
theorem MapAt.mk' {w : World} {b n n' : Nat} {get : ByteArray → Option Nat} {D : DU} (h : w.ownsMap Try.prog 9 filE b n' D) (t : Tells D n get) : MapAt w b n get := ⟨D, ownsMap_tight h, t.1, t.2⟩
theorem MapAt.open {w : World} {b n : Nat} {get : ByteArray → Option Nat} (h : MapAt w b n get) : ∃ D : DU, w.ownsMap Try.prog 9 filE b (Maps.size D) D ∧ Tells D n get := by
  obtain ⟨D, h1, h2, h3⟩ := h
  exact ⟨D, h1, h2, h3⟩
/-- blocks of these types stay -/
def Stay (ts : Nat → Prop) (w w' : World) : Prop := ∀ (k : Nat) (c : Array Value) (q : Nat), ts q → w.heap[k]? = some (Obj.cells c q (0, 0)) → w'.heap[k]? = w.heap[k]?
theorem R_objs {α : Type} {d : Kd α} {e : Nat} {w w' : World} {base : Nat} {ok : Nat → Prop} {v : Value} {xs : List α} (h : d.R e w base ok v xs) {ts : Nat → Prop} (hk : Stay ts w w') (ht : ∀ q, q ∈ e :: d.E → ts q) : d.R e w' base ok v xs :=
  Kd.R_mono (Kd.R_step (Kd.R_bound h) (fun k hk' _ => by
    obtain ⟨_, _, _, q, hq, c, hc⟩ := hk'
    exact hk k c q (ht q hq) hc)) (fun _ h => h.1)
theorem bK_E (q : Nat) (h : q ∈ 5 :: bK.E) : q = 5 := by
  rcases List.mem_cons.1 h with h | h
  · exact h
  · cases h
theorem wK_E (q : Nat) (h : q ∈ 76 :: workK.E) : q = 76 ∨ q = 5 := by
  rcases List.mem_cons.1 h with h | h
  · exact .inl h
  · rcases List.mem_cons.1 h with h | h
    · exact .inr h
    · cases h
theorem FileAt.stay {w w' : World} {base : Nat} {ok : Nat → Prop} {g : Nat} {f : PF} (h : FileAt w base ok g f) {ts : Nat → Prop} (hk : Stay ts w w') (h1 : ts 79) (h2 : ts 5) : FileAt w' base ok g f := by
  obtain ⟨o1, o2, vn, vo, h3, h4, h5⟩ := h
  exact ⟨o1, o2, vn, vo, (hk g _ 79 h1 h3).trans h3, R_objs h4 hk (fun q hq => bK_E q hq ▸ h2), R_objs h5 hk (fun q hq => bK_E q hq ▸ h2)⟩
theorem FileAt.rest {w : World} {base : Nat} {ok : Nat → Prop} {g : Nat} {f f' : PF} (h : FileAt w base ok g f) (h1 : f'.now = f.now) (h2 : f'.old = f.old) : FileAt w base ok g f' := by
  obtain ⟨o1, o2, vn, vo, h3, h4, h5⟩ := h
  exact ⟨o1, o2, vn, vo, h3, h1 ▸ h4, h2 ▸ h5⟩
theorem Stay.of_turned {w w' : World} {b : Nat} (h : w.mapTurned w' b) (ts : Nat → Prop) : Stay ts w w' := by
  obtain ⟨es, clock, es', clock', hb, rfl⟩ := h
  intro k c q _ hc
  refine ChangeMaps.heap_setBlock_other hb _ ?_
  rintro rfl
  rw [hb] at hc
  cases hc
theorem Stay.of_alloc (w : World) (o : Obj) (ts : Nat → Prop) : Stay ts w (w.alloc o) := fun k c q _ hc => Below.heap_alloc w o k (blk_lt hc)
theorem Stay.of_below {w w' : World} (h : Below w.heap.size w w') (ts : Nat → Prop) : Stay ts w w' := fun k c q _ hc => h.block k (blk_lt hc)
theorem Stay.trans {w w' w'' : World} {ts : Nat → Prop} (h : Stay ts w w') (h' : Stay ts w' w'') : Stay ts w w'' := fun k c q ht hc => (h' k c q ht ((h k c q ht hc).trans hc)).trans (h k c q ht hc)
/-- a cell of a block of another type is set -/
theorem Stay.of_set {w : World} {x t : Nat} {cs : Array Value} (hx : IsB w x cs t) (j : Nat) (u : Value) {ts : Nat → Prop} (ht : ¬ ts t) : Stay ts w (w.setCell ⟨x, j, none⟩ u) := by
  intro k c q hq hc
  refine Below.heap_setCell w _ u k ?_
  rintro rfl
  have e := hc.symm.trans hx
  injection e with e
  injection e with _ e
  exact ht (e ▸ hq)
theorem Stay.of_grown {w w' : World} {row : Option Nat} (hg : w.grownBy w' row) {t : Nat} (hr : ∀ k, row = some k → ∃ c, w.heap[k]? = some (Obj.cells c t (0, 0))) {ts : Nat → Prop} (ht : ¬ ts t) : Stay ts w w' := by
  intro k c q hq hc
  refine hg.block k (blk_lt hc) ?_
  intro e
  obtain ⟨c', hc'⟩ := hr k e.symm
  have e := hc.symm.trans hc'
  injection e with e
  injection e with _ e
  exact ht (e ▸ hq)
section
variable {w w' : World} {g : Nat} {s s' : DS} {base : Nat} {ok : Nat → Prop} {nb fb : Nat} {v v1 : Value} {ad ad' : List Nat} {T : Nat}
theorem MapAt.noCells {b n : Nat} {get : ByteArray → Option Nat} (h : MapAt w b n get) {c : Array Value} {t : Nat} (hc : w.heap[b]? = some (Obj.cells c t (0, 0))) : False := by
  obtain ⟨D, ⟨es, clock, hb, _⟩, _⟩ := h
  have := hb.symm.trans hc
  cases this
/-- a file's block has turned -/
theorem DiskAt.file (h : DiskAt w g s base ok nb fb v ad) {i c : Nat} {f f' : PF} (hi : s.files[i]? = some f) (hc : ad[i]? = some c) (hk : ∀ k, k ≠ c → k < w.heap.size → w'.heap[k]? = w.heap[k]?) (hF : FileAt w' base ok c f')
    (hn : f'.name = f.name) (hf : f'.fast = f.fast) (hs : s' = { s with files := s.files.set i f' }) : DiskAt w' g s' base ok nb fb v ad := by
  obtain ⟨c0, e0, hF0⟩ := h.fls i f hi
  rw [hc] at e0
  cases e0
  obtain ⟨o1, o2, vn, vo, h3, h4, h5⟩ := hF0
  have hS : Stay (fun q => q ≠ 79) w w' := by
    intro k cc q hq hcc
    refine hk k ?_ (blk_lt hcc)
    rintro rfl
    have e := hcc.symm.trans h3
    injection e with e
    injection e with _ e
    exact hq e
  have hset : s.files.set i f' = s.files.modify i (fun _ => f') := by
    apply List.ext_getElem?
    intro j
    rw [List.getElem?_set, List.getElem?_modify]
    by_cases hj : i = j
    · subst hj
      have hl := (List.getElem?_eq_some_iff.1 hi).1
      simp [hl, hi]
    · simp [hj]
  have hnm : s'.nmL = s.nmL := by
    subst hs
    unfold DS.nmL
    apply List.ext_getElem?
    intro j
    rw [List.getElem?_map, List.getElem?_map, List.getElem?_set]
    by_cases hj : i = j
    · subst hj
      obtain ⟨hl, hl2⟩ := List.getElem?_eq_some_iff.1 hi
      simp [hl, hl2, hn]
    · simp [hj]
  have hfs : s'.fsL = s.fsL := by
    subst hs
    unfold DS.fsL
    apply List.ext_getElem?
    intro j
    rw [List.getElem?_map, List.getElem?_map, List.getElem?_set]
    by_cases hj : i = j
    · subst hj
      obtain ⟨hl, hl2⟩ := List.getElem?_eq_some_iff.1 hi
      simp [hl, hl2, hf]
    · simp [hj]
  have hw : s'.works = s.works := by subst hs; rfl
  have hh : s'.names = s.names ∧ s'.room = s.room ∧ s'.off = s.off ∧ s'.left = s.left := by subst hs; exact ⟨rfl, rfl, rfl, rfl⟩
  have hfl : s'.files = s.files.set i f' := by subst hs; rfl
  clear hs
  refine ⟨?_, h.okg, h.okn, h.okf, h.ne, ?_, ?_, ?_, ?_, ?_, h.nd⟩
  · show IsB w' g (dC s' nb fb v) 68
    have e : dC s' nb fb v = dC s nb fb v := by unfold dC; rw [hh.1, hh.2.1, hh.2.2.1, hh.2.2.2]
    rw [e]
    exact (hS g _ 68 (by decide) h.blk).trans h.blk
  · rw [DS.count_L, hnm, ← DS.count_L]
    exact (h.nms.heap (hk nb (fun e => h.nms.noCells (e ▸ h3)) h.nms.lt)).congr (fun k => by rw [DS.nameAt_L, DS.nameAt_L, hnm])
  · rw [DS.countF_L, hfs, ← DS.countF_L]
    exact (h.fst.heap (hk fb (fun e => h.fst.noCells (e ▸ h3)) h.fst.lt)).congr (fun k => by rw [DS.fastOf_L, DS.fastOf_L, hfs])
  · rw [hw]
    exact R_objs h.wks hS (fun q hq => by rcases wK_E q hq with rfl | rfl <;> decide)
  · intro j fj hj
    rw [hfl, List.getElem?_set] at hj
    by_cases hij : i = j
    · subst hij
      have hl := (List.getElem?_eq_some_iff.1 hi).1
      rw [if_pos rfl, if_pos hl] at hj
      cases hj
      exact ⟨c, hc, hF⟩
    · rw [if_neg hij] at hj
      obtain ⟨gj, ej, oj1, oj2, wn, wo, k3, k4, k5⟩ := h.fls j fj hj
      refine ⟨gj, ej, oj1, oj2, wn, wo, (hk gj ?_ (blk_lt k3)).trans k3, R_objs k4 hS (fun q hq => bK_E q hq ▸ (by decide)), R_objs k5 hS (fun q hq => bK_E q hq ▸ (by decide))⟩
      rintro rfl
      obtain ⟨hi1, hi2⟩ := List.getElem?_eq_some_iff.1 hc
      obtain ⟨hj1, hj2⟩ := List.getElem?_eq_some_iff.1 ej
      rcases Nat.lt_trichotomy i j with hlt | hlt | hlt
      · exact (List.pairwise_iff_getElem.1 h.nd i j hi1 hj1 hlt) (hi2.trans hj2.symm)
      · exact hij hlt
      · exact (List.pairwise_iff_getElem.1 h.nd j i hj1 hi1 hlt) (hj2.trans hi2.symm)
  · rw [hfl, List.length_set]; exact h.len
/-- the works' row has turned -/
theorem DiskAt.row (h : DiskAt w g s base ok nb fb v ad) {w1 : World} {ws : List PW} (hR : workK.R 76 w1 base ok v1 (ws.map (mwOf ad))) (hg : w.grownBy w1 v.ownBlock) (hs : s' = { s with works := ws }) : DiskAt (w1.setCell ⟨g, 4, none⟩ v1) g s' base ok nb fb v1 ad := by
  subst hs
  have hr : ∀ k, v.ownBlock = some k → ∃ c, w.heap[k]? = some (Obj.cells c 76 (0, 0)) := Kd.R_typed h.wks
  have hS : Stay (fun q => q ≠ 76) w w1 := Stay.of_grown hg hr (by simp)
  have hB : IsB w1 g (dC s nb fb v) 68 := (hS g _ 68 (by decide) h.blk).trans h.blk
  have hS2 : Stay (fun q => q ≠ 68) w1 (w1.setCell ⟨g, 4, none⟩ v1) := Stay.of_set hB 4 v1 (by simp)
  have hm : ∀ b n get, MapAt w b n get → MapAt (w1.setCell ⟨g, 4, none⟩ v1) b n get := fun b n get hM => by
    have h1 : MapAt w1 b n get := hM.heap (hg.block b hM.lt (fun e => by
      obtain ⟨c, hc⟩ := hr b e.symm
      exact hM.noCells hc))
    exact h1.heap (Below.heap_setCell _ _ _ _ (fun e => h1.noCells ((show b = g from e) ▸ hB)))
  refine ⟨blk_put hB 4 v1 rfl, h.okg, h.okn, h.okf, h.ne, hm _ _ _ h.nms, hm _ _ _ h.fst, R_objs hR hS2 (fun q hq => by rcases wK_E q hq with rfl | rfl <;> decide), ?_, h.len, h.nd⟩
  intro i f hi
  obtain ⟨g', e, hF⟩ := h.fls i f hi
  exact ⟨g', e, (hF.stay hS (by decide) (by decide)).stay hS2 (by decide) (by decide)⟩
end
end Go.Proofs.Ytnegcjgolaakcaa

/- (*disk.Disk).step. -/
namespace Go.Proofs.Ytnegcjgolaakcaa
open Go.RowKit Go.Maps
open Go.Proofs.YtnegcjgolaakcaaW.PrintWords Go.Proofs.YtnegcjgolaakcaaW.PrintLast Go.Proofs.YtnegcjgolaakcaaW.PrintMore
set_option linter.unusedVariables false
set_option linter.unusedSimpArgs false
theorem enters_ {P : Program} {f : FuncId} {fn : Func} (h : P.funcs[f]? = some fn) (hn : (fn.name == "runtime.NumGoroutine") = false) (hb : fn.body.isNone = false) (args : Array Value) (W : World) : Sem.run P (callFunc f args) W = .ok (.enter f args) W := by
  have hn' : ¬ fn.name = "runtime.NumGoroutine" := by simpa using hn
  have hb' : ¬ fn.body = none := by intro h; rw [h] at hb; cases hb
  simp [callFunc, h, hn', hb']
theorem at_S {w : World} {A : Option Addr} {n : Nat} {xs : List ByteArray} (h : Kd.string.C w A n xs) (i : Nat) (h1 : i < n) : ∃ (ad : Addr) (hi : i < xs.length), A = some ad ∧ w.cell? (ad.add i) = some (.string xs[i]) := by
  obtain ⟨ad, c, e, _, hK, hc0⟩ := Kd.C_get h ByteArray.empty (i : Int) (by omega) (by omega)
  have hl : i < xs.length := by have := h.1; omega
  have hc : ∀ j u, c[j]? = some u → w.cell? (ad.add (i * 1 + j)) = some u := hc0
  have hK' : c = [.string (xs.getD i ByteArray.empty)] := hK
  subst hK'
  refine ⟨ad, hl, e, ?_⟩
  have hq := hc 0 _ rfl
  rw [Nat.mul_one, Nat.add_zero] at hq
  rw [hq, List.getD_eq_getElem?_getD, List.getElem?_eq_getElem hl]
  rfl
theorem all_nm (ns : List ByteArray) (i : Nat) (h : i < ns.length) : (ns.take (i + 1)).all namedV = ((ns.take i).all namedV && namedV ns[i]) := by
  rw [List.take_succ_eq_append_getElem h, List.all_append]
  simp
theorem all_no (ns : List ByteArray) (i : Nat) (h : i < ns.length) (hb : namedV ns[i] = false) : ns.all namedV = false := by
  rw [List.all_eq_false]
  exact ⟨ns[i], List.getElem_mem h, by simp [hb]⟩
def Enters (f : FuncId) : Prop := ∀ args W', Sem.run Try.prog (callFunc f args) W' = .ok (.enter f args) W'
section
variable {w w' : World} {g : Nat} {s s' : DS} {base : Nat} {ok : Nat → Prop} {nb fb : Nat} {v : Value} {ad : List Nat} {T : Nat}
/-- what a call of a disk leaves -/
def DiskPost (w : World) (g : Nat) (base : Nat) (ok : Nat → Prop) (nb fb : Nat) (r : Int × DS) (e : Ending) (w' : World) : Prop :=
  e = .returned (.int .i64 r.1) ∧ (∃ v' ad', DiskAt w' g r.2 base ok nb fb v' ad') ∧ Fr ok w w'
set_option maxHeartbeats 4000000 in
set_option maxRecDepth 100000 in
theorem step_calls (f : FuncId) (cap : Array Value) (A : Option Addr) (cA : Nat) (ns : List ByteArray) (act : DS → Int × DS) (h : DiskAt w g s base ok nb fb v ad) (hfresh : ∀ k, w.heap.size ≤ k → ok k) (hN : Kd.string.C w A ns.length ns) (hn : ns.length ≤ 1000) (hs : ∀ n ∈ ns, n.size ≤ 9223372036854775807) (hE : Enters f)
    (hL : (act s).1 = 0 → -1 ≤ (act s).2.left ∧ (act s).2.left ≤ 9223372036854775807)
    (hdo : ns.all namedV = true → s.off = false → ∀ W', Below w.heap.size w W' → Calls Try.prog f cap W' (DiskPost W' g base ok nb fb (act s))) :
    Calls Try.prog 38 #[ptrV g, .func (.func f) #[] cap, .slice A ns.length cA] w (DiskPost w g base ok nb fb (s.step ns act)) := by
  have H := Aside0.mk h
  have HF := Aside0.mk hfresh
  have HN := Aside0.mk (And.intro hN (And.intro hn hs))
  have HL := Aside0.mk hL
  have HD := Aside0.mk hdo
  have HE := Aside0.mk hE
  clear h hfresh hN hn hs hL hdo hE
  generalize hr : s.step ns act = r
  have HR := Aside0.mk hr
  clear hr
  go_enter Try.func38, Try.ntmps38
  go_wp2_with fail
  go_loopg [12] ns.length (fun kq v12 w' => ∃ (i : Nat), v12 = .int .i64 i ∧ Aside0 (i + kq = ns.length ∧ (ns.take i).all namedV = true) ∧ Aside0 (Below w.heap.size w w'))
  case atStart => exact ⟨0, rfl, ⟨by omega, rfl⟩, ⟨Below.refl _ _⟩⟩
  case round =>
    obtain ⟨i, rfl, HI, HB⟩ := hrel
    by_cases hlt : i < ns.length
    · have d6 : decide ((i : Int) < (ns.length : Int)) = true := decide_eq_true (by omega)
      have d7 : decide (i < ns.length) = true := decide_eq_true hlt
      obtain ⟨ad2, hli, hA0, k0⟩ := at_S (Kd.C_below HN.out.1 HB.out) i hlt
      subst hA0
      have HAN := Aside0.mk (all_nm ns i hli)
      have HNO := Aside0.mk (all_no ns i hli)
      have HSZ := Aside0.mk (HN.out.2.2 _ (List.getElem_mem hli))
      have HLT := Aside0.mk hlt
      generalize ns[i] = n at k0 HAN HNO HSZ
      have j0 : (0 : Int) ≤ (i : Int) := by omega
      have j1 : (i : Int) < (ns.length : Int) := by omega
      clear hli hlt
      go_wp2_with fail
      refine (named_calls n _ HSZ.out).mono ?_
      rintro e w1 ⟨rfl, hb1⟩
      have HB1 := Aside0.mk (below_step HB.out hb1)
      clear hb1
      cases hnm : namedV n with
      | false =>
        have HR2 : Aside0 (r = (61, s)) := ⟨by rw [← HR.out]; unfold DS.step; rw [HNO.out hnm]; rfl⟩
        clear HB k0 HAN HNO
        go_wp2_with fail
        go_ret
        rw [HR2.out]
        exact ⟨rfl, ⟨_, _, H.out.below HB1.out⟩, Fr.ofBelow HB1.out⟩
      | true =>
        have HI2 : Aside0 ((ns.take (i + 1)).all namedV = true) := ⟨by rw [HAN.out, HI.out.2, hnm]; rfl⟩
        clear HB k0 HAN HNO
        go_wp2_with fail
        go_roundg (gk - 1)
        case measure => have := HI.out.1; have := HLT.out; omega
        case rel => exact ⟨i + 1, next_i6 (by have := HLT.out; have := HN.out.2.1; omega), ⟨by have := HI.out.1; have := HLT.out; omega, HI2.out⟩, HB1⟩
    · have d6 : decide ((i : Int) < (ns.length : Int)) = false := decide_eq_false (by omega)
      have d7 : decide (i < ns.length) = false := decide_eq_false hlt
      have HA : Aside0 (ns.all namedV = true) := ⟨by have h2 := HI.out.2; rwa [List.take_of_length_le (by omega)] at h2⟩
      have H1 := Aside0.mk (H.out.below HB.out)
      clear hlt HI
      have y5 : wr.cell? ⟨g, 5, none⟩ = some (.bool s.off) := (blk_cell H1.out.blk 5).trans rfl
      have hgs := blk_lt H1.out.blk
      cases ho : s.off with
      | true =>
        have HR2 : Aside0 (r = (63, s)) := ⟨by rw [← HR.out]; unfold DS.step; rw [HA.out, ho]; rfl⟩
        rw [ho] at y5
        clear ho
        go_wp2_with fail
        go_ret
        rw [HR2.out]
        exact ⟨rfl, ⟨_, _, H1.out⟩, Fr.ofBelow HB.out⟩
      | false =>
        have HR2 : Aside0 (r = if (act s).1 = 0 then (0, (act s).2.tick) else act s) := ⟨by rw [← HR.out]; unfold DS.step; rw [HA.out, ho]; rfl⟩
        have HDo := Aside0.mk (HD.out HA.out ho wr HB.out)
        rw [ho] at y5
        clear ho HD HR
        go_wp2_with fail
        rw [HE.out, Oper.upon_enter]
        refine HDo.out.mono ?_
        rintro e w2 ⟨rfl, ⟨v2, ad2, h2⟩, hf2⟩
        have H2 := Aside0.mk h2
        have HF2 := Aside0.mk hf2
        have HB2 := Aside0.mk HB.out
        clear h2 hf2 HDo HE
        generalize act s = p at *
        obtain ⟨c, s2⟩ := p
        have z6 : w2.cell? ⟨g, 6, none⟩ = some (.int .i64 s2.left) := (blk_cell H2.out.blk 6).trans rfl
        have z5 : w2.cell? ⟨g, 5, none⟩ = some (.bool s2.off) := (blk_cell H2.out.blk 5).trans rfl
        have hsz2 := blk_lt H2.out.blk
        have f5 := blk_frozen H2.out.blk 5
        have f6 := blk_frozen H2.out.blk 6
        by_cases hc : c = 0
        · subst hc
          by_cases hp : 0 < s2.left
          · have d9 : decide (0 < s2.left) = true := decide_eq_true hp
            have HR3 : Aside0 (r = (0, { s2 with left := s2.left - 1, off := decide (s2.left - 1 = 0) })) := ⟨by rw [HR2.out]; show (0, s2.tick) = _; unfold DS.tick; rw [if_pos hp]⟩
            have hle : -1 ≤ s2.left ∧ s2.left ≤ 9223372036854775807 := HL.out rfl
            have HE1 : Aside0 (wrap64 (s2.left - 1) = s2.left - 1) := ⟨IntWalk.wrap64_in _ (by omega)⟩
            have hgs2 := hsz2
            clear hp HL HR2 hle
            go_wp2_with fail
            go_ret
            rw [HR3.out]
            have F1 : Fr ok w _ := ((Fr.ofBelow HB2.out).trans HF2.out (fun k h _ => h))
            refine ⟨rfl, ⟨_, _, H2.out.head (fun k hk _ => (Below.heap_setCell _ _ _ k hk).trans (Below.heap_setCell _ _ _ k hk)) (blk_put (blk_put H2.out.blk 6 _ rfl) 5 _ (by rw [HE1.out]; rfl)) rfl rfl⟩, Fr.setCell (S := ok) (p := ⟨g, 5, none⟩) (Fr.setCell (S := ok) (p := ⟨g, 6, none⟩) F1 (fun _ => H2.out.okg.1) _) (fun _ => H2.out.okg.1) _⟩
          · have d9 : decide (0 < s2.left) = false := decide_eq_false hp
            have HR3 : Aside0 (r = (0, s2)) := ⟨by rw [HR2.out]; show (0, s2.tick) = _; unfold DS.tick; rw [if_neg hp]⟩
            clear hp HL HR2
            go_wp2_with fail
            go_ret
            rw [HR3.out]
            exact ⟨rfl, ⟨_, _, H2.out⟩, (Fr.ofBelow HB2.out).trans HF2.out (fun k h _ => h)⟩
        · have d9 : (c == 0) = false := by simpa using hc
          have HR3 : Aside0 (r = (c, s2)) := ⟨by rw [HR2.out]; exact if_neg hc⟩
          clear hc HL HR2
          go_wp2_with fail
          go_ret
          rw [HR3.out]
          exact ⟨rfl, ⟨_, _, H2.out⟩, (Fr.ofBelow HB2.out).trans HF2.out (fun k h _ => h)⟩
end
end Go.Proofs.Ytnegcjgolaakcaa

/- (*disk.Disk).put. -/
namespace Go.Proofs.Ytnegcjgolaakcaa
open Go.RowKit Go.Maps
open Go.Proofs.YtnegcjgolaakcaaW.PrintWords Go.Proofs.YtnegcjgolaakcaaW.PrintLast Go.Proofs.YtnegcjgolaakcaaW.PrintMore
set_option linter.unusedVariables false
set_option linter.unusedSimpArgs false
section
variable {w w' : World} {g : Nat} {s s' : DS} {base : Nat} {ok : Nat → Prop} {nb fb : Nat} {v v1 : Value} {ad ad' : List Nat} {T : Nat}
theorem look_none {D : DU} {n : Nat} {get : ByteArray → Option Nat} (h : Tells D n get) {k : ByteArray} (hk : get k = none) {v : Value} {ps : List MemPlace} (hv : filE v = some (D.atKey (key k) .nil, ps)) : v = .pointer none := by
  rw [(h.2 k).1, hk] at hv
  rcases filE_inv hv with ⟨rfl, _⟩ | ⟨b, rfl, hb⟩
  · rfl
  · cases hb
theorem look_some {D : DU} {n : Nat} {get : ByteArray → Option Nat} (h : Tells D n get) {k : ByteArray} {c : Nat} (hk : get k = some c) {v : Value} {ps : List MemPlace} (hv : filE v = some (D.atKey (key k) .nil, ps)) : v = ptrV c := by
  rw [(h.2 k).1, hk] at hv
  rcases filE_inv hv with ⟨rfl, hb⟩ | ⟨b, rfl, hb⟩
  · cases hb
  · injection hb with hb
    injection hb with _ hb
    have : b = c := by omega
    rw [this]
theorem mwOf_push {ad : List Nat} {c : Nat} {p : PW} (h : p.file < ad.length) : mwOf (ad ++ [c]) p = mwOf ad p := by
  unfold mwOf
  rw [List.getD_eq_getElem?_getD, List.getD_eq_getElem?_getD, List.getElem?_append_left h]
theorem not_nameless {n : ByteArray} (h : namedV n = true) : n ≠ nameless := by
  rintro rfl
  simp [namedV, nameless] at h
  
theorem nameAt_inj (h : DiskAt w g s base ok nb fb v ad) {c : Nat} (hc : c ∈ ad) : c < w.heap.size := by
  obtain ⟨i, hi⟩ := List.mem_iff_getElem?.1 hc
  have hl := (List.getElem?_eq_some_iff.1 hi).1
  rw [h.len] at hl
  obtain ⟨g', e, hF⟩ := h.fls i _ (List.getElem?_eq_getElem hl)
  rw [hi] at e
  cases e
  obtain ⟨_, _, _, _, hb, _⟩ := hF
  exact blk_lt hb
/-- a file that has not been there -/
theorem DiskAt.born (h : DiskAt w g s base ok nb fb v ad) (hI : s.Inv T) (hfresh : ∀ k, w.heap.size ≤ k → ok k) {n : ByteArray} (hn : n ≠ nameless) (hf : s.find n = none) {D : DU} (hT : Tidy D) (hM : IsMap D) (hD : Tells D s.count (s.nameAt ad)) {m : Nat} (hown : w'.ownsMap Try.prog 9 filE nb m (D.put (key n) (ptrD w.heap.size)))
    (ht : (w.alloc (.cells #[.slice none 0 0, .slice none 0 0] 79)).mapTurned w' nb) : DiskAt w' g { s with files := s.files ++ [⟨n, nameless, [], []⟩] } base ok nb fb v (ad ++ [w.heap.size]) := by
  have hb : base ≤ w.heap.size := Nat.le_trans h.okg.2 (Nat.le_of_lt (blk_lt h.blk))
  have ha : DiskAt (w.alloc (.cells #[.slice none 0 0, .slice none 0 0] 79)) g s base ok nb fb v ad := h.below ((Below.refl _ _).alloc (Nat.le_refl _) _)
  have hS : Stay (fun _ => True) (w.alloc (.cells #[.slice none 0 0, .slice none 0 0] 79)) w' := Stay.of_turned ht _
  have hg := ht.grown
  have hnone : s.nameAt ad n = none := by unfold DS.nameAt; rw [hf]; split <;> rfl
  have hnm : ({ s with files := s.files ++ [⟨n, nameless, [], []⟩] } : DS).nmL = s.nmL ++ [n] := by simp [DS.nmL]
  have hfs : ({ s with files := s.files ++ [⟨n, nameless, [], []⟩] } : DS).fsL = s.fsL ++ [nameless] := by simp [DS.fsL]
  have hnin : n ∉ s.nmL := by rw [← idxL_none, ← DS.find_L]; exact hf
  refine ⟨(hS g _ 68 trivial ha.blk).trans ha.blk, h.okg, h.okn, h.okf, h.ne, ?_, ?_, ?_, ?_, ?_, ?_⟩
  · refine MapAt.mk' hown ((Tells.put hT hM hD n w.heap.size).congr ?_ (fun k => ?_))
    · rw [hnone, DS.count_L, DS.count_L, hnm, cntL_push, if_neg hn]
      rfl
    · rw [DS.nameAt_L, DS.nameAt_L, hnm, atL_push hI.nmU (by rw [h.len]; simp [DS.nmL]) n _ (.inr hnin)]
      by_cases hk : k = n
      · rw [if_pos hk, if_pos ⟨hk, hn⟩]
      · rw [if_neg hk, if_neg (fun h => hk h.1)]
  · have e : (({ s with files := s.files ++ [⟨n, nameless, [], []⟩] } : DS)).countF = s.countF := by
      rw [DS.countF_L, DS.countF_L, hfs, cntL_push, if_pos rfl]
      rfl
    rw [e]
    refine (ha.fst.heap (hg.block fb ha.fst.lt (fun e => h.ne (by injection e with e; exact e.symm)))).congr (fun k => ?_)
    rw [DS.fastOf_L, DS.fastOf_L, hfs, atL_push hI.fsU (by rw [h.len]; simp [DS.fsL]) nameless _ (.inl rfl), if_neg (fun h => h.2 rfl)]
  · have e : s.works.map (mwOf (ad ++ [w.heap.size])) = s.works.map (mwOf ad) := List.map_congr_left (fun p hp => mwOf_push (by rw [h.len]; exact hI.wf p hp))
    show workK.R 76 w' base ok v (s.works.map (mwOf (ad ++ [w.heap.size])))
    rw [e]
    exact R_objs ha.wks hS (fun _ _ => trivial)
  · intro i f hi
    have hi' : (s.files ++ [⟨n, nameless, [], []⟩])[i]? = some f := hi
    by_cases hil : i < s.files.length
    · rw [List.getElem?_append_left hil] at hi'
      obtain ⟨g', e, hF⟩ := ha.fls i f hi'
      exact ⟨g', by rw [List.getElem?_append_left (by rw [h.len]; exact hil)]; exact e, hF.stay hS trivial trivial⟩
    · have hie : i = s.files.length := by
        have := (List.getElem?_eq_some_iff.1 hi').1
        simp at this
        omega
      subst hie
      rw [List.getElem?_append_right (Nat.le_refl _), Nat.sub_self] at hi'
      cases hi'
      refine ⟨w.heap.size, by rw [← h.len]; simp, hfresh _ (Nat.le_refl _), hb, _, _, (hS w.heap.size _ 79 trivial (blk_new _ _)).trans (blk_new _ _), Kd.R_nil _ _ _ _ _, Kd.R_nil _ _ _ _ _⟩
  · show (ad ++ [w.heap.size]).length = (s.files ++ [_]).length
    simp [h.len]
  · rw [List.nodup_append]
    refine ⟨h.nd, by simp, fun a ha b hb => ?_⟩
    obtain rfl : b = w.heap.size := by simpa using hb
    exact Nat.ne_of_lt (nameAt_inj h ha)
theorem modify_set {α : Type} {l : List α} {i : Nat} {f : α} (h : l[i]? = some f) (p : α → α) : l.modify i p = l.set i (p f) := by
  obtain ⟨hl, h2⟩ := List.getElem?_eq_some_iff.1 h
  apply List.ext_getElem?
  intro j
  rw [List.getElem?_modify, List.getElem?_set]
  by_cases hj : i = j
  · subst hj
    simp [hl, h2]
  · simp [hj]
theorem R_fresh {w : World} {base B : Nat} {ok : Nat → Prop} {u : Value} {xs : List Int} (h : bK.R 5 w B (fun _ => True) u xs) (hb : base ≤ B) (hok : ∀ k, B ≤ k → ok k) : bK.R 5 w base ok u xs :=
  Kd.R_lower (Kd.R_mono (Kd.R_bound h) (fun k hk => hok k hk.2.1)) hb
theorem DiskAt.setNow (h : DiskAt w g s base ok nb fb v ad) {i c : Nat} {f : PF} (hi : s.files[i]? = some f) (hc : ad[i]? = some c) {u : Value} {xs : List Int} (hR : bK.R 5 w base ok u xs) : DiskAt (w.setCell ⟨c, 0, none⟩ u) g (s.setNow i xs) base ok nb fb v ad := by
  obtain ⟨c0, e0, o1, o2, vn, vo, h3, h4, h5⟩ := h.fls i f hi
  rw [hc] at e0
  cases e0
  have hS : Stay (fun q => q ≠ 79) w (w.setCell ⟨c, 0, none⟩ u) := Stay.of_set h3 0 u (by simp)
  exact h.file (f' := { f with now := xs }) hi hc (fun k hk _ => Below.heap_setCell _ _ _ k hk) ⟨o1, o2, u, vo, blk_put h3 0 u rfl, R_objs hR hS (fun q hq => bK_E q hq ▸ (by decide)), R_objs h5 hS (fun q hq => bK_E q hq ▸ (by decide))⟩ rfl rfl (by unfold DS.setNow; rw [modify_set hi])
theorem DiskAt.setOld (h : DiskAt w g s base ok nb fb v ad) {i c : Nat} {f : PF} (hi : s.files[i]? = some f) (hc : ad[i]? = some c) {u : Value} {xs : List Int} (hR : bK.R 5 w base ok u xs) : DiskAt (w.setCell ⟨c, 1, none⟩ u) g (s.setOld i xs) base ok nb fb v ad := by
  obtain ⟨c0, e0, o1, o2, vn, vo, h3, h4, h5⟩ := h.fls i f hi
  rw [hc] at e0
  cases e0
  have hS : Stay (fun q => q ≠ 79) w (w.setCell ⟨c, 1, none⟩ u) := Stay.of_set h3 1 u (by simp)
  exact h.file (f' := { f with old := xs }) hi hc (fun k hk _ => Below.heap_setCell _ _ _ k hk) ⟨o1, o2, vn, u, blk_put h3 1 u rfl, R_objs h4 hS (fun q hq => bK_E q hq ▸ (by decide)), R_objs hR hS (fun q hq => bK_E q hq ▸ (by decide))⟩ rfl rfl (by unfold DS.setOld; rw [modify_set hi])
theorem DiskAt.rowB (h : DiskAt w g s base ok nb fb v ad) {w1 : World} (hg : w.grownBy w1 v.ownBlock) : IsB w1 g (dC s nb fb v) 68 :=
  (Stay.of_grown hg (Kd.R_typed h.wks) (ts := fun q => q ≠ 76) (by simp) g _ 68 (by decide) h.blk).trans h.blk
theorem count_le (s : DS) : s.count ≤ s.files.length := by
  unfold DS.count
  exact List.length_filter_le _ _
def F40RT14 : Bool × List (List Nat × List Nat) := (true, [([], []), ([], []), ([], []), ([2], [2]), ([3], [3]), ([4], [4]), ([], []), ([6], [6]), ([1, 5, 7], [1, 5, 7]), ([0, 0, 1, 2, 3, 4, 5, 6, 7, 8], [0]), ([9, 0, 1, 2, 3, 4, 5, 6, 7, 8], [9]), ([10, 8, 8, 0, 1, 2, 3, 4, 5, 6, 7, 8], [8, 10])])
def F40RB14 : List Nat := [0, 0, 0, 4, 12, 28, 0, 64, 254, 511, 1023, 2047]
theorem F40Rtab14 : rtab .any (opsOf Try.f40 14) = F40RT14 := by kernel_rfl
theorem F40Rbits14 : waitsOk F40RT14.2 F40RB14 = true := by kernel_rfl
def F40RT15 : Bool × List (List Nat × List Nat) := (true, [([], []), ([], []), ([1], [1]), ([2], [2]), ([3], [3]), ([], []), ([5], [5]), ([4, 6], [4, 6]), ([0, 0, 1, 2, 3, 4, 5, 6, 7], [0]), ([8, 0, 1, 2, 3, 4, 5, 6, 7], [8]), ([9, 7, 7, 0, 1, 2, 3, 4, 5, 6, 7], [7, 9])])
def F40RB15 : List Nat := [0, 0, 2, 6, 14, 0, 32, 126, 255, 511, 1023]
theorem F40Rtab15 : rtab .any (opsOf Try.f40 15) = F40RT15 := by kernel_rfl
theorem F40Rbits15 : waitsOk F40RT15.2 F40RB15 = true := by kernel_rfl
set_option maxHeartbeats 4000000 in
set_option maxRecDepth 100000 in
theorem put_none (kind : Int) (n : ByteArray) (b : List Int) (A : Option Addr) (c : Nat) (h : DiskAt w g s base ok nb fb v ad) (hI : s.Inv T) (hT : T ≤ 1073741824) (hfresh : ∀ k, w.heap.size ≤ k → ok k)
    (hn : namedV n = true) (hs : n.size ≤ maxLen) (hb : b.length ≤ 1073741824) (hc : b.length ≤ c) (hC : ∀ W', Fr ok w W' → bK.C W' A b.length b) (hk : kind = 1 ∨ kind = 2) (hf : s.find n = none) :
    Calls Try.prog 40 #[ptrV g, .int .i64 kind, .string n, .slice A b.length c] w (DiskPost w g base ok nb fb (s.put kind n b)) := by
  have hna : s.nameAt ad n = none := by unfold DS.nameAt; rw [hf]; split <;> rfl
  obtain ⟨D, hown, hD⟩ := h.nms.open
  have hhas : Maps.has D (key n) = false := by rw [(hD.2 n).2, hna]; rfl
  have hsz : Maps.size D = s.count := hD.1
  have hgs := blk_lt h.blk
  have y2 : w.cell? ⟨g, 2, none⟩ = some (.map (some nb)) := (blk_cell h.blk 2).trans rfl
  have HO := Aside0.mk hown
  have HD := Aside0.mk hD
  have HNA := Aside0.mk hna
  have HH := Aside0.mk hhas
  have HSZ := Aside0.mk hsz
  have HK := Aside0.mk (key_of hs)
  have H := Aside0.mk h
  have HI := Aside0.mk hI
  have HT := Aside0.mk hT
  have HF := Aside0.mk hfresh
  have HN := Aside0.mk hn
  have HC := Aside0.mk (And.intro hb (And.intro hc hC))
  have HKD := Aside0.mk hk
  have HFN := Aside0.mk hf
  generalize hr : s.put kind n b = r
  have HR := Aside0.mk hr
  clear h hI hT hfresh hn hs hb hc hC hk hf hown hD hna hhas hsz hr
  go_enter Try.func40, Try.ntmps40
  go_wp2_with (first | (at_lookup; refine wpList_lookup_own_ok _ rfl _ _ 65 rfl 9 71 keyLaw Try.underlying65 filE (zeroF _) .nil [] filE_nil nb _ D rfl HO.out _ _ rfl HK.out ?_; intro vl ps hv; have hvl := look_none HD.out HNA.out hv; clear hv; subst hvl; rw [HH.out]) | (at_len; refine wpList_len_own _ rfl _ 65 rfl 9 71 Try.underlying65 filE nb _ D rfl HO.out ?_; rw [HSZ.out]) | fail)
  refine (used_calls H.out HI.out HT.out).mono ?_
  rintro e w1 ⟨rfl, hb1⟩
  have HB1 := Aside0.mk hb1
  clear hb1
  have H1 := Aside0.mk (H.out.below HB1.out)
  have y0 : w1.cell? ⟨g, 0, none⟩ = some (.int .i64 s.names) := (blk_cell H1.out.blk 0).trans rfl
  have y1 : w1.cell? ⟨g, 1, none⟩ = some (.int .i64 s.room) := (blk_cell H1.out.blk 1).trans rfl
  have y2 : w1.cell? ⟨g, 2, none⟩ = some (.map (some nb)) := (blk_cell H1.out.blk 2).trans rfl
  have y4 : w1.cell? ⟨g, 4, none⟩ = some v := (blk_cell H1.out.blk 4).trans rfl
  have hgs1 := blk_lt H1.out.blk
  have HM : Aside0 (Maps.size D < maxLen) := ⟨by have := count_le s; have := HI.out.lf; have := HT.out; rw [HSZ.out]; simp only [maxLen]; omega⟩
  clear HNA HH HSZ
  have HW1 : Aside0 (wrap64 ((s.count : Int) + 1) = s.count + 1) := ⟨IntWalk.wrap64_in _ (by have := (HI.out.lf); have := HT.out; have := count_le s; omega)⟩
  have HW2 : Aside0 (wrap64 ((s.used : Int) + (b.length : Int)) = s.used + b.length) := ⟨IntWalk.wrap64_in _ (by have := (HI.out.now); have := HT.out; have := used_le s; have := HC.out.1; omega)⟩
  have HWN : Aside0 (s.wantN n = s.count + 1 ∧ s.wantB kind n b = s.used + b.length) := ⟨by unfold DS.wantN DS.wantB; rw [HFN.out]; exact ⟨rfl, Int.sub_zero _⟩⟩
  by_cases hq1 : s.names < wrap64 ((s.count : Int) + 1)
  · have d1 : decide (s.names < wrap64 ((s.count : Int) + 1)) = true := decide_eq_true hq1
    have HR2 : Aside0 (r = (62, s)) := ⟨by rw [← HR.out]; unfold DS.put; rw [if_pos (.inl (by rw [HWN.out.1, ← HW1.out]; exact hq1))]⟩
    clear hq1 HW1 HW2 HWN HR
    go_wp2_with fail
    go_ret
    rw [HR2.out]
    exact ⟨rfl, ⟨_, _, H1.out⟩, Fr.ofBelow HB1.out⟩
  · by_cases hq2 : s.room < wrap64 ((s.used : Int) + (b.length : Int))
    · have d1 : decide (s.names < wrap64 ((s.count : Int) + 1)) = false := decide_eq_false hq1
      have d2 : decide (s.room < wrap64 ((s.used : Int) + (b.length : Int))) = true := decide_eq_true hq2
      have HR2 : Aside0 (r = (62, s)) := ⟨by rw [← HR.out]; unfold DS.put; rw [if_pos (.inr (by rw [HWN.out.2, ← HW2.out]; exact hq2))]⟩
      clear hq1 hq2 HW1 HW2 HWN HR
      go_wp2_with fail
      go_ret
      rw [HR2.out]
      exact ⟨rfl, ⟨_, _, H1.out⟩, Fr.ofBelow HB1.out⟩
    · have d1 : decide (s.names < wrap64 ((s.count : Int) + 1)) = false := decide_eq_false hq1
      have d2 : decide (s.room < wrap64 ((s.used : Int) + (b.length : Int))) = false := decide_eq_false hq2
      have HR2 : Aside0 (r = (0, ((s.fresh n).setNow s.files.length b).add ⟨kind, n, nameless, b.length, s.files.length, b⟩)) := ⟨by
        rw [← HR.out]; unfold DS.put; rw [if_neg (by rw [HWN.out.1, HWN.out.2, ← HW1.out, ← HW2.out]; exact fun h => h.elim hq1 hq2)]
        have e : s.spot n = s.files.length := by unfold DS.spot; rw [HFN.out]; rfl
        have e2 : (s.fresh n).nowAt s.files.length = [] := by unfold DS.fresh DS.nowAt; rw [HFN.out]; simp
        rw [e, e2]
        simp⟩
      clear hq1 hq2 HW1 HW2 HWN HR
      have HO2 := Aside0.mk (ownsMap_heap HO.out (w' := w1.alloc (.cells #[.slice none 0 0, .slice none 0 0] 79)) ((Below.heap_alloc w1 _ nb H1.out.nms.lt).trans (HB1.out.block nb HO.out.lt)))
      go_upto_region 12 with (first | (at_mapUpdate; refine wpList_mapUpdate_in _ rfl _ _ _ 65 rfl 9 71 keyLaw Try.underlying65 filE nb _ D rfl HO2.out HM.out _ _ _ rfl rfl HK.out _ _ (filE_ptr _) ?_; intro w3 hown3 hturn3) | fail)
      have H3 := Aside0.mk (H1.out.born HI.out (fun k hk => HF.out k (Nat.le_trans HB1.out.size hk)) (not_nameless HN.out) HFN.out (HO.out.tidy keyLaw) HO.out.isMap HD.out hown3 hturn3)
      have HG3 : Aside0 (w1.heap.size < w3.heap.size) := ⟨Nat.lt_of_lt_of_le (by simp) hturn3.grown.size⟩
      have HFr3 : Aside0 (Fr ok w w3) := ⟨((Fr.ofBelow HB1.out).alloc _).grown hturn3.grown (fun k e _ => by injection e with e; subst e; exact H1.out.okn.1)⟩
      have HFS : Aside0 (s.fresh n = { s with files := s.files ++ [⟨n, nameless, [], []⟩], works := s.works ++ [⟨3, nameless, n, 0, s.files.length, []⟩] }) := ⟨by unfold DS.fresh; rw [HFN.out]⟩
      have HAL : Aside0 (ad.length = s.files.length) := ⟨H1.out.len⟩
      have HLW : Aside0 ((s.works.length + 1) * 80 ≤ 140737488355328) := ⟨by have := HI.out.lw; have := HT.out; omega⟩
      clear hown3 hturn3 HO2 HO HD HM HK y0 y1 y2 y4 hgs1 HB1 H1 HFN d1 d2 H
      obtain ⟨q, hq⟩ : ∃ q, q = w1.heap.size := ⟨_, rfl⟩
      rw [← hq] at H3 HG3 ⊢
      clear hq
      obtain ⟨ad1, had⟩ : ∃ ad1, ad1 = ad ++ [q] := ⟨_, rfl⟩
      rw [← had] at H3
      have HAD := Aside0.mk had
      clear had
      have y4 : w3.cell? ⟨g, 4, none⟩ = some v := (blk_cell H3.out.blk 4).trans rfl
      have hgs3 := blk_lt H3.out.blk
      go_upto_region 13 with (first | ((with_reducible refine gate_builtin (b := .append) (xs := #[.tmp 74, .tmp 79]) rfl ?_); at_builtin; refine Kd.R_append workK (w0 := w3) base rfl (.tmp 74) (.tmp 79) 66 76 (.agg #[.int .i64 0, .string ⟨#[]⟩, .string ⟨#[]⟩, .int .i64 0, .pointer none, .slice none 0 0]) 80 rfl Try.underlying66 info76 rfl (by decide) (by decide) v (s.works.map (mwOf ad1)) (⟨3, nameless, n, 0, q, []⟩ : MW) [.int .i64 3, .string ⟨#[]⟩, .string n, .int .i64 0, ptrV q, .slice none 0 0] ok (fun _ => False) rfl rfl ?aP (fun _ hk => hk.elim) ?aF ?aO ?aB ?aS ?aL ?_; (case aP => exact workK_mkM _ _ _ _ (Kd.R_nil _ _ _ _ _)); (case aF => exact fun k hk => HF.out k (Nat.le_trans HFr3.out.size hk)); (case aO => exact H3.out.wks); (case aB => exact (Below.refl _ _).mono (Nat.le_trans H3.out.okg.2 (Nat.le_of_lt hgs3))); (case aS => exact Nat.le_trans H3.out.okg.2 (Nat.le_of_lt hgs3)); (case aL => rw [List.length_map]; exact HLW.out); intro v4 w4 ho hb hg hat; have hB4 := H3.out.rowB hg; have f4 := blk_frozen hB4 4; have z4 : w4.cell? ⟨g, 4, none⟩ = some v := (blk_cell hB4 4).trans rfl; have HO4 := Aside0.mk ho; have HG4 := Aside0.mk hg; obtain ⟨A4, c4, hv4⟩ := Kd.R_slice HO4.out; generalize hln : (s.works.map (mwOf ad1) ++ [(⟨3, nameless, n, 0, q, []⟩ : MW)]).length = ln at hv4; clear ho hb hg hat hB4 y4 hln; subst hv4) | fail)
      have H5 := Aside0.mk (H3.out.row (ws := s.works ++ [⟨3, nameless, n, 0, s.files.length, []⟩]) (by rw [List.map_append]; have e : mwOf ad1 ⟨3, nameless, n, 0, s.files.length, []⟩ = ⟨3, nameless, n, 0, q, []⟩ := (by unfold mwOf; rw [HAD.out, ← HAL.out]; simp); rw [List.map_cons, List.map_nil, e]; exact HO4.out) HG4.out rfl)
      have HFr5 := Aside0.mk (Fr.setCell (p := ⟨g, 4, none⟩) (HFr3.out.grown HG4.out (fun k e _ => H3.out.wks.1 k e)) (fun _ => H3.out.okg.1) (.slice A4 ln c4))
      have HX : ∃ (w5 : World) (s5 : DS) (f : PF), w5 = w4.setCell ⟨g, 4, none⟩ (.slice A4 ln c4) ∧ DiskAt w5 g s5 base ok nb fb (.slice A4 ln c4) ad1 ∧ Fr ok w w5 ∧ s5.files[s.files.length]? = some f ∧ ad1[s.files.length]? = some q ∧ r = (0, (s5.setNow s.files.length ((if kind = 1 then [] else f.now) ++ b)).add ⟨kind, n, nameless, b.length, s.files.length, b⟩) ∧ f.now.length ≤ 1073741824 ∧ s5.works.length ≤ 1073741825 :=
        ⟨_, _, ⟨n, nameless, [], []⟩, rfl, H5.out, HFr5.out, by simp, by rw [HAD.out, ← HAL.out]; simp, by rw [HR2.out, HFS.out]; simp, by simp, by have := HI.out.lw; have := HT.out; simp; omega⟩
      obtain ⟨w5, s5, f, hw5, hX1, hX2, hX3, hX4, hX5, hX6, hX7⟩ := HX
      have HX1 := Aside0.mk hX1
      have HX2 := Aside0.mk hX2
      have HX3 := Aside0.mk hX3
      have HX4 := Aside0.mk hX4
      have HX5 := Aside0.mk hX5
      have HX6 := Aside0.mk (And.intro hX6 hX7)
      rw [← hw5]
      clear hw5 hX1 hX2 hX3 hX4 hX5 hX6 hX7 H5 HFr5 HR2 HFS HAD HAL HLW H3 HG3 HFr3 HO4 HG4 f4 z4 hgs3
      have HX8 : Aside0 (base ≤ w.heap.size) := ⟨Nat.le_trans HX1.out.okg.2 (Nat.le_of_lt hgs)⟩
      generalize s.files.length = i at *
      generalize Value.slice A4 ln c4 = v5 at *
      have hx1 := HX1.out
      have HV5 := Aside0.mk (Kd.R_lt HX1.out.wks)
      have CA5 := HC.out.2.2 w5 HX2.out
      go_wp2_with fail
      refine (clone_calls A c b w5 CA5 (by have := HC.out.1; omega)).mono ?_
      rintro e w6 ⟨vb, rfl, hR6, hB6⟩
      obtain ⟨B6, cb, rfl, hcb, hC6⟩ := Kd.R_reads hR6
      have HR6 := Aside0.mk hR6
      have HB6 := Aside0.mk hB6
      have HCB := Aside0.mk hcb
      clear hx1 CA5 hR6 hB6 hcb hC6
      go_upto_region 14 with fail
      have H7 := Aside0.mk ((HX1.out.below HB6.out).below ((Below.refl _ _).alloc (Nat.le_refl _) (.cells #[.int .i64 kind, .string n, .string ⟨#[]⟩, .int .i64 b.length, ptrV q, .slice B6 b.length cb] 76)))
      have HFr7 := Aside0.mk (((HX2.out.trans (Fr.ofBelow HB6.out) (fun k h _ => h)) : Fr ok w w6).alloc (.cells #[.int .i64 kind, .string n, .string ⟨#[]⟩, .int .i64 b.length, ptrV q, .slice B6 b.length cb] 76))
      have HK7 := Aside0.mk (blk_new w6 (.cells #[.int .i64 kind, .string n, .string ⟨#[]⟩, .int .i64 b.length, ptrV q, .slice B6 b.length cb] 76))
      have HR7 := Aside0.mk (Kd.R_alloc HR6.out (.cells #[.int .i64 kind, .string n, .string ⟨#[]⟩, .int .i64 b.length, ptrV q, .slice B6 b.length cb] 76))
      have HS7 := Aside0.mk (And.intro HX2.out.size (And.intro HB6.out.size (show w6.heap.size < (w6.alloc (.cells #[.int .i64 kind, .string n, .string ⟨#[]⟩, .int .i64 b.length, ptrV q, .slice B6 b.length cb] 76)).heap.size by simp)))
      generalize w6.alloc (.cells #[.int .i64 kind, .string n, .string ⟨#[]⟩, .int .i64 b.length, ptrV q, .slice B6 b.length cb] 76) = w7 at *
      generalize hgw : w6.heap.size = gw at *
      generalize hb5 : w5.heap.size = m5 at *
      clear hgw hb5 HX1 HX2 HR6 HB6
      obtain ⟨q', eq', hFq⟩ := H7.out.fls _ _ HX3.out
      obtain rfl : q = q' := by rw [HX4.out] at eq'; injection eq'
      obtain ⟨_, _, vn, vo, hbq, hRn, _⟩ := hFq
      obtain ⟨An, cn, rfl, hcn, hCn⟩ := Kd.R_reads hRn
      have HQ7 := Aside0.mk hbq
      have HCN := Aside0.mk (And.intro hcn hCn)
      have k0 : w7.cell? ⟨gw, 0, none⟩ = some (.int .i64 kind) := (blk_cell HK7.out 0).trans rfl
      have k1 : w7.cell? ⟨gw, 1, none⟩ = some (.string n) := (blk_cell HK7.out 1).trans rfl
      have k2 : w7.cell? ⟨gw, 2, none⟩ = some (.string ⟨#[]⟩) := (blk_cell HK7.out 2).trans rfl
      have k3 : w7.cell? ⟨gw, 3, none⟩ = some (.int .i64 b.length) := (blk_cell HK7.out 3).trans rfl
      have k4 : w7.cell? ⟨gw, 4, none⟩ = some (ptrV q) := (blk_cell HK7.out 4).trans rfl
      have k5 : w7.cell? ⟨gw, 5, none⟩ = some (.slice B6 b.length cb) := (blk_cell HK7.out 5).trans rfl
      have q0 : w7.cell? ⟨q, 0, none⟩ = some (.slice An f.now.length cn) := (blk_cell hbq 0).trans rfl
      have fq0 := blk_frozen hbq 0
      have lq := blk_lt hbq
      have lg := blk_lt HK7.out
      clear hbq hRn hcn hCn eq'
      refine start_ (n := 12) (S := fun w' => w'.cell? ⟨gw, 0, none⟩ = some (.int .i64 kind) ∧ w'.cell? ⟨gw, 1, none⟩ = some (.string n) ∧ w'.cell? ⟨gw, 2, none⟩ = some (.string ⟨#[]⟩) ∧ w'.cell? ⟨gw, 3, none⟩ = some (.int .i64 b.length) ∧ w'.cell? ⟨gw, 4, none⟩ = some (ptrV q) ∧ w'.cell? ⟨gw, 5, none⟩ = some (.slice B6 b.length cb) ∧ w'.cell? ⟨q, 0, none⟩ = some (.slice An f.now.length cn)) (ds := [11]) #[false, false, false, false, false, false, false, false, false, false, false, false] (by kernel_rfl) rfl rfl ⟨k0, k1, k2, k3, k4, k5, q0⟩ (fun hHeld => ?_)
      refine with_tabW F40Rtab14 F40Rbits14 (fun HT_ HW_ => ?_)
      refine pure_ (i := 0) (N := some 92) (v := ?_) (a' := ?_) #[true, false, false, false, false, false, false, false, false, false, false, false] rfl rfl (any_of HT_.out (by kernel_rfl)) (fun _ _ _ h => h) (Or.inl ⟨by rfl, ?_⟩) ?_ ?_
      rotate_left
      · intro w'
        go_simp
        with_reducible rfl
      rotate_left
      · simp only [Act.put, List.setIfInBounds_toArray, List.set_cons_zero, List.set_cons_succ, i64_w, i32_w]
        rfl
      refine pure_ (i := 2) (N := some 94) (v := ?_) (a' := ?_) #[true, false, true, false, false, false, false, false, false, false, false, false] rfl rfl (any_of HT_.out (by kernel_rfl)) (fun _ _ _ h => h) (Or.inl ⟨by rfl, ?_⟩) ?_ ?_
      rotate_left
      · intro w'
        go_simp
        with_reducible rfl
      rotate_left
      · simp only [Act.put, List.setIfInBounds_toArray, List.set_cons_zero, List.set_cons_succ, i64_w, i32_w]
        rfl
      refine pure_ (i := 3) (N := some 95) (v := ?_) (a' := ?_) #[true, false, true, true, false, false, false, false, false, false, false, false] rfl rfl (any_of HT_.out (by kernel_rfl)) (fun _ _ _ h => h) (Or.inl ⟨by rfl, ?_⟩) ?_ ?_
      rotate_left
      · intro w'
        go_simp
        with_reducible rfl
      rotate_left
      · simp only [Act.put, List.setIfInBounds_toArray, List.set_cons_zero, List.set_cons_succ, i64_w, i32_w]
        rfl
      refine pure_ (i := 4) (N := some 96) (v := ?_) (a' := ?_) #[true, false, true, true, true, false, false, false, false, false, false, false] rfl rfl (any_of HT_.out (by kernel_rfl)) (fun _ _ _ h => h) (Or.inl ⟨by rfl, ?_⟩) ?_ ?_
      rotate_left
      · intro w'
        go_simp
        with_reducible rfl
      rotate_left
      · simp only [Act.put, List.setIfInBounds_toArray, List.set_cons_zero, List.set_cons_succ, i64_w, i32_w]
        rfl
      refine pure_ (i := 6) (N := some 98) (v := ?_) (a' := ?_) #[true, false, true, true, true, false, true, false, false, false, false, false] rfl rfl (any_of HT_.out (by kernel_rfl)) (fun _ _ _ h => h) (Or.inl ⟨by rfl, ?_⟩) ?_ ?_
      rotate_left
      · intro w'
        go_simp
        with_reducible rfl
      rotate_left
      · simp only [Act.put, List.setIfInBounds_toArray, List.set_cons_zero, List.set_cons_succ, i64_w, i32_w]
        rfl
      refine pure_ (i := 7) (N := some 99) (v := ?_) (a' := ?_) #[true, false, true, true, true, false, true, true, false, false, false, false] rfl rfl (any_of HT_.out (by kernel_rfl)) (fun _ _ _ h => h) (Or.inl ⟨by rfl, ?_⟩) ?_ ?_
      rotate_left
      · intro w'
        go_simp
        with_reducible rfl
      rotate_left
      · simp only [Act.put, List.setIfInBounds_toArray, List.set_cons_zero, List.set_cons_succ, i64_w, i32_w]
        rfl
      refine take_ (i := 1) (N := some 93) (v := ?_) (a' := ?_) #[true, true, true, true, true, false, true, true, false, false, false, false] rfl rfl (take_ofW HT_.out HW_.out (by kernel_rfl)) (fun _ _ _ h => h) (Or.inl ⟨by rfl, ?_⟩) hHeld ?_ ?_
      rotate_left
      · rintro w' ⟨s0, s1, s2, s3, s4, s5, s6⟩
        go_simp
        with_reducible rfl
      rotate_left
      · simp only [Act.put, List.setIfInBounds_toArray, List.set_cons_zero, List.set_cons_succ, i64_w, i32_w]
        rfl
      refine take_ (i := 5) (N := some 97) (v := ?_) (a' := ?_) #[true, true, true, true, true, true, true, true, false, false, false, false] rfl rfl (take_ofW HT_.out HW_.out (by kernel_rfl)) (fun _ _ _ h => h) (Or.inl ⟨by rfl, ?_⟩) hHeld ?_ ?_
      rotate_left
      · rintro w' ⟨s0, s1, s2, s3, s4, s5, s6⟩
        go_simp
        with_reducible rfl
      rotate_left
      · simp only [Act.put, List.setIfInBounds_toArray, List.set_cons_zero, List.set_cons_succ, i64_w, i32_w]
        rfl
      refine one_ (i := 8) (N := some 100) #[true, true, true, true, true, true, true, true, true, false, false, false] rfl rfl (one_of HT_.out (by kernel_rfl)) (by decide) (fun K hK => ?_)
      refine goes_ Try.func69 (by kernel_rfl) rfl #[.agg (cW (⟨kind, n, ⟨#[]⟩, b.length, q, b⟩ : MW) (.slice B6 b.length cb)), .slice An f.now.length cn, .int .i64 b.length] (by rfl) rfl rfl (by simp only [List.map_toArray, List.map_cons, List.map_nil]; rfl) ?_
      with_reducible refine (on_calls (⟨kind, n, ⟨#[]⟩, b.length, q, b⟩ : MW) B6 cb An cn f.now b.length _ HCB.out (Kd.C_drew (Kd.R_reads' HR7.out).2.2) HCN.out.1 (Kd.C_drew HCN.out.2) (by have h1 := HX6.out.1; have h2 := HC.out.1; show f.now.length + b.length ≤ 1099511627776; omega) (by have := HC.out.1; omega)).mono ?_
      rintro e w8 ⟨u, rfl, hR8, hB8⟩
      refine ⟨_, rfl, ?_⟩
      obtain ⟨A8, c8, hu8⟩ := Kd.R_slice hR8
      generalize hl8 : ((if kind = 1 then [] else f.now) ++ b.take b.length).length = l8 at hu8
      have HL8 := Aside0.mk hl8
      have HR8 := Aside0.mk hR8
      subst hu8
      have hB8' : Below w7.heap.size w7 w8 := ⟨hB8.os, hB8.tape, hB8.output, hB8.size, hB8.block⟩
      have HB8 := Aside0.mk hB8'
      have hK8 := blk_below HK7.out hB8'
      have hQ8 := blk_below HQ7.out hB8'
      have fq8 := blk_frozen hQ8 0
      have lq8 := blk_lt hQ8
      have lg8 := blk_lt hK8
      clear hR8 hB8 hl8
      refine hK.out _ _ ⟨(blk_cell hK8 0).trans rfl, (blk_cell hK8 1).trans rfl, (blk_cell hK8 2).trans rfl, (blk_cell hK8 3).trans rfl, (blk_cell hK8 4).trans rfl, (blk_cell hK8 5).trans rfl, (blk_cell hQ8 0).trans rfl⟩ (fun hHeld => ?_)
      clear hK K
      refine norm_ (a' := ?_) ?_ ?_
      rotate_left
      · show Act.put _ (some 100) _ = _
        simp only [Act.put, List.setIfInBounds_toArray, List.set_cons_zero, List.set_cons_succ, i64_w, i32_w]
        rfl
      refine pure_ (i := 9) (N := some 101) (v := ?_) (a' := ?_) #[true, true, true, true, true, true, true, true, true, true, false, false] rfl rfl (any_of HT_.out (by kernel_rfl)) (fun _ _ _ h => h) (Or.inl ⟨by rfl, ?_⟩) ?_ ?_
      rotate_left
      · intro w'
        go_simp
        with_reducible rfl
      rotate_left
      · simp only [Act.put, List.setIfInBounds_toArray, List.set_cons_zero, List.set_cons_succ, i64_w, i32_w]
        rfl
      refine pure_ (i := 10) (N := some 102) (v := ?_) (a' := ?_) #[true, true, true, true, true, true, true, true, true, true, true, false] rfl rfl (any_of HT_.out (by kernel_rfl)) (fun _ _ _ h => h) (Or.inl ⟨by rfl, ?_⟩) ?_ ?_
      rotate_left
      · intro w'
        go_simp
        with_reducible rfl
      rotate_left
      · simp only [Act.put, List.setIfInBounds_toArray, List.set_cons_zero, List.set_cons_succ, i64_w, i32_w]
        rfl
      refine last_ (i := 11) (N := none) #[true, true, true, true, true, true, true, true, true, true, true, true] rfl rfl (one_of HT_.out (by kernel_rfl)) (by decide) (fun K hK => ?_)
      refine skip_ (w1 := ?_) (by rfl) rfl ?_ ?_
      rotate_left
      · go_simp
        rfl
      refine hK.out _ _ ?_
      clear hK K
      refine done_ (done_of HT_.out (by kernel_rfl)) ?_
      go_upto_region 15 with fail
      have hR9 : bK.R 5 w8 w7.heap.size (fun _ => True) (.slice A8 l8 c8) ((if kind = 1 then [] else f.now) ++ b) := by
        have h := HR8.out
        have e : b.take b.length = b := List.take_length
        rw [show (⟨kind, n, ⟨#[]⟩, b.length, q, b⟩ : MW).b = b from rfl, e] at h
        exact h
      have hfr : ∀ k, w7.heap.size ≤ k → ok k := fun k hk => HF.out k (Nat.le_trans HFr7.out.size hk)
      have hbs : base ≤ w7.heap.size := Nat.le_trans H7.out.okg.2 (Nat.le_of_lt (blk_lt H7.out.blk))
      have H9 := Aside0.mk ((H7.out.below HB8.out).setNow HX3.out HX4.out (R_fresh hR9 hbs hfr))
      have hF7 : FileAt w7 base ok q f := by
        obtain ⟨q', eq', hFq⟩ := H7.out.fls _ _ HX3.out
        rw [HX4.out] at eq'
        cases eq'
        exact hFq
      have HFr9 := Aside0.mk (Fr.setCell (p := ⟨q, 0, none⟩) ((HFr7.out.trans (Fr.ofBelow HB8.out) (fun k h _ => h)) : Fr ok w w8) (fun _ => hF7.1) (.slice A8 l8 c8))
      have hS9 : Stay (fun t => t ≠ 79) w7 (w8.setCell ⟨q, 0, none⟩ (.slice A8 l8 c8)) := (Stay.of_below HB8.out _).trans (Stay.of_set (blk_below HQ7.out HB8.out) 0 _ (by simp))
      have HK9 := Aside0.mk ((hS9 gw _ 76 (by decide) HK7.out).trans HK7.out)
      have HR9 := Aside0.mk (R_objs HR7.out hS9 (fun t ht => bK_E t ht ▸ (by decide)))
      have HS9 := Aside0.mk (Nat.le_trans HB8.out.size (show w8.heap.size ≤ (w8.setCell ⟨q, 0, none⟩ (.slice A8 l8 c8)).heap.size by simp [World.setCell]))
      generalize w8.setCell ⟨q, 0, none⟩ (.slice A8 l8 c8) = w9 at *
      clear hR9 hfr hbs hF7 hS9 H7 HFr7 HK7 HR7 HQ7 HCN k0 k1 k2 k3 k4 k5 q0 fq0 lq lg HL8 HR8 HB8
      have k0 : w9.cell? ⟨gw, 0, none⟩ = some (.int .i64 kind) := (blk_cell HK9.out 0).trans rfl
      have k1 : w9.cell? ⟨gw, 1, none⟩ = some (.string n) := (blk_cell HK9.out 1).trans rfl
      have k2 : w9.cell? ⟨gw, 2, none⟩ = some (.string ⟨#[]⟩) := (blk_cell HK9.out 2).trans rfl
      have k3 : w9.cell? ⟨gw, 3, none⟩ = some (.int .i64 b.length) := (blk_cell HK9.out 3).trans rfl
      have k4 : w9.cell? ⟨gw, 4, none⟩ = some (ptrV q) := (blk_cell HK9.out 4).trans rfl
      have k5 : w9.cell? ⟨gw, 5, none⟩ = some (.slice B6 b.length cb) := (blk_cell HK9.out 5).trans rfl
      have g4 : w9.cell? ⟨g, 4, none⟩ = some v5 := (blk_cell H9.out.blk 4).trans rfl
      have fg4 := blk_frozen H9.out.blk 4
      have lg9 := blk_lt H9.out.blk
      refine start_ (n := 11) (S := fun w' => w'.cell? ⟨gw, 0, none⟩ = some (.int .i64 kind) ∧ w'.cell? ⟨gw, 1, none⟩ = some (.string n) ∧ w'.cell? ⟨gw, 2, none⟩ = some (.string ⟨#[]⟩) ∧ w'.cell? ⟨gw, 3, none⟩ = some (.int .i64 b.length) ∧ w'.cell? ⟨gw, 4, none⟩ = some (ptrV q) ∧ w'.cell? ⟨gw, 5, none⟩ = some (.slice B6 b.length cb) ∧ w'.cell? ⟨g, 4, none⟩ = some v5) (ds := [10]) #[false, false, false, false, false, false, false, false, false, false, false] (by kernel_rfl) rfl rfl ⟨k0, k1, k2, k3, k4, k5, g4⟩ (fun hHeld => ?_)
      refine with_tabW F40Rtab15 F40Rbits15 (fun HT_ HW_ => ?_)
      refine pure_ (i := 0) (N := some 103) (v := ?_) (a' := ?_) #[true, false, false, false, false, false, false, false, false, false, false] rfl rfl (any_of HT_.out (by kernel_rfl)) (fun _ _ _ h => h) (Or.inl ⟨by rfl, ?_⟩) ?_ ?_
      rotate_left
      · intro w'
        go_simp
        with_reducible rfl
      rotate_left
      · simp only [Act.put, List.setIfInBounds_toArray, List.set_cons_zero, List.set_cons_succ, i64_w, i32_w]
        rfl
      refine pure_ (i := 1) (N := some 104) (v := ?_) (a' := ?_) #[true, true, false, false, false, false, false, false, false, false, false] rfl rfl (any_of HT_.out (by kernel_rfl)) (fun _ _ _ h => h) (Or.inl ⟨by rfl, ?_⟩) ?_ ?_
      rotate_left
      · intro w'
        go_simp
        with_reducible rfl
      rotate_left
      · simp only [Act.put, List.setIfInBounds_toArray, List.set_cons_zero, List.set_cons_succ, i64_w, i32_w]
        rfl
      refine pure_ (i := 2) (N := some 105) (v := ?_) (a' := ?_) #[true, true, true, false, false, false, false, false, false, false, false] rfl rfl (any_of HT_.out (by kernel_rfl)) (fun _ _ _ h => h) (Or.inl ⟨by rfl, ?_⟩) ?_ ?_
      rotate_left
      · intro w'
        go_simp
        with_reducible rfl
      rotate_left
      · simp only [Act.put, List.setIfInBounds_toArray, List.set_cons_zero, List.set_cons_succ, i64_w, i32_w]
        rfl
      refine pure_ (i := 3) (N := some 106) (v := ?_) (a' := ?_) #[true, true, true, true, false, false, false, false, false, false, false] rfl rfl (any_of HT_.out (by kernel_rfl)) (fun _ _ _ h => h) (Or.inl ⟨by rfl, ?_⟩) ?_ ?_
      rotate_left
      · intro w'
        go_simp
        with_reducible rfl
      rotate_left
      · simp only [Act.put, List.setIfInBounds_toArray, List.set_cons_zero, List.set_cons_succ, i64_w, i32_w]
        rfl
      refine take_ (i := 4) (N := some 107) (v := ?_) (a' := ?_) #[true, true, true, true, true, false, false, false, false, false, false] rfl rfl (take_ofW HT_.out HW_.out (by kernel_rfl)) (fun _ _ _ h => h) (Or.inl ⟨by rfl, ?_⟩) hHeld ?_ ?_
      rotate_left
      · rintro w' ⟨s0, s1, s2, s3, s4, s5, s6⟩
        go_simp
        with_reducible rfl
      rotate_left
      · simp only [Act.put, List.setIfInBounds_toArray, List.set_cons_zero, List.set_cons_succ, i64_w, i32_w]
        rfl
      refine take_ (i := 5) (N := some 108) (v := ?_) (a' := ?_) #[true, true, true, true, true, true, false, false, false, false, false] rfl rfl (take_ofW HT_.out HW_.out (by kernel_rfl)) (fun _ _ _ h => h) (Or.inl ⟨by rfl, ?_⟩) hHeld ?_ ?_
      rotate_left
      · rintro w' ⟨s0, s1, s2, s3, s4, s5, s6⟩
        go_simp
        with_reducible rfl
      rotate_left
      · simp only [Act.put, List.setIfInBounds_toArray, List.set_cons_zero, List.set_cons_succ, i64_w, i32_w]
        rfl
      refine one_ (i := 6) (N := some 109) #[true, true, true, true, true, true, true, false, false, false, false] rfl rfl (one_of HT_.out (by kernel_rfl)) (by decide) (fun K hK => ?_)
      refine value_ (w1 := ?_) (v := ?_) (by rfl) rfl ?_ ?_
      rotate_left 2
      · go_simp
        constructor
        · rfl
        · rfl
      refine hK.out _ _ ⟨(blk_cell (blk_alloc HK9.out _) 0).trans rfl, (blk_cell (blk_alloc HK9.out _) 1).trans rfl, (blk_cell (blk_alloc HK9.out _) 2).trans rfl, (blk_cell (blk_alloc HK9.out _) 3).trans rfl, (blk_cell (blk_alloc HK9.out _) 4).trans rfl, (blk_cell (blk_alloc HK9.out _) 5).trans rfl, (blk_cell (blk_alloc H9.out.blk _) 4).trans rfl⟩ (fun hHeld => ?_)
      clear hK K
      refine norm_ (a' := ?_) ?_ ?_
      rotate_left
      · show Act.put _ (some 109) _ = _
        simp only [Act.put, List.setIfInBounds_toArray, List.set_cons_zero, List.set_cons_succ, i64_w, i32_w]
        rfl
      refine one_ (i := 7) (N := some 110) #[true, true, true, true, true, true, true, true, false, false, false] rfl rfl (one_of HT_.out (by kernel_rfl)) (by decide) (fun K hK => ?_)
      refine Kd.R_append_step workK (W := w9.drew) (w0 := w9.drew) base (by rfl) (.tmp 107) (.tmp 109) 66 76 (.agg #[.int .i64 0, .string ⟨#[]⟩, .string ⟨#[]⟩, .int .i64 0, .pointer none, .slice none 0 0]) 80 rfl Try.underlying66 info76 rfl (by decide) (by decide) v5 ((s5.setNow i ((if kind = 1 then [] else f.now) ++ b)).works.map (mwOf ad1)) (⟨kind, n, ⟨#[]⟩, b.length, q, b⟩ : MW) [.int .i64 kind, .string n, .string ⟨#[]⟩, .int .i64 b.length, ptrV q, .slice B6 b.length cb] ok (fun k => ok k ∧ some k ≠ v5.ownBlock) rfl rfl ?aP (fun _ hk => hk) ?aF ?aO ?aB ?aS ?aL ?_
      (case aP => exact workK_mkM _ _ _ _ (Kd.R_drew (Kd.R_apartR (R_fresh HR9.out (Nat.le_trans HX8.out HS7.out.1) (fun k hk => HF.out k (Nat.le_trans HS7.out.1 hk))) H9.out.wks (fun t ht => bK_E t ht ▸ (by decide)))))
      (case aF => exact fun k hk => HF.out k (Nat.le_trans HFr9.out.size hk))
      (case aO => exact Kd.R_drew H9.out.wks)
      (case aB => exact (Below.refl _ _).mono (Nat.le_trans H9.out.okg.2 (Nat.le_of_lt lg9)))
      (case aS => exact Nat.le_trans H9.out.okg.2 (Nat.le_of_lt lg9))
      (case aL => rw [List.length_map]; have := HX6.out.2; show (s5.works.length + 1) * 80 ≤ 140737488355328; omega)
      intro v10 w10 ho hb hg hat
      have hg' : w9.grownBy w10 v5.ownBlock := ⟨hg.os, hg.tape, hg.output, hg.size, hg.block⟩
      have hB10 := H9.out.rowB hg'
      have hK10 := blk_grown HK9.out hg' (fun e => by have h1 := HV5.out gw e.symm; have h2 := HS7.out.2.1; omega)
      have fg10 := blk_frozen hB10 4
      have lg10 := blk_lt hB10
      have HO10 := Aside0.mk ho
      have HG10 := Aside0.mk hg'
      obtain ⟨A10, c10, hv10⟩ := Kd.R_slice HO10.out
      generalize hl10 : ((s5.setNow i ((if kind = 1 then [] else f.now) ++ b)).works.map (mwOf ad1) ++ [(⟨kind, n, ⟨#[]⟩, b.length, q, b⟩ : MW)]).length = l10 at hv10
      clear ho hb hg hat hl10 hg'
      subst hv10
      refine hK.out _ _ ⟨(blk_cell hK10 0).trans rfl, (blk_cell hK10 1).trans rfl, (blk_cell hK10 2).trans rfl, (blk_cell hK10 3).trans rfl, (blk_cell hK10 4).trans rfl, (blk_cell hK10 5).trans rfl, (blk_cell hB10 4).trans rfl⟩ (fun hHeld => ?_)
      clear hK K
      refine norm_ (a' := ?_) ?_ ?_
      rotate_left
      · show Act.put _ (some 110) _ = _
        simp only [Act.put, List.setIfInBounds_toArray, List.set_cons_zero, List.set_cons_succ, i64_w, i32_w]
        rfl
      refine pure_ (i := 8) (N := some 111) (v := ?_) (a' := ?_) #[true, true, true, true, true, true, true, true, true, false, false] rfl rfl (any_of HT_.out (by kernel_rfl)) (fun _ _ _ h => h) (Or.inl ⟨by rfl, ?_⟩) ?_ ?_
      rotate_left
      · intro w'
        go_simp
        with_reducible rfl
      rotate_left
      · simp only [Act.put, List.setIfInBounds_toArray, List.set_cons_zero, List.set_cons_succ, i64_w, i32_w]
        rfl
      refine pure_ (i := 9) (N := some 112) (v := ?_) (a' := ?_) #[true, true, true, true, true, true, true, true, true, true, false] rfl rfl (any_of HT_.out (by kernel_rfl)) (fun _ _ _ h => h) (Or.inl ⟨by rfl, ?_⟩) ?_ ?_
      rotate_left
      · intro w'
        go_simp
        with_reducible rfl
      rotate_left
      · simp only [Act.put, List.setIfInBounds_toArray, List.set_cons_zero, List.set_cons_succ, i64_w, i32_w]
        rfl
      refine last_ (i := 10) (N := none) #[true, true, true, true, true, true, true, true, true, true, true] rfl rfl (one_of HT_.out (by kernel_rfl)) (by decide) (fun K hK => ?_)
      refine skip_ (w1 := ?_) (by rfl) rfl ?_ ?_
      rotate_left
      · go_simp
        rfl
      refine hK.out _ _ ?_
      clear hK K
      refine done_ (done_of HT_.out (by kernel_rfl)) ?_
      go_wp2_with fail
      go_ret
      have e10 : mwOf ad1 (⟨kind, n, nameless, b.length, i, b⟩ : PW) = (⟨kind, n, ⟨#[]⟩, b.length, q, b⟩ : MW) := by
        unfold mwOf
        rw [List.getD_eq_getElem?_getD, HX4.out]
        rfl
      rw [HX5.out]
      refine ⟨rfl, ⟨_, _, H9.out.row (ws := (s5.setNow i ((if kind = 1 then [] else f.now) ++ b)).works ++ [⟨kind, n, nameless, b.length, i, b⟩]) (by rw [List.map_append, List.map_cons, List.map_nil, e10]; exact HO10.out) HG10.out rfl⟩, ?_⟩
      exact Fr.setCell (p := ⟨g, 4, none⟩) (HFr9.out.grown HG10.out (fun k e _ => H9.out.wks.1 k e)) (fun _ => H9.out.okg.1) _
end
end Go.Proofs.Ytnegcjgolaakcaa

/- (*disk.Disk).put, where the file is there (kind 1). -/
namespace Go.Proofs.Ytnegcjgolaakcaa
open Go.RowKit Go.Maps
open Go.Proofs.YtnegcjgolaakcaaW.PrintWords Go.Proofs.YtnegcjgolaakcaaW.PrintLast Go.Proofs.YtnegcjgolaakcaaW.PrintMore
set_option linter.unusedVariables false
set_option linter.unusedSimpArgs false
section
variable {w w' : World} {g : Nat} {s s' : DS} {base : Nat} {ok : Nat → Prop} {nb fb : Nat} {v v1 : Value} {ad ad' : List Nat} {T : Nat}
theorem spot_file (h : DiskAt w g s base ok nb fb v ad) {n : ByteArray} (hn : n ≠ nameless) {i : Nat} (hf : s.find n = some i) : ∃ f q, s.files[i]? = some f ∧ ad[i]? = some q ∧ s.nameAt ad n = some q := by
  have hi := hf
  rw [DS.find_L] at hi
  have h1 := idxL_some hi
  unfold DS.nmL at h1
  rw [List.getElem?_map] at h1
  obtain ⟨f, hfi, _⟩ := Option.map_eq_some_iff.1 h1
  obtain ⟨q, hq, _⟩ := h.fls i f hfi
  refine ⟨f, q, hfi, hq, ?_⟩
  unfold DS.nameAt
  rw [if_neg hn, hf]
  exact hq
theorem sum_ge {l : List Nat} {x : Nat} (h : x ∈ l) : x ≤ l.sum := by
  induction l with
  | nil => cases h
  | cons y l ih =>
    rw [List.sum_cons]
    rcases List.mem_cons.1 h with rfl | h
    · omega
    · have := ih h; omega
theorem now_le (hI : s.Inv T) {i : Nat} {f : PF} (hf : s.files[i]? = some f) : f.now.length ≤ T :=
  Nat.le_trans (sum_ge (List.mem_map_of_mem (f := fun f : PF => f.now.length) (List.mem_of_getElem? hf))) hI.now
theorem old_le (hI : s.Inv T) {i : Nat} {f : PF} (hf : s.files[i]? = some f) : f.old.length ≤ T :=
  Nat.le_trans (Nat.le_trans (sum_ge (List.mem_map_of_mem (f := fun f : PF => f.old.length) (List.mem_of_getElem? hf))) (Nat.le_add_right _ _)) hI.old
end
section
variable {w w' : World} {g : Nat} {s s' : DS} {base : Nat} {ok : Nat → Prop} {nb fb : Nat} {v v1 : Value} {ad ad' : List Nat} {T : Nat}
set_option maxHeartbeats 4000000 in
set_option maxRecDepth 100000 in
theorem put_some1 (kind : Int) (n : ByteArray) (b : List Int) (A : Option Addr) (c : Nat) (h : DiskAt w g s base ok nb fb v ad) (hI : s.Inv T) (hT : T ≤ 1073741824) (hfresh : ∀ k, w.heap.size ≤ k → ok k)
    (hn : namedV n = true) (hs : n.size ≤ maxLen) (hb : b.length ≤ 1073741824) (hc : b.length ≤ c) (hC : ∀ W', Fr ok w W' → bK.C W' A b.length b) (hk : kind = 1) {i : Nat} (hf : s.find n = some i) :
    Calls Try.prog 40 #[ptrV g, .int .i64 kind, .string n, .slice A b.length c] w (DiskPost w g base ok nb fb (s.put kind n b)) := by
  obtain ⟨f, q, hfi, hqi, hna⟩ := spot_file h (not_nameless hn) hf
  have hlen : f.now.length ≤ T := now_le hI hfi
  obtain ⟨D, hown, hD⟩ := h.nms.open
  have hhas : Maps.has D (key n) = true := by rw [(hD.2 n).2, hna]; rfl
  have hsz : Maps.size D = s.count := hD.1
  have hgs := blk_lt h.blk
  have y2 : w.cell? ⟨g, 2, none⟩ = some (.map (some nb)) := (blk_cell h.blk 2).trans rfl
  have HO := Aside0.mk hown
  have HD := Aside0.mk hD
  have HNA := Aside0.mk hna
  have HH := Aside0.mk hhas
  have HSZ := Aside0.mk hsz
  have HK := Aside0.mk (key_of hs)
  have H := Aside0.mk h
  have HI := Aside0.mk hI
  have HT := Aside0.mk hT
  have HF := Aside0.mk hfresh
  have HN := Aside0.mk hn
  have HC := Aside0.mk (And.intro hb (And.intro hc hC))
  have HKD := Aside0.mk hk
  have dk : (kind == 1) = true := by rw [hk]; rfl
  have HFN := Aside0.mk hf
  have HX3 := Aside0.mk hfi
  have HX4 := Aside0.mk hqi
  have HLN := Aside0.mk hlen
  generalize hr : s.put kind n b = r
  have HR := Aside0.mk hr
  clear h hI hT hfresh hn hs hb hc hC hk hf hown hD hna hhas hsz hr hfi hqi hlen
  go_enter Try.func40, Try.ntmps40
  go_wp2_with (first | (at_lookup; refine wpList_lookup_own_ok _ rfl _ _ 65 rfl 9 71 keyLaw Try.underlying65 filE (zeroF _) .nil [] filE_nil nb _ D rfl HO.out _ _ rfl HK.out ?_; intro vl ps hv; have hvl := look_some HD.out HNA.out hv; clear hv; subst hvl; rw [HH.out]) | (at_len; refine wpList_len_own _ rfl _ 65 rfl 9 71 Try.underlying65 filE nb _ D rfl HO.out ?_; rw [HSZ.out]) | fail)
  refine (used_calls H.out HI.out HT.out).mono ?_
  rintro e w1 ⟨rfl, hb1⟩
  have HB1 := Aside0.mk hb1
  clear hb1
  have H1 := Aside0.mk (H.out.below HB1.out)
  have y0 : w1.cell? ⟨g, 0, none⟩ = some (.int .i64 s.names) := (blk_cell H1.out.blk 0).trans rfl
  have y1 : w1.cell? ⟨g, 1, none⟩ = some (.int .i64 s.room) := (blk_cell H1.out.blk 1).trans rfl
  have hgs1 := blk_lt H1.out.blk
  obtain ⟨q', eq', hFq⟩ := H1.out.fls _ _ HX3.out
  obtain rfl : q = q' := by rw [HX4.out] at eq'; injection eq'
  obtain ⟨_, _, vn, vo, hbq, hRn, _⟩ := hFq
  obtain ⟨An, cn, rfl, hcn, hCn⟩ := Kd.R_reads hRn
  have q0 : w1.cell? ⟨q, 0, none⟩ = some (.slice An f.now.length cn) := (blk_cell hbq 0).trans rfl
  have lq := blk_lt hbq
  clear eq' hbq hRn hcn hCn
  clear HO HD HNA HH HSZ H
  have HW2 : Aside0 (wrap64 ((s.used : Int) + (b.length : Int)) = s.used + b.length) := ⟨IntWalk.wrap64_in _ (by have := (HI.out.now); have := HT.out; have := used_le s; have := HC.out.1; omega)⟩
  have HW3 : Aside0 (wrap64 (wrap64 ((s.used : Int) + (b.length : Int)) - (f.now.length : Int)) = s.used + b.length - f.now.length) := ⟨by rw [HW2.out]; exact IntWalk.wrap64_in _ (by have := (HI.out.now); have := HT.out; have := used_le s; have := HC.out.1; have := HLN.out; omega)⟩
  have HWN : Aside0 (s.wantN n = s.count ∧ s.wantB kind n b = s.used + b.length - f.now.length) := ⟨by unfold DS.wantN DS.wantB; rw [HFN.out]; refine ⟨Int.add_zero _, ?_⟩; show (s.used : Int) + b.length - (if kind = 1 then ((s.nowAt i).length : Int) else 0) = _; rw [if_pos HKD.out]; unfold DS.nowAt; rw [HX3.out]; rfl⟩
  by_cases hq1 : s.names < (s.count : Int)
  · have d1 : decide (s.names < (s.count : Int)) = true := decide_eq_true hq1
    have HR2 : Aside0 (r = (62, s)) := ⟨by rw [← HR.out]; unfold DS.put; rw [if_pos (.inl (by rw [HWN.out.1]; exact hq1))]⟩
    clear hq1 HW2 HW3 HWN HR
    go_wp2_with fail
    go_ret
    rw [HR2.out]
    exact ⟨rfl, ⟨_, _, H1.out⟩, Fr.ofBelow HB1.out⟩
  · by_cases hq2 : s.room < wrap64 (wrap64 ((s.used : Int) + (b.length : Int)) - (f.now.length : Int))
    · have d1 : decide (s.names < (s.count : Int)) = false := decide_eq_false hq1
      have d2 : decide (s.room < wrap64 (wrap64 ((s.used : Int) + (b.length : Int)) - (f.now.length : Int))) = true := decide_eq_true hq2
      have HR2 : Aside0 (r = (62, s)) := ⟨by rw [← HR.out]; unfold DS.put; rw [if_pos (.inr (by rw [HWN.out.2, ← HW3.out]; exact hq2))]⟩
      clear hq1 hq2 HW2 HW3 HWN HR
      go_wp2_with fail
      go_ret
      rw [HR2.out]
      exact ⟨rfl, ⟨_, _, H1.out⟩, Fr.ofBelow HB1.out⟩
    · have d1 : decide (s.names < (s.count : Int)) = false := decide_eq_false hq1
      have d2 : decide (s.room < wrap64 (wrap64 ((s.used : Int) + (b.length : Int)) - (f.now.length : Int))) = false := decide_eq_false hq2
      have HX5 : Aside0 (r = (0, (s.setNow i ((if kind = 1 then [] else f.now) ++ b)).add ⟨kind, n, nameless, b.length, i, b⟩)) := ⟨by
        rw [← HR.out]; unfold DS.put; rw [if_neg (by rw [HWN.out.1, HWN.out.2, ← HW3.out]; exact fun h => h.elim hq1 hq2)]
        have e : s.spot n = i := by unfold DS.spot; rw [HFN.out]; rfl
        have e3 : s.fresh n = s := by unfold DS.fresh; rw [HFN.out]
        have e2 : s.nowAt i = f.now := by unfold DS.nowAt; rw [HX3.out]; rfl
        rw [e, e3, e2]⟩
      have HX6 : Aside0 (f.now.length ≤ 1073741824 ∧ s.works.length ≤ 1073741825) := ⟨by have := HI.out.lw; have := HT.out; have := HLN.out; omega⟩
      have HX8 : Aside0 (base ≤ w.heap.size) := ⟨Nat.le_trans H1.out.okg.2 (Nat.le_of_lt hgs)⟩
      have HX2 : Aside0 (Fr ok w w1) := ⟨Fr.ofBelow HB1.out⟩
      have HX1 := H1
      clear hq1 hq2 HW2 HW3 HWN HR
      go_upto_region 13 with fail
      clear y0 y1 y2 q0 lq hgs1 d1 d2 dk HB1 H1 HLN HFN
      generalize w1 = w5 at *
      generalize v = v5 at *
      have hx1 := HX1.out
      have HV5 := Aside0.mk (Kd.R_lt HX1.out.wks)
      have CA5 := HC.out.2.2 w5 HX2.out
      go_wp2_with fail
      refine (clone_calls A c b w5 CA5 (by have := HC.out.1; omega)).mono ?_
      rintro e w6 ⟨vb, rfl, hR6, hB6⟩
      obtain ⟨B6, cb, rfl, hcb, hC6⟩ := Kd.R_reads hR6
      have HR6 := Aside0.mk hR6
      have HB6 := Aside0.mk hB6
      have HCB := Aside0.mk hcb
      clear hx1 CA5 hR6 hB6 hcb hC6
      go_upto_region 14 with fail
      have H7 := Aside0.mk ((HX1.out.below HB6.out).below ((Below.refl _ _).alloc (Nat.le_refl _) (.cells #[.int .i64 kind, .string n, .string ⟨#[]⟩, .int .i64 b.length, ptrV q, .slice B6 b.length cb] 76)))
      have HFr7 := Aside0.mk (((HX2.out.trans (Fr.ofBelow HB6.out) (fun k h _ => h)) : Fr ok w w6).alloc (.cells #[.int .i64 kind, .string n, .string ⟨#[]⟩, .int .i64 b.length, ptrV q, .slice B6 b.length cb] 76))
      have HK7 := Aside0.mk (blk_new w6 (.cells #[.int .i64 kind, .string n, .string ⟨#[]⟩, .int .i64 b.length, ptrV q, .slice B6 b.length cb] 76))
      have HR7 := Aside0.mk (Kd.R_alloc HR6.out (.cells #[.int .i64 kind, .string n, .string ⟨#[]⟩, .int .i64 b.length, ptrV q, .slice B6 b.length cb] 76))
      have HS7 := Aside0.mk (And.intro HX2.out.size (And.intro HB6.out.size (show w6.heap.size < (w6.alloc (.cells #[.int .i64 kind, .string n, .string ⟨#[]⟩, .int .i64 b.length, ptrV q, .slice B6 b.length cb] 76)).heap.size by simp)))
      generalize w6.alloc (.cells #[.int .i64 kind, .string n, .string ⟨#[]⟩, .int .i64 b.length, ptrV q, .slice B6 b.length cb] 76) = w7 at *
      generalize hgw : w6.heap.size = gw at *
      generalize hb5 : w5.heap.size = m5 at *
      clear hgw hb5 HX1 HX2 HR6 HB6
      obtain ⟨q', eq', hFq⟩ := H7.out.fls _ _ HX3.out
      obtain rfl : q = q' := by rw [HX4.out] at eq'; injection eq'
      obtain ⟨_, _, vn, vo, hbq, hRn, _⟩ := hFq
      obtain ⟨An, cn, rfl, hcn, hCn⟩ := Kd.R_reads hRn
      have HQ7 := Aside0.mk hbq
      have HCN := Aside0.mk (And.intro hcn hCn)
      have k0 : w7.cell? ⟨gw, 0, none⟩ = some (.int .i64 kind) := (blk_cell HK7.out 0).trans rfl
      have k1 : w7.cell? ⟨gw, 1, none⟩ = some (.string n) := (blk_cell HK7.out 1).trans rfl
      have k2 : w7.cell? ⟨gw, 2, none⟩ = some (.string ⟨#[]⟩) := (blk_cell HK7.out 2).trans rfl
      have k3 : w7.cell? ⟨gw, 3, none⟩ = some (.int .i64 b.length) := (blk_cell HK7.out 3).trans rfl
      have k4 : w7.cell? ⟨gw, 4, none⟩ = some (ptrV q) := (blk_cell HK7.out 4).trans rfl
      have k5 : w7.cell? ⟨gw, 5, none⟩ = some (.slice B6 b.length cb) := (blk_cell HK7.out 5).trans rfl
      have q0 : w7.cell? ⟨q, 0, none⟩ = some (.slice An f.now.length cn) := (blk_cell hbq 0).trans rfl
      have fq0 := blk_frozen hbq 0
      have lq := blk_lt hbq
      have lg := blk_lt HK7.out
      clear hbq hRn hcn hCn eq'
      refine start_ (n := 12) (S := fun w' => w'.cell? ⟨gw, 0, none⟩ = some (.int .i64 kind) ∧ w'.cell? ⟨gw, 1, none⟩ = some (.string n) ∧ w'.cell? ⟨gw, 2, none⟩ = some (.string ⟨#[]⟩) ∧ w'.cell? ⟨gw, 3, none⟩ = some (.int .i64 b.length) ∧ w'.cell? ⟨gw, 4, none⟩ = some (ptrV q) ∧ w'.cell? ⟨gw, 5, none⟩ = some (.slice B6 b.length cb) ∧ w'.cell? ⟨q, 0, none⟩ = some (.slice An f.now.length cn)) (ds := [11]) #[false, false, false, false, false, false, false, false, false, false, false, false] (by kernel_rfl) rfl rfl ⟨k0, k1, k2, k3, k4, k5, q0⟩ (fun hHeld => ?_)
      refine with_tabW F40Rtab14 F40Rbits14 (fun HT_ HW_ => ?_)
      refine pure_ (i := 0) (N := some 92) (v := ?_) (a' := ?_) #[true, false, false, false, false, false, false, false, false, false, false, false] rfl rfl (any_of HT_.out (by kernel_rfl)) (fun _ _ _ h => h) (Or.inl ⟨by rfl, ?_⟩) ?_ ?_
      rotate_left
      · intro w'
        go_simp
        with_reducible rfl
      rotate_left
      · simp only [Act.put, List.setIfInBounds_toArray, List.set_cons_zero, List.set_cons_succ, i64_w, i32_w]
        rfl
      refine pure_ (i := 2) (N := some 94) (v := ?_) (a' := ?_) #[true, false, true, false, false, false, false, false, false, false, false, false] rfl rfl (any_of HT_.out (by kernel_rfl)) (fun _ _ _ h => h) (Or.inl ⟨by rfl, ?_⟩) ?_ ?_
      rotate_left
      · intro w'
        go_simp
        with_reducible rfl
      rotate_left
      · simp only [Act.put, List.setIfInBounds_toArray, List.set_cons_zero, List.set_cons_succ, i64_w, i32_w]
        rfl
      refine pure_ (i := 3) (N := some 95) (v := ?_) (a' := ?_) #[true, false, true, true, false, false, false, false, false, false, false, false] rfl rfl (any_of HT_.out (by kernel_rfl)) (fun _ _ _ h => h) (Or.inl ⟨by rfl, ?_⟩) ?_ ?_
      rotate_left
      · intro w'
        go_simp
        with_reducible rfl
      rotate_left
      · simp only [Act.put, List.setIfInBounds_toArray, List.set_cons_zero, List.set_cons_succ, i64_w, i32_w]
        rfl
      refine pure_ (i := 4) (N := some 96) (v := ?_) (a' := ?_) #[true, false, true, true, true, false, false, false, false, false, false, false] rfl rfl (any_of HT_.out (by kernel_rfl)) (fun _ _ _ h => h) (Or.inl ⟨by rfl, ?_⟩) ?_ ?_
      rotate_left
      · intro w'
        go_simp
        with_reducible rfl
      rotate_left
      · simp only [Act.put, List.setIfInBounds_toArray, List.set_cons_zero, List.set_cons_succ, i64_w, i32_w]
        rfl
      refine pure_ (i := 6) (N := some 98) (v := ?_) (a' := ?_) #[true, false, true, true, true, false, true, false, false, false, false, false] rfl rfl (any_of HT_.out (by kernel_rfl)) (fun _ _ _ h => h) (Or.inl ⟨by rfl, ?_⟩) ?_ ?_
      rotate_left
      · intro w'
        go_simp
        with_reducible rfl
      rotate_left
      · simp only [Act.put, List.setIfInBounds_toArray, List.set_cons_zero, List.set_cons_succ, i64_w, i32_w]
        rfl
      refine pure_ (i := 7) (N := some 99) (v := ?_) (a' := ?_) #[true, false, true, true, true, false, true, true, false, false, false, false] rfl rfl (any_of HT_.out (by kernel_rfl)) (fun _ _ _ h => h) (Or.inl ⟨by rfl, ?_⟩) ?_ ?_
      rotate_left
      · intro w'
        go_simp
        with_reducible rfl
      rotate_left
      · simp only [Act.put, List.setIfInBounds_toArray, List.set_cons_zero, List.set_cons_succ, i64_w, i32_w]
        rfl
      refine take_ (i := 1) (N := some 93) (v := ?_) (a' := ?_) #[true, true, true, true, true, false, true, true, false, false, false, false] rfl rfl (take_ofW HT_.out HW_.out (by kernel_rfl)) (fun _ _ _ h => h) (Or.inl ⟨by rfl, ?_⟩) hHeld ?_ ?_
      rotate_left
      · rintro w' ⟨s0, s1, s2, s3, s4, s5, s6⟩
        go_simp
        with_reducible rfl
      rotate_left
      · simp only [Act.put, List.setIfInBounds_toArray, List.set_cons_zero, List.set_cons_succ, i64_w, i32_w]
        rfl
      refine take_ (i := 5) (N := some 97) (v := ?_) (a' := ?_) #[true, true, true, true, true, true, true, true, false, false, false, false] rfl rfl (take_ofW HT_.out HW_.out (by kernel_rfl)) (fun _ _ _ h => h) (Or.inl ⟨by rfl, ?_⟩) hHeld ?_ ?_
      rotate_left
      · rintro w' ⟨s0, s1, s2, s3, s4, s5, s6⟩
        go_simp
        with_reducible rfl
      rotate_left
      · simp only [Act.put, List.setIfInBounds_toArray, List.set_cons_zero, List.set_cons_succ, i64_w, i32_w]
        rfl
      refine one_ (i := 8) (N := some 100) #[true, true, true, true, true, true, true, true, true, false, false, false] rfl rfl (one_of HT_.out (by kernel_rfl)) (by decide) (fun K hK => ?_)
      refine goes_ Try.func69 (by kernel_rfl) rfl #[.agg (cW (⟨kind, n, ⟨#[]⟩, b.length, q, b⟩ : MW) (.slice B6 b.length cb)), .slice An f.now.length cn, .int .i64 b.length] (by rfl) rfl rfl (by simp only [List.map_toArray, List.map_cons, List.map_nil]; rfl) ?_
      with_reducible refine (on_calls (⟨kind, n, ⟨#[]⟩, b.length, q, b⟩ : MW) B6 cb An cn f.now b.length _ HCB.out (Kd.C_drew (Kd.R_reads' HR7.out).2.2) HCN.out.1 (Kd.C_drew HCN.out.2) (by have h1 := HX6.out.1; have h2 := HC.out.1; show f.now.length + b.length ≤ 1099511627776; omega) (by have := HC.out.1; omega)).mono ?_
      rintro e w8 ⟨u, rfl, hR8, hB8⟩
      refine ⟨_, rfl, ?_⟩
      obtain ⟨A8, c8, hu8⟩ := Kd.R_slice hR8
      generalize hl8 : ((if kind = 1 then [] else f.now) ++ b.take b.length).length = l8 at hu8
      have HL8 := Aside0.mk hl8
      have HR8 := Aside0.mk hR8
      subst hu8
      have hB8' : Below w7.heap.size w7 w8 := ⟨hB8.os, hB8.tape, hB8.output, hB8.size, hB8.block⟩
      have HB8 := Aside0.mk hB8'
      have hK8 := blk_below HK7.out hB8'
      have hQ8 := blk_below HQ7.out hB8'
      have fq8 := blk_frozen hQ8 0
      have lq8 := blk_lt hQ8
      have lg8 := blk_lt hK8
      clear hR8 hB8 hl8
      refine hK.out _ _ ⟨(blk_cell hK8 0).trans rfl, (blk_cell hK8 1).trans rfl, (blk_cell hK8 2).trans rfl, (blk_cell hK8 3).trans rfl, (blk_cell hK8 4).trans rfl, (blk_cell hK8 5).trans rfl, (blk_cell hQ8 0).trans rfl⟩ (fun hHeld => ?_)
      clear hK K
      refine norm_ (a' := ?_) ?_ ?_
      rotate_left
      · show Act.put _ (some 100) _ = _
        simp only [Act.put, List.setIfInBounds_toArray, List.set_cons_zero, List.set_cons_succ, i64_w, i32_w]
        rfl
      refine pure_ (i := 9) (N := some 101) (v := ?_) (a' := ?_) #[true, true, true, true, true, true, true, true, true, true, false, false] rfl rfl (any_of HT_.out (by kernel_rfl)) (fun _ _ _ h => h) (Or.inl ⟨by rfl, ?_⟩) ?_ ?_
      rotate_left
      · intro w'
        go_simp
        with_reducible rfl
      rotate_left
      · simp only [Act.put, List.setIfInBounds_toArray, List.set_cons_zero, List.set_cons_succ, i64_w, i32_w]
        rfl
      refine pure_ (i := 10) (N := some 102) (v := ?_) (a' := ?_) #[true, true, true, true, true, true, true, true, true, true, true, false] rfl rfl (any_of HT_.out (by kernel_rfl)) (fun _ _ _ h => h) (Or.inl ⟨by rfl, ?_⟩) ?_ ?_
      rotate_left
      · intro w'
        go_simp
        with_reducible rfl
      rotate_left
      · simp only [Act.put, List.setIfInBounds_toArray, List.set_cons_zero, List.set_cons_succ, i64_w, i32_w]
        rfl
      refine last_ (i := 11) (N := none) #[true, true, true, true, true, true, true, true, true, true, true, true] rfl rfl (one_of HT_.out (by kernel_rfl)) (by decide) (fun K hK => ?_)
      refine skip_ (w1 := ?_) (by rfl) rfl ?_ ?_
      rotate_left
      · go_simp
        rfl
      refine hK.out _ _ ?_
      clear hK K
      refine done_ (done_of HT_.out (by kernel_rfl)) ?_
      go_upto_region 15 with fail
      have hR9 : bK.R 5 w8 w7.heap.size (fun _ => True) (.slice A8 l8 c8) ((if kind = 1 then [] else f.now) ++ b) := by
        have h := HR8.out
        have e : b.take b.length = b := List.take_length
        rw [show (⟨kind, n, ⟨#[]⟩, b.length, q, b⟩ : MW).b = b from rfl, e] at h
        exact h
      have hfr : ∀ k, w7.heap.size ≤ k → ok k := fun k hk => HF.out k (Nat.le_trans HFr7.out.size hk)
      have hbs : base ≤ w7.heap.size := Nat.le_trans H7.out.okg.2 (Nat.le_of_lt (blk_lt H7.out.blk))
      have H9 := Aside0.mk ((H7.out.below HB8.out).setNow HX3.out HX4.out (R_fresh hR9 hbs hfr))
      have hF7 : FileAt w7 base ok q f := by
        obtain ⟨q', eq', hFq⟩ := H7.out.fls _ _ HX3.out
        rw [HX4.out] at eq'
        cases eq'
        exact hFq
      have HFr9 := Aside0.mk (Fr.setCell (p := ⟨q, 0, none⟩) ((HFr7.out.trans (Fr.ofBelow HB8.out) (fun k h _ => h)) : Fr ok w w8) (fun _ => hF7.1) (.slice A8 l8 c8))
      have hS9 : Stay (fun t => t ≠ 79) w7 (w8.setCell ⟨q, 0, none⟩ (.slice A8 l8 c8)) := (Stay.of_below HB8.out _).trans (Stay.of_set (blk_below HQ7.out HB8.out) 0 _ (by simp))
      have HK9 := Aside0.mk ((hS9 gw _ 76 (by decide) HK7.out).trans HK7.out)
      have HR9 := Aside0.mk (R_objs HR7.out hS9 (fun t ht => bK_E t ht ▸ (by decide)))
      have HS9 := Aside0.mk (Nat.le_trans HB8.out.size (show w8.heap.size ≤ (w8.setCell ⟨q, 0, none⟩ (.slice A8 l8 c8)).heap.size by simp [World.setCell]))
      generalize w8.setCell ⟨q, 0, none⟩ (.slice A8 l8 c8) = w9 at *
      clear hR9 hfr hbs hF7 hS9 H7 HFr7 HK7 HR7 HQ7 HCN k0 k1 k2 k3 k4 k5 q0 fq0 lq lg HL8 HR8 HB8
      have k0 : w9.cell? ⟨gw, 0, none⟩ = some (.int .i64 kind) := (blk_cell HK9.out 0).trans rfl
      have k1 : w9.cell? ⟨gw, 1, none⟩ = some (.string n) := (blk_cell HK9.out 1).trans rfl
      have k2 : w9.cell? ⟨gw, 2, none⟩ = some (.string ⟨#[]⟩) := (blk_cell HK9.out 2).trans rfl
      have k3 : w9.cell? ⟨gw, 3, none⟩ = some (.int .i64 b.length) := (blk_cell HK9.out 3).trans rfl
      have k4 : w9.cell? ⟨gw, 4, none⟩ = some (ptrV q) := (blk_cell HK9.out 4).trans rfl
      have k5 : w9.cell? ⟨gw, 5, none⟩ = some (.slice B6 b.length cb) := (blk_cell HK9.out 5).trans rfl
      have g4 : w9.cell? ⟨g, 4, none⟩ = some v5 := (blk_cell H9.out.blk 4).trans rfl
      have fg4 := blk_frozen H9.out.blk 4
      have lg9 := blk_lt H9.out.blk
      refine start_ (n := 11) (S := fun w' => w'.cell? ⟨gw, 0, none⟩ = some (.int .i64 kind) ∧ w'.cell? ⟨gw, 1, none⟩ = some (.string n) ∧ w'.cell? ⟨gw, 2, none⟩ = some (.string ⟨#[]⟩) ∧ w'.cell? ⟨gw, 3, none⟩ = some (.int .i64 b.length) ∧ w'.cell? ⟨gw, 4, none⟩ = some (ptrV q) ∧ w'.cell? ⟨gw, 5, none⟩ = some (.slice B6 b.length cb) ∧ w'.cell? ⟨g, 4, none⟩ = some v5) (ds := [10]) #[false, false, false, false, false, false, false, false, false, false, false] (by kernel_rfl) rfl rfl ⟨k0, k1, k2, k3, k4, k5, g4⟩ (fun hHeld => ?_)
      refine with_tabW F40Rtab15 F40Rbits15 (fun HT_ HW_ => ?_)
      refine pure_ (i := 0) (N := some 103) (v := ?_) (a' := ?_) #[true, false, false, false, false, false, false, false, false, false, false] rfl rfl (any_of HT_.out (by kernel_rfl)) (fun _ _ _ h => h) (Or.inl ⟨by rfl, ?_⟩) ?_ ?_
      rotate_left
      · intro w'
        go_simp
        with_reducible rfl
      rotate_left
      · simp only [Act.put, List.setIfInBounds_toArray, List.set_cons_zero, List.set_cons_succ, i64_w, i32_w]
        rfl
      refine pure_ (i := 1) (N := some 104) (v := ?_) (a' := ?_) #[true, true, false, false, false, false, false, false, false, false, false] rfl rfl (any_of HT_.out (by kernel_rfl)) (fun _ _ _ h => h) (Or.inl ⟨by rfl, ?_⟩) ?_ ?_
      rotate_left
      · intro w'
        go_simp
        with_reducible rfl
      rotate_left
      · simp only [Act.put, List.setIfInBounds_toArray, List.set_cons_zero, List.set_cons_succ, i64_w, i32_w]
        rfl
      refine pure_ (i := 2) (N := some 105) (v := ?_) (a' := ?_) #[true, true, true, false, false, false, false, false, false, false, false] rfl rfl (any_of HT_.out (by kernel_rfl)) (fun _ _ _ h => h) (Or.inl ⟨by rfl, ?_⟩) ?_ ?_
      rotate_left
      · intro w'
        go_simp
        with_reducible rfl
      rotate_left
      · simp only [Act.put, List.setIfInBounds_toArray, List.set_cons_zero, List.set_cons_succ, i64_w, i32_w]
        rfl
      refine pure_ (i := 3) (N := some 106) (v := ?_) (a' := ?_) #[true, true, true, true, false, false, false, false, false, false, false] rfl rfl (any_of HT_.out (by kernel_rfl)) (fun _ _ _ h => h) (Or.inl ⟨by rfl, ?_⟩) ?_ ?_
      rotate_left
      · intro w'
        go_simp
        with_reducible rfl
      rotate_left
      · simp only [Act.put, List.setIfInBounds_toArray, List.set_cons_zero, List.set_cons_succ, i64_w, i32_w]
        rfl
      refine take_ (i := 4) (N := some 107) (v := ?_) (a' := ?_) #[true, true, true, true, true, false, false, false, false, false, false] rfl rfl (take_ofW HT_.out HW_.out (by kernel_rfl)) (fun _ _ _ h => h) (Or.inl ⟨by rfl, ?_⟩) hHeld ?_ ?_
      rotate_left
      · rintro w' ⟨s0, s1, s2, s3, s4, s5, s6⟩
        go_simp
        with_reducible rfl
      rotate_left
      · simp only [Act.put, List.setIfInBounds_toArray, List.set_cons_zero, List.set_cons_succ, i64_w, i32_w]
        rfl
      refine take_ (i := 5) (N := some 108) (v := ?_) (a' := ?_) #[true, true, true, true, true, true, false, false, false, false, false] rfl rfl (take_ofW HT_.out HW_.out (by kernel_rfl)) (fun _ _ _ h => h) (Or.inl ⟨by rfl, ?_⟩) hHeld ?_ ?_
      rotate_left
      · rintro w' ⟨s0, s1, s2, s3, s4, s5, s6⟩
        go_simp
        with_reducible rfl
      rotate_left
      · simp only [Act.put, List.setIfInBounds_toArray, List.set_cons_zero, List.set_cons_succ, i64_w, i32_w]
        rfl
      refine one_ (i := 6) (N := some 109) #[true, true, true, true, true, true, true, false, false, false, false] rfl rfl (one_of HT_.out (by kernel_rfl)) (by decide) (fun K hK => ?_)
      refine value_ (w1 := ?_) (v := ?_) (by rfl) rfl ?_ ?_
      rotate_left 2
      · go_simp
        constructor
        · rfl
        · rfl
      refine hK.out _ _ ⟨(blk_cell (blk_alloc HK9.out _) 0).trans rfl, (blk_cell (blk_alloc HK9.out _) 1).trans rfl, (blk_cell (blk_alloc HK9.out _) 2).trans rfl, (blk_cell (blk_alloc HK9.out _) 3).trans rfl, (blk_cell (blk_alloc HK9.out _) 4).trans rfl, (blk_cell (blk_alloc HK9.out _) 5).trans rfl, (blk_cell (blk_alloc H9.out.blk _) 4).trans rfl⟩ (fun hHeld => ?_)
      clear hK K
      refine norm_ (a' := ?_) ?_ ?_
      rotate_left
      · show Act.put _ (some 109) _ = _
        simp only [Act.put, List.setIfInBounds_toArray, List.set_cons_zero, List.set_cons_succ, i64_w, i32_w]
        rfl
      refine one_ (i := 7) (N := some 110) #[true, true, true, true, true, true, true, true, false, false, false] rfl rfl (one_of HT_.out (by kernel_rfl)) (by decide) (fun K hK => ?_)
      refine Kd.R_append_step workK (W := w9.drew) (w0 := w9.drew) base (by rfl) (.tmp 107) (.tmp 109) 66 76 (.agg #[.int .i64 0, .string ⟨#[]⟩, .string ⟨#[]⟩, .int .i64 0, .pointer none, .slice none 0 0]) 80 rfl Try.underlying66 info76 rfl (by decide) (by decide) v5 ((s.setNow i ((if kind = 1 then [] else f.now) ++ b)).works.map (mwOf ad)) (⟨kind, n, ⟨#[]⟩, b.length, q, b⟩ : MW) [.int .i64 kind, .string n, .string ⟨#[]⟩, .int .i64 b.length, ptrV q, .slice B6 b.length cb] ok (fun k => ok k ∧ some k ≠ v5.ownBlock) rfl rfl ?aP (fun _ hk => hk) ?aF ?aO ?aB ?aS ?aL ?_
      (case aP => exact workK_mkM _ _ _ _ (Kd.R_drew (Kd.R_apartR (R_fresh HR9.out (Nat.le_trans HX8.out HS7.out.1) (fun k hk => HF.out k (Nat.le_trans HS7.out.1 hk))) H9.out.wks (fun t ht => bK_E t ht ▸ (by decide)))))
      (case aF => exact fun k hk => HF.out k (Nat.le_trans HFr9.out.size hk))
      (case aO => exact Kd.R_drew H9.out.wks)
      (case aB => exact (Below.refl _ _).mono (Nat.le_trans H9.out.okg.2 (Nat.le_of_lt lg9)))
      (case aS => exact Nat.le_trans H9.out.okg.2 (Nat.le_of_lt lg9))
      (case aL => rw [List.length_map]; have := HX6.out.2; show (s.works.length + 1) * 80 ≤ 140737488355328; omega)
      intro v10 w10 ho hb hg hat
      have hg' : w9.grownBy w10 v5.ownBlock := ⟨hg.os, hg.tape, hg.output, hg.size, hg.block⟩
      have hB10 := H9.out.rowB hg'
      have hK10 := blk_grown HK9.out hg' (fun e => by have h1 := HV5.out gw e.symm; have h2 := HS7.out.2.1; omega)
      have fg10 := blk_frozen hB10 4
      have lg10 := blk_lt hB10
      have HO10 := Aside0.mk ho
      have HG10 := Aside0.mk hg'
      obtain ⟨A10, c10, hv10⟩ := Kd.R_slice HO10.out
      generalize hl10 : ((s.setNow i ((if kind = 1 then [] else f.now) ++ b)).works.map (mwOf ad) ++ [(⟨kind, n, ⟨#[]⟩, b.length, q, b⟩ : MW)]).length = l10 at hv10
      clear ho hb hg hat hl10 hg'
      subst hv10
      refine hK.out _ _ ⟨(blk_cell hK10 0).trans rfl, (blk_cell hK10 1).trans rfl, (blk_cell hK10 2).trans rfl, (blk_cell hK10 3).trans rfl, (blk_cell hK10 4).trans rfl, (blk_cell hK10 5).trans rfl, (blk_cell hB10 4).trans rfl⟩ (fun hHeld => ?_)
      clear hK K
      refine norm_ (a' := ?_) ?_ ?_
      rotate_left
      · show Act.put _ (some 110) _ = _
        simp only [Act.put, List.setIfInBounds_toArray, List.set_cons_zero, List.set_cons_succ, i64_w, i32_w]
        rfl
      refine pure_ (i := 8) (N := some 111) (v := ?_) (a' := ?_) #[true, true, true, true, true, true, true, true, true, false, false] rfl rfl (any_of HT_.out (by kernel_rfl)) (fun _ _ _ h => h) (Or.inl ⟨by rfl, ?_⟩) ?_ ?_
      rotate_left
      · intro w'
        go_simp
        with_reducible rfl
      rotate_left
      · simp only [Act.put, List.setIfInBounds_toArray, List.set_cons_zero, List.set_cons_succ, i64_w, i32_w]
        rfl
      refine pure_ (i := 9) (N := some 112) (v := ?_) (a' := ?_) #[true, true, true, true, true, true, true, true, true, true, false] rfl rfl (any_of HT_.out (by kernel_rfl)) (fun _ _ _ h => h) (Or.inl ⟨by rfl, ?_⟩) ?_ ?_
      rotate_left
      · intro w'
        go_simp
        with_reducible rfl
      rotate_left
      · simp only [Act.put, List.setIfInBounds_toArray, List.set_cons_zero, List.set_cons_succ, i64_w, i32_w]
        rfl
      refine last_ (i := 10) (N := none) #[true, true, true, true, true, true, true, true, true, true, true] rfl rfl (one_of HT_.out (by kernel_rfl)) (by decide) (fun K hK => ?_)
      refine skip_ (w1 := ?_) (by rfl) rfl ?_ ?_
      rotate_left
      · go_simp
        rfl
      refine hK.out _ _ ?_
      clear hK K
      refine done_ (done_of HT_.out (by kernel_rfl)) ?_
      go_wp2_with fail
      go_ret
      have e10 : mwOf ad (⟨kind, n, nameless, b.length, i, b⟩ : PW) = (⟨kind, n, ⟨#[]⟩, b.length, q, b⟩ : MW) := by
        unfold mwOf
        rw [List.getD_eq_getElem?_getD, HX4.out]
        rfl
      rw [HX5.out]
      refine ⟨rfl, ⟨_, _, H9.out.row (ws := (s.setNow i ((if kind = 1 then [] else f.now) ++ b)).works ++ [⟨kind, n, nameless, b.length, i, b⟩]) (by rw [List.map_append, List.map_cons, List.map_nil, e10]; exact HO10.out) HG10.out rfl⟩, ?_⟩
      exact Fr.setCell (p := ⟨g, 4, none⟩) (HFr9.out.grown HG10.out (fun k e _ => H9.out.wks.1 k e)) (fun _ => H9.out.okg.1) _
end
end Go.Proofs.Ytnegcjgolaakcaa

/- (*disk.Disk).put, where the file is there (kind 2). -/
namespace Go.Proofs.Ytnegcjgolaakcaa
open Go.RowKit Go.Maps
open Go.Proofs.YtnegcjgolaakcaaW.PrintWords Go.Proofs.YtnegcjgolaakcaaW.PrintLast Go.Proofs.YtnegcjgolaakcaaW.PrintMore
set_option linter.unusedVariables false
set_option linter.unusedSimpArgs false
section
variable {w w' : World} {g : Nat} {s s' : DS} {base : Nat} {ok : Nat → Prop} {nb fb : Nat} {v v1 : Value} {ad ad' : List Nat} {T : Nat}
set_option maxHeartbeats 4000000 in
set_option maxRecDepth 100000 in
theorem put_some2 (kind : Int) (n : ByteArray) (b : List Int) (A : Option Addr) (c : Nat) (h : DiskAt w g s base ok nb fb v ad) (hI : s.Inv T) (hT : T ≤ 1073741824) (hfresh : ∀ k, w.heap.size ≤ k → ok k)
    (hn : namedV n = true) (hs : n.size ≤ maxLen) (hb : b.length ≤ 1073741824) (hc : b.length ≤ c) (hC : ∀ W', Fr ok w W' → bK.C W' A b.length b) (hk : kind = 2) {i : Nat} (hf : s.find n = some i) :
    Calls Try.prog 40 #[ptrV g, .int .i64 kind, .string n, .slice A b.length c] w (DiskPost w g base ok nb fb (s.put kind n b)) := by
  obtain ⟨f, q, hfi, hqi, hna⟩ := spot_file h (not_nameless hn) hf
  have hlen : f.now.length ≤ T := now_le hI hfi
  obtain ⟨D, hown, hD⟩ := h.nms.open
  have hhas : Maps.has D (key n) = true := by rw [(hD.2 n).2, hna]; rfl
  have hsz : Maps.size D = s.count := hD.1
  have hgs := blk_lt h.blk
  have y2 : w.cell? ⟨g, 2, none⟩ = some (.map (some nb)) := (blk_cell h.blk 2).trans rfl
  have HO := Aside0.mk hown
  have HD := Aside0.mk hD
  have HNA := Aside0.mk hna
  have HH := Aside0.mk hhas
  have HSZ := Aside0.mk hsz
  have HK := Aside0.mk (key_of hs)
  have H := Aside0.mk h
  have HI := Aside0.mk hI
  have HT := Aside0.mk hT
  have HF := Aside0.mk hfresh
  have HN := Aside0.mk hn
  have HC := Aside0.mk (And.intro hb (And.intro hc hC))
  have HKD := Aside0.mk hk
  have dk : (kind == 1) = false := by rw [hk]; rfl
  have HFN := Aside0.mk hf
  have HX3 := Aside0.mk hfi
  have HX4 := Aside0.mk hqi
  have HLN := Aside0.mk hlen
  generalize hr : s.put kind n b = r
  have HR := Aside0.mk hr
  clear h hI hT hfresh hn hs hb hc hC hk hf hown hD hna hhas hsz hr hfi hqi hlen
  go_enter Try.func40, Try.ntmps40
  go_wp2_with (first | (at_lookup; refine wpList_lookup_own_ok _ rfl _ _ 65 rfl 9 71 keyLaw Try.underlying65 filE (zeroF _) .nil [] filE_nil nb _ D rfl HO.out _ _ rfl HK.out ?_; intro vl ps hv; have hvl := look_some HD.out HNA.out hv; clear hv; subst hvl; rw [HH.out]) | (at_len; refine wpList_len_own _ rfl _ 65 rfl 9 71 Try.underlying65 filE nb _ D rfl HO.out ?_; rw [HSZ.out]) | fail)
  refine (used_calls H.out HI.out HT.out).mono ?_
  rintro e w1 ⟨rfl, hb1⟩
  have HB1 := Aside0.mk hb1
  clear hb1
  have H1 := Aside0.mk (H.out.below HB1.out)
  have y0 : w1.cell? ⟨g, 0, none⟩ = some (.int .i64 s.names) := (blk_cell H1.out.blk 0).trans rfl
  have y1 : w1.cell? ⟨g, 1, none⟩ = some (.int .i64 s.room) := (blk_cell H1.out.blk 1).trans rfl
  have hgs1 := blk_lt H1.out.blk
  obtain ⟨q', eq', hFq⟩ := H1.out.fls _ _ HX3.out
  obtain rfl : q = q' := by rw [HX4.out] at eq'; injection eq'
  obtain ⟨_, _, vn, vo, hbq, hRn, _⟩ := hFq
  obtain ⟨An, cn, rfl, hcn, hCn⟩ := Kd.R_reads hRn
  have q0 : w1.cell? ⟨q, 0, none⟩ = some (.slice An f.now.length cn) := (blk_cell hbq 0).trans rfl
  have lq := blk_lt hbq
  clear eq' hbq hRn hcn hCn
  clear HO HD HNA HH HSZ H
  have HW2 : Aside0 (wrap64 ((s.used : Int) + (b.length : Int)) = s.used + b.length) := ⟨IntWalk.wrap64_in _ (by have := (HI.out.now); have := HT.out; have := used_le s; have := HC.out.1; omega)⟩
  have HWN : Aside0 (s.wantN n = s.count ∧ s.wantB kind n b = s.used + b.length) := ⟨by unfold DS.wantN DS.wantB; rw [HFN.out]; refine ⟨Int.add_zero _, ?_⟩; show (s.used : Int) + b.length - (if kind = 1 then ((s.nowAt i).length : Int) else 0) = _; rw [if_neg (by rw [HKD.out]; decide), Int.sub_zero]⟩
  by_cases hq1 : s.names < (s.count : Int)
  · have d1 : decide (s.names < (s.count : Int)) = true := decide_eq_true hq1
    have HR2 : Aside0 (r = (62, s)) := ⟨by rw [← HR.out]; unfold DS.put; rw [if_pos (.inl (by rw [HWN.out.1]; exact hq1))]⟩
    clear hq1 HW2 HWN HR
    go_wp2_with fail
    go_ret
    rw [HR2.out]
    exact ⟨rfl, ⟨_, _, H1.out⟩, Fr.ofBelow HB1.out⟩
  · by_cases hq2 : s.room < wrap64 ((s.used : Int) + (b.length : Int))
    · have d1 : decide (s.names < (s.count : Int)) = false := decide_eq_false hq1
      have d2 : decide (s.room < wrap64 ((s.used : Int) + (b.length : Int))) = true := decide_eq_true hq2
      have HR2 : Aside0 (r = (62, s)) := ⟨by rw [← HR.out]; unfold DS.put; rw [if_pos (.inr (by rw [HWN.out.2, ← HW2.out]; exact hq2))]⟩
      clear hq1 hq2 HW2 HWN HR
      go_wp2_with fail
      go_ret
      rw [HR2.out]
      exact ⟨rfl, ⟨_, _, H1.out⟩, Fr.ofBelow HB1.out⟩
    · have d1 : decide (s.names < (s.count : Int)) = false := decide_eq_false hq1
      have d2 : decide (s.room < wrap64 ((s.used : Int) + (b.length : Int))) = false := decide_eq_false hq2
      have HX5 : Aside0 (r = (0, (s.setNow i ((if kind = 1 then [] else f.now) ++ b)).add ⟨kind, n, nameless, b.length, i, b⟩)) := ⟨by
        rw [← HR.out]; unfold DS.put; rw [if_neg (by rw [HWN.out.1, HWN.out.2, ← HW2.out]; exact fun h => h.elim hq1 hq2)]
        have e : s.spot n = i := by unfold DS.spot; rw [HFN.out]; rfl
        have e3 : s.fresh n = s := by unfold DS.fresh; rw [HFN.out]
        have e2 : s.nowAt i = f.now := by unfold DS.nowAt; rw [HX3.out]; rfl
        rw [e, e3, e2]⟩
      have HX6 : Aside0 (f.now.length ≤ 1073741824 ∧ s.works.length ≤ 1073741825) := ⟨by have := HI.out.lw; have := HT.out; have := HLN.out; omega⟩
      have HX8 : Aside0 (base ≤ w.heap.size) := ⟨Nat.le_trans H1.out.okg.2 (Nat.le_of_lt hgs)⟩
      have HX2 : Aside0 (Fr ok w w1) := ⟨Fr.ofBelow HB1.out⟩
      have HX1 := H1
      clear hq1 hq2 HW2 HWN HR
      go_upto_region 13 with fail
      clear y0 y1 y2 q0 lq hgs1 d1 d2 dk HB1 H1 HLN HFN
      generalize w1 = w5 at *
      generalize v = v5 at *
      have hx1 := HX1.out
      have HV5 := Aside0.mk (Kd.R_lt HX1.out.wks)
      have CA5 := HC.out.2.2 w5 HX2.out
      go_wp2_with fail
      refine (clone_calls A c b w5 CA5 (by have := HC.out.1; omega)).mono ?_
      rintro e w6 ⟨vb, rfl, hR6, hB6⟩
      obtain ⟨B6, cb, rfl, hcb, hC6⟩ := Kd.R_reads hR6
      have HR6 := Aside0.mk hR6
      have HB6 := Aside0.mk hB6
      have HCB := Aside0.mk hcb
      clear hx1 CA5 hR6 hB6 hcb hC6
      go_upto_region 14 with fail
      have H7 := Aside0.mk ((HX1.out.below HB6.out).below ((Below.refl _ _).alloc (Nat.le_refl _) (.cells #[.int .i64 kind, .string n, .string ⟨#[]⟩, .int .i64 b.length, ptrV q, .slice B6 b.length cb] 76)))
      have HFr7 := Aside0.mk (((HX2.out.trans (Fr.ofBelow HB6.out) (fun k h _ => h)) : Fr ok w w6).alloc (.cells #[.int .i64 kind, .string n, .string ⟨#[]⟩, .int .i64 b.length, ptrV q, .slice B6 b.length cb] 76))
      have HK7 := Aside0.mk (blk_new w6 (.cells #[.int .i64 kind, .string n, .string ⟨#[]⟩, .int .i64 b.length, ptrV q, .slice B6 b.length cb] 76))
      have HR7 := Aside0.mk (Kd.R_alloc HR6.out (.cells #[.int .i64 kind, .string n, .string ⟨#[]⟩, .int .i64 b.length, ptrV q, .slice B6 b.length cb] 76))
      have HS7 := Aside0.mk (And.intro HX2.out.size (And.intro HB6.out.size (show w6.heap.size < (w6.alloc (.cells #[.int .i64 kind, .string n, .string ⟨#[]⟩, .int .i64 b.length, ptrV q, .slice B6 b.length cb] 76)).heap.size by simp)))
      generalize w6.alloc (.cells #[.int .i64 kind, .string n, .string ⟨#[]⟩, .int .i64 b.length, ptrV q, .slice B6 b.length cb] 76) = w7 at *
      generalize hgw : w6.heap.size = gw at *
      generalize hb5 : w5.heap.size = m5 at *
      clear hgw hb5 HX1 HX2 HR6 HB6
      obtain ⟨q', eq', hFq⟩ := H7.out.fls _ _ HX3.out
      obtain rfl : q = q' := by rw [HX4.out] at eq'; injection eq'
      obtain ⟨_, _, vn, vo, hbq, hRn, _⟩ := hFq
      obtain ⟨An, cn, rfl, hcn, hCn⟩ := Kd.R_reads hRn
      have HQ7 := Aside0.mk hbq
      have HCN := Aside0.mk (And.intro hcn hCn)
      have k0 : w7.cell? ⟨gw, 0, none⟩ = some (.int .i64 kind) := (blk_cell HK7.out 0).trans rfl
      have k1 : w7.cell? ⟨gw, 1, none⟩ = some (.string n) := (blk_cell HK7.out 1).trans rfl
      have k2 : w7.cell? ⟨gw, 2, none⟩ = some (.string ⟨#[]⟩) := (blk_cell HK7.out 2).trans rfl
      have k3 : w7.cell? ⟨gw, 3, none⟩ = some (.int .i64 b.length) := (blk_cell HK7.out 3).trans rfl
      have k4 : w7.cell? ⟨gw, 4, none⟩ = some (ptrV q) := (blk_cell HK7.out 4).trans rfl
      have k5 : w7.cell? ⟨gw, 5, none⟩ = some (.slice B6 b.length cb) := (blk_cell HK7.out 5).trans rfl
      have q0 : w7.cell? ⟨q, 0, none⟩ = some (.slice An f.now.length cn) := (blk_cell hbq 0).trans rfl
      have fq0 := blk_frozen hbq 0
      have lq := blk_lt hbq
      have lg := blk_lt HK7.out
      clear hbq hRn hcn hCn eq'
      refine start_ (n := 12) (S := fun w' => w'.cell? ⟨gw, 0, none⟩ = some (.int .i64 kind) ∧ w'.cell? ⟨gw, 1, none⟩ = some (.string n) ∧ w'.cell? ⟨gw, 2, none⟩ = some (.string ⟨#[]⟩) ∧ w'.cell? ⟨gw, 3, none⟩ = some (.int .i64 b.length) ∧ w'.cell? ⟨gw, 4, none⟩ = some (ptrV q) ∧ w'.cell? ⟨gw, 5, none⟩ = some (.slice B6 b.length cb) ∧ w'.cell? ⟨q, 0, none⟩ = some (.slice An f.now.length cn)) (ds := [11]) #[false, false, false, false, false, false, false, false, false, false, false, false] (by kernel_rfl) rfl rfl ⟨k0, k1, k2, k3, k4, k5, q0⟩ (fun hHeld => ?_)
      refine with_tabW F40Rtab14 F40Rbits14 (fun HT_ HW_ => ?_)
      refine pure_ (i := 0) (N := some 92) (v := ?_) (a' := ?_) #[true, false, false, false, false, false, false, false, false, false, false, false] rfl rfl (any_of HT_.out (by kernel_rfl)) (fun _ _ _ h => h) (Or.inl ⟨by rfl, ?_⟩) ?_ ?_
      rotate_left
      · intro w'
        go_simp
        with_reducible rfl
      rotate_left
      · simp only [Act.put, List.setIfInBounds_toArray, List.set_cons_zero, List.set_cons_succ, i64_w, i32_w]
        rfl
      refine pure_ (i := 2) (N := some 94) (v := ?_) (a' := ?_) #[true, false, true, false, false, false, false, false, false, false, false, false] rfl rfl (any_of HT_.out (by kernel_rfl)) (fun _ _ _ h => h) (Or.inl ⟨by rfl, ?_⟩) ?_ ?_
      rotate_left
      · intro w'
        go_simp
        with_reducible rfl
      rotate_left
      · simp only [Act.put, List.setIfInBounds_toArray, List.set_cons_zero, List.set_cons_succ, i64_w, i32_w]
        rfl
      refine pure_ (i := 3) (N := some 95) (v := ?_) (a' := ?_) #[true, false, true, true, false, false, false, false, false, false, false, false] rfl rfl (any_of HT_.out (by kernel_rfl)) (fun _ _ _ h => h) (Or.inl ⟨by rfl, ?_⟩) ?_ ?_
      rotate_left
      · intro w'
        go_simp
        with_reducible rfl
      rotate_left
      · simp only [Act.put, List.setIfInBounds_toArray, List.set_cons_zero, List.set_cons_succ, i64_w, i32_w]
        rfl
      refine pure_ (i := 4) (N := some 96) (v := ?_) (a' := ?_) #[true, false, true, true, true, false, false, false, false, false, false, false] rfl rfl (any_of HT_.out (by kernel_rfl)) (fun _ _ _ h => h) (Or.inl ⟨by rfl, ?_⟩) ?_ ?_
      rotate_left
      · intro w'
        go_simp
        with_reducible rfl
      rotate_left
      · simp only [Act.put, List.setIfInBounds_toArray, List.set_cons_zero, List.set_cons_succ, i64_w, i32_w]
        rfl
      refine pure_ (i := 6) (N := some 98) (v := ?_) (a' := ?_) #[true, false, true, true, true, false, true, false, false, false, false, false] rfl rfl (any_of HT_.out (by kernel_rfl)) (fun _ _ _ h => h) (Or.inl ⟨by rfl, ?_⟩) ?_ ?_
      rotate_left
      · intro w'
        go_simp
        with_reducible rfl
      rotate_left
      · simp only [Act.put, List.setIfInBounds_toArray, List.set_cons_zero, List.set_cons_succ, i64_w, i32_w]
        rfl
      refine pure_ (i := 7) (N := some 99) (v := ?_) (a' := ?_) #[true, false, true, true, true, false, true, true, false, false, false, false] rfl rfl (any_of HT_.out (by kernel_rfl)) (fun _ _ _ h => h) (Or.inl ⟨by rfl, ?_⟩) ?_ ?_
      rotate_left
      · intro w'
        go_simp
        with_reducible rfl
      rotate_left
      · simp only [Act.put, List.setIfInBounds_toArray, List.set_cons_zero, List.set_cons_succ, i64_w, i32_w]
        rfl
      refine take_ (i := 1) (N := some 93) (v := ?_) (a' := ?_) #[true, true, true, true, true, false, true, true, false, false, false, false] rfl rfl (take_ofW HT_.out HW_.out (by kernel_rfl)) (fun _ _ _ h => h) (Or.inl ⟨by rfl, ?_⟩) hHeld ?_ ?_
      rotate_left
      · rintro w' ⟨s0, s1, s2, s3, s4, s5, s6⟩
        go_simp
        with_reducible rfl
      rotate_left
      · simp only [Act.put, List.setIfInBounds_toArray, List.set_cons_zero, List.set_cons_succ, i64_w, i32_w]
        rfl
      refine take_ (i := 5) (N := some 97) (v := ?_) (a' := ?_) #[true, true, true, true, true, true, true, true, false, false, false, false] rfl rfl (take_ofW HT_.out HW_.out (by kernel_rfl)) (fun _ _ _ h => h) (Or.inl ⟨by rfl, ?_⟩) hHeld ?_ ?_
      rotate_left
      · rintro w' ⟨s0, s1, s2, s3, s4, s5, s6⟩
        go_simp
        with_reducible rfl
      rotate_left
      · simp only [Act.put, List.setIfInBounds_toArray, List.set_cons_zero, List.set_cons_succ, i64_w, i32_w]
        rfl
      refine one_ (i := 8) (N := some 100) #[true, true, true, true, true, true, true, true, true, false, false, false] rfl rfl (one_of HT_.out (by kernel_rfl)) (by decide) (fun K hK => ?_)
      refine goes_ Try.func69 (by kernel_rfl) rfl #[.agg (cW (⟨kind, n, ⟨#[]⟩, b.length, q, b⟩ : MW) (.slice B6 b.length cb)), .slice An f.now.length cn, .int .i64 b.length] (by rfl) rfl rfl (by simp only [List.map_toArray, List.map_cons, List.map_nil]; rfl) ?_
      with_reducible refine (on_calls (⟨kind, n, ⟨#[]⟩, b.length, q, b⟩ : MW) B6 cb An cn f.now b.length _ HCB.out (Kd.C_drew (Kd.R_reads' HR7.out).2.2) HCN.out.1 (Kd.C_drew HCN.out.2) (by have h1 := HX6.out.1; have h2 := HC.out.1; show f.now.length + b.length ≤ 1099511627776; omega) (by have := HC.out.1; omega)).mono ?_
      rintro e w8 ⟨u, rfl, hR8, hB8⟩
      refine ⟨_, rfl, ?_⟩
      obtain ⟨A8, c8, hu8⟩ := Kd.R_slice hR8
      generalize hl8 : ((if kind = 1 then [] else f.now) ++ b.take b.length).length = l8 at hu8
      have HL8 := Aside0.mk hl8
      have HR8 := Aside0.mk hR8
      subst hu8
      have hB8' : Below w7.heap.size w7 w8 := ⟨hB8.os, hB8.tape, hB8.output, hB8.size, hB8.block⟩
      have HB8 := Aside0.mk hB8'
      have hK8 := blk_below HK7.out hB8'
      have hQ8 := blk_below HQ7.out hB8'
      have fq8 := blk_frozen hQ8 0
      have lq8 := blk_lt hQ8
      have lg8 := blk_lt hK8
      clear hR8 hB8 hl8
      refine hK.out _ _ ⟨(blk_cell hK8 0).trans rfl, (blk_cell hK8 1).trans rfl, (blk_cell hK8 2).trans rfl, (blk_cell hK8 3).trans rfl, (blk_cell hK8 4).trans rfl, (blk_cell hK8 5).trans rfl, (blk_cell hQ8 0).trans rfl⟩ (fun hHeld => ?_)
      clear hK K
      refine norm_ (a' := ?_) ?_ ?_
      rotate_left
      · show Act.put _ (some 100) _ = _
        simp only [Act.put, List.setIfInBounds_toArray, List.set_cons_zero, List.set_cons_succ, i64_w, i32_w]
        rfl
      refine pure_ (i := 9) (N := some 101) (v := ?_) (a' := ?_) #[true, true, true, true, true, true, true, true, true, true, false, false] rfl rfl (any_of HT_.out (by kernel_rfl)) (fun _ _ _ h => h) (Or.inl ⟨by rfl, ?_⟩) ?_ ?_
      rotate_left
      · intro w'
        go_simp
        with_reducible rfl
      rotate_left
      · simp only [Act.put, List.setIfInBounds_toArray, List.set_cons_zero, List.set_cons_succ, i64_w, i32_w]
        rfl
      refine pure_ (i := 10) (N := some 102) (v := ?_) (a' := ?_) #[true, true, true, true, true, true, true, true, true, true, true, false] rfl rfl (any_of HT_.out (by kernel_rfl)) (fun _ _ _ h => h) (Or.inl ⟨by rfl, ?_⟩) ?_ ?_
      rotate_left
      · intro w'
        go_simp
        with_reducible rfl
      rotate_left
      · simp only [Act.put, List.setIfInBounds_toArray, List.set_cons_zero, List.set_cons_succ, i64_w, i32_w]
        rfl
      refine last_ (i := 11) (N := none) #[true, true, true, true, true, true, true, true, true, true, true, true] rfl rfl (one_of HT_.out (by kernel_rfl)) (by decide) (fun K hK => ?_)
      refine skip_ (w1 := ?_) (by rfl) rfl ?_ ?_
      rotate_left
      · go_simp
        rfl
      refine hK.out _ _ ?_
      clear hK K
      refine done_ (done_of HT_.out (by kernel_rfl)) ?_
      go_upto_region 15 with fail
      have hR9 : bK.R 5 w8 w7.heap.size (fun _ => True) (.slice A8 l8 c8) ((if kind = 1 then [] else f.now) ++ b) := by
        have h := HR8.out
        have e : b.take b.length = b := List.take_length
        rw [show (⟨kind, n, ⟨#[]⟩, b.length, q, b⟩ : MW).b = b from rfl, e] at h
        exact h
      have hfr : ∀ k, w7.heap.size ≤ k → ok k := fun k hk => HF.out k (Nat.le_trans HFr7.out.size hk)
      have hbs : base ≤ w7.heap.size := Nat.le_trans H7.out.okg.2 (Nat.le_of_lt (blk_lt H7.out.blk))
      have H9 := Aside0.mk ((H7.out.below HB8.out).setNow HX3.out HX4.out (R_fresh hR9 hbs hfr))
      have hF7 : FileAt w7 base ok q f := by
        obtain ⟨q', eq', hFq⟩ := H7.out.fls _ _ HX3.out
        rw [HX4.out] at eq'
        cases eq'
        exact hFq
      have HFr9 := Aside0.mk (Fr.setCell (p := ⟨q, 0, none⟩) ((HFr7.out.trans (Fr.ofBelow HB8.out) (fun k h _ => h)) : Fr ok w w8) (fun _ => hF7.1) (.slice A8 l8 c8))
      have hS9 : Stay (fun t => t ≠ 79) w7 (w8.setCell ⟨q, 0, none⟩ (.slice A8 l8 c8)) := (Stay.of_below HB8.out _).trans (Stay.of_set (blk_below HQ7.out HB8.out) 0 _ (by simp))
      have HK9 := Aside0.mk ((hS9 gw _ 76 (by decide) HK7.out).trans HK7.out)
      have HR9 := Aside0.mk (R_objs HR7.out hS9 (fun t ht => bK_E t ht ▸ (by decide)))
      have HS9 := Aside0.mk (Nat.le_trans HB8.out.size (show w8.heap.size ≤ (w8.setCell ⟨q, 0, none⟩ (.slice A8 l8 c8)).heap.size by simp [World.setCell]))
      generalize w8.setCell ⟨q, 0, none⟩ (.slice A8 l8 c8) = w9 at *
      clear hR9 hfr hbs hF7 hS9 H7 HFr7 HK7 HR7 HQ7 HCN k0 k1 k2 k3 k4 k5 q0 fq0 lq lg HL8 HR8 HB8
      have k0 : w9.cell? ⟨gw, 0, none⟩ = some (.int .i64 kind) := (blk_cell HK9.out 0).trans rfl
      have k1 : w9.cell? ⟨gw, 1, none⟩ = some (.string n) := (blk_cell HK9.out 1).trans rfl
      have k2 : w9.cell? ⟨gw, 2, none⟩ = some (.string ⟨#[]⟩) := (blk_cell HK9.out 2).trans rfl
      have k3 : w9.cell? ⟨gw, 3, none⟩ = some (.int .i64 b.length) := (blk_cell HK9.out 3).trans rfl
      have k4 : w9.cell? ⟨gw, 4, none⟩ = some (ptrV q) := (blk_cell HK9.out 4).trans rfl
      have k5 : w9.cell? ⟨gw, 5, none⟩ = some (.slice B6 b.length cb) := (blk_cell HK9.out 5).trans rfl
      have g4 : w9.cell? ⟨g, 4, none⟩ = some v5 := (blk_cell H9.out.blk 4).trans rfl
      have fg4 := blk_frozen H9.out.blk 4
      have lg9 := blk_lt H9.out.blk
      refine start_ (n := 11) (S := fun w' => w'.cell? ⟨gw, 0, none⟩ = some (.int .i64 kind) ∧ w'.cell? ⟨gw, 1, none⟩ = some (.string n) ∧ w'.cell? ⟨gw, 2, none⟩ = some (.string ⟨#[]⟩) ∧ w'.cell? ⟨gw, 3, none⟩ = some (.int .i64 b.length) ∧ w'.cell? ⟨gw, 4, none⟩ = some (ptrV q) ∧ w'.cell? ⟨gw, 5, none⟩ = some (.slice B6 b.length cb) ∧ w'.cell? ⟨g, 4, none⟩ = some v5) (ds := [10]) #[false, false, false, false, false, false, false, false, false, false, false] (by kernel_rfl) rfl rfl ⟨k0, k1, k2, k3, k4, k5, g4⟩ (fun hHeld => ?_)
      refine with_tabW F40Rtab15 F40Rbits15 (fun HT_ HW_ => ?_)
      refine pure_ (i := 0) (N := some 103) (v := ?_) (a' := ?_) #[true, false, false, false, false, false, false, false, false, false, false] rfl rfl (any_of HT_.out (by kernel_rfl)) (fun _ _ _ h => h) (Or.inl ⟨by rfl, ?_⟩) ?_ ?_
      rotate_left
      · intro w'
        go_simp
        with_reducible rfl
      rotate_left
      · simp only [Act.put, List.setIfInBounds_toArray, List.set_cons_zero, List.set_cons_succ, i64_w, i32_w]
        rfl
      refine pure_ (i := 1) (N := some 104) (v := ?_) (a' := ?_) #[true, true, false, false, false, false, false, false, false, false, false] rfl rfl (any_of HT_.out (by kernel_rfl)) (fun _ _ _ h => h) (Or.inl ⟨by rfl, ?_⟩) ?_ ?_
      rotate_left
      · intro w'
        go_simp
        with_reducible rfl
      rotate_left
      · simp only [Act.put, List.setIfInBounds_toArray, List.set_cons_zero, List.set_cons_succ, i64_w, i32_w]
        rfl
      refine pure_ (i := 2) (N := some 105) (v := ?_) (a' := ?_) #[true, true, true, false, false, false, false, false, false, false, false] rfl rfl (any_of HT_.out (by kernel_rfl)) (fun _ _ _ h => h) (Or.inl ⟨by rfl, ?_⟩) ?_ ?_
      rotate_left
      · intro w'
        go_simp
        with_reducible rfl
      rotate_left
      · simp only [Act.put, List.setIfInBounds_toArray, List.set_cons_zero, List.set_cons_succ, i64_w, i32_w]
        rfl
      refine pure_ (i := 3) (N := some 106) (v := ?_) (a' := ?_) #[true, true, true, true, false, false, false, false, false, false, false] rfl rfl (any_of HT_.out (by kernel_rfl)) (fun _ _ _ h => h) (Or.inl ⟨by rfl, ?_⟩) ?_ ?_
      rotate_left
      · intro w'
        go_simp
        with_reducible rfl
      rotate_left
      · simp only [Act.put, List.setIfInBounds_toArray, List.set_cons_zero, List.set_cons_succ, i64_w, i32_w]
        rfl
      refine take_ (i := 4) (N := some 107) (v := ?_) (a' := ?_) #[true, true, true, true, true, false, false, false, false, false, false] rfl rfl (take_ofW HT_.out HW_.out (by kernel_rfl)) (fun _ _ _ h => h) (Or.inl ⟨by rfl, ?_⟩) hHeld ?_ ?_
      rotate_left
      · rintro w' ⟨s0, s1, s2, s3, s4, s5, s6⟩
        go_simp
        with_reducible rfl
      rotate_left
      · simp only [Act.put, List.setIfInBounds_toArray, List.set_cons_zero, List.set_cons_succ, i64_w, i32_w]
        rfl
      refine take_ (i := 5) (N := some 108) (v := ?_) (a' := ?_) #[true, true, true, true, true, true, false, false, false, false, false] rfl rfl (take_ofW HT_.out HW_.out (by kernel_rfl)) (fun _ _ _ h => h) (Or.inl ⟨by rfl, ?_⟩) hHeld ?_ ?_
      rotate_left
      · rintro w' ⟨s0, s1, s2, s3, s4, s5, s6⟩
        go_simp
        with_reducible rfl
      rotate_left
      · simp only [Act.put, List.setIfInBounds_toArray, List.set_cons_zero, List.set_cons_succ, i64_w, i32_w]
        rfl
      refine one_ (i := 6) (N := some 109) #[true, true, true, true, true, true, true, false, false, false, false] rfl rfl (one_of HT_.out (by kernel_rfl)) (by decide) (fun K hK => ?_)
      refine value_ (w1 := ?_) (v := ?_) (by rfl) rfl ?_ ?_
      rotate_left 2
      · go_simp
        constructor
        · rfl
        · rfl
      refine hK.out _ _ ⟨(blk_cell (blk_alloc HK9.out _) 0).trans rfl, (blk_cell (blk_alloc HK9.out _) 1).trans rfl, (blk_cell (blk_alloc HK9.out _) 2).trans rfl, (blk_cell (blk_alloc HK9.out _) 3).trans rfl, (blk_cell (blk_alloc HK9.out _) 4).trans rfl, (blk_cell (blk_alloc HK9.out _) 5).trans rfl, (blk_cell (blk_alloc H9.out.blk _) 4).trans rfl⟩ (fun hHeld => ?_)
      clear hK K
      refine norm_ (a' := ?_) ?_ ?_
      rotate_left
      · show Act.put _ (some 109) _ = _
        simp only [Act.put, List.setIfInBounds_toArray, List.set_cons_zero, List.set_cons_succ, i64_w, i32_w]
        rfl
      refine one_ (i := 7) (N := some 110) #[true, true, true, true, true, true, true, true, false, false, false] rfl rfl (one_of HT_.out (by kernel_rfl)) (by decide) (fun K hK => ?_)
      refine Kd.R_append_step workK (W := w9.drew) (w0 := w9.drew) base (by rfl) (.tmp 107) (.tmp 109) 66 76 (.agg #[.int .i64 0, .string ⟨#[]⟩, .string ⟨#[]⟩, .int .i64 0, .pointer none, .slice none 0 0]) 80 rfl Try.underlying66 info76 rfl (by decide) (by decide) v5 ((s.setNow i ((if kind = 1 then [] else f.now) ++ b)).works.map (mwOf ad)) (⟨kind, n, ⟨#[]⟩, b.length, q, b⟩ : MW) [.int .i64 kind, .string n, .string ⟨#[]⟩, .int .i64 b.length, ptrV q, .slice B6 b.length cb] ok (fun k => ok k ∧ some k ≠ v5.ownBlock) rfl rfl ?aP (fun _ hk => hk) ?aF ?aO ?aB ?aS ?aL ?_
      (case aP => exact workK_mkM _ _ _ _ (Kd.R_drew (Kd.R_apartR (R_fresh HR9.out (Nat.le_trans HX8.out HS7.out.1) (fun k hk => HF.out k (Nat.le_trans HS7.out.1 hk))) H9.out.wks (fun t ht => bK_E t ht ▸ (by decide)))))
      (case aF => exact fun k hk => HF.out k (Nat.le_trans HFr9.out.size hk))
      (case aO => exact Kd.R_drew H9.out.wks)
      (case aB => exact (Below.refl _ _).mono (Nat.le_trans H9.out.okg.2 (Nat.le_of_lt lg9)))
      (case aS => exact Nat.le_trans H9.out.okg.2 (Nat.le_of_lt lg9))
      (case aL => rw [List.length_map]; have := HX6.out.2; show (s.works.length + 1) * 80 ≤ 140737488355328; omega)
      intro v10 w10 ho hb hg hat
      have hg' : w9.grownBy w10 v5.ownBlock := ⟨hg.os, hg.tape, hg.output, hg.size, hg.block⟩
      have hB10 := H9.out.rowB hg'
      have hK10 := blk_grown HK9.out hg' (fun e => by have h1 := HV5.out gw e.symm; have h2 := HS7.out.2.1; omega)
      have fg10 := blk_frozen hB10 4
      have lg10 := blk_lt hB10
      have HO10 := Aside0.mk ho
      have HG10 := Aside0.mk hg'
      obtain ⟨A10, c10, hv10⟩ := Kd.R_slice HO10.out
      generalize hl10 : ((s.setNow i ((if kind = 1 then [] else f.now) ++ b)).works.map (mwOf ad) ++ [(⟨kind, n, ⟨#[]⟩, b.length, q, b⟩ : MW)]).length = l10 at hv10
      clear ho hb hg hat hl10 hg'
      subst hv10
      refine hK.out _ _ ⟨(blk_cell hK10 0).trans rfl, (blk_cell hK10 1).trans rfl, (blk_cell hK10 2).trans rfl, (blk_cell hK10 3).trans rfl, (blk_cell hK10 4).trans rfl, (blk_cell hK10 5).trans rfl, (blk_cell hB10 4).trans rfl⟩ (fun hHeld => ?_)
      clear hK K
      refine norm_ (a' := ?_) ?_ ?_
      rotate_left
      · show Act.put _ (some 110) _ = _
        simp only [Act.put, List.setIfInBounds_toArray, List.set_cons_zero, List.set_cons_succ, i64_w, i32_w]
        rfl
      refine pure_ (i := 8) (N := some 111) (v := ?_) (a' := ?_) #[true, true, true, true, true, true, true, true, true, false, false] rfl rfl (any_of HT_.out (by kernel_rfl)) (fun _ _ _ h => h) (Or.inl ⟨by rfl, ?_⟩) ?_ ?_
      rotate_left
      · intro w'
        go_simp
        with_reducible rfl
      rotate_left
      · simp only [Act.put, List.setIfInBounds_toArray, List.set_cons_zero, List.set_cons_succ, i64_w, i32_w]
        rfl
      refine pure_ (i := 9) (N := some 112) (v := ?_) (a' := ?_) #[true, true, true, true, true, true, true, true, true, true, false] rfl rfl (any_of HT_.out (by kernel_rfl)) (fun _ _ _ h => h) (Or.inl ⟨by rfl, ?_⟩) ?_ ?_
      rotate_left
      · intro w'
        go_simp
        with_reducible rfl
      rotate_left
      · simp only [Act.put, List.setIfInBounds_toArray, List.set_cons_zero, List.set_cons_succ, i64_w, i32_w]
        rfl
      refine last_ (i := 10) (N := none) #[true, true, true, true, true, true, true, true, true, true, true] rfl rfl (one_of HT_.out (by kernel_rfl)) (by decide) (fun K hK => ?_)
      refine skip_ (w1 := ?_) (by rfl) rfl ?_ ?_
      rotate_left
      · go_simp
        rfl
      refine hK.out _ _ ?_
      clear hK K
      refine done_ (done_of HT_.out (by kernel_rfl)) ?_
      go_wp2_with fail
      go_ret
      have e10 : mwOf ad (⟨kind, n, nameless, b.length, i, b⟩ : PW) = (⟨kind, n, ⟨#[]⟩, b.length, q, b⟩ : MW) := by
        unfold mwOf
        rw [List.getD_eq_getElem?_getD, HX4.out]
        rfl
      rw [HX5.out]
      refine ⟨rfl, ⟨_, _, H9.out.row (ws := (s.setNow i ((if kind = 1 then [] else f.now) ++ b)).works ++ [⟨kind, n, nameless, b.length, i, b⟩]) (by rw [List.map_append, List.map_cons, List.map_nil, e10]; exact HO10.out) HG10.out rfl⟩, ?_⟩
      exact Fr.setCell (p := ⟨g, 4, none⟩) (HFr9.out.grown HG10.out (fun k e _ => H9.out.wks.1 k e)) (fun _ => H9.out.okg.1) _
end
end Go.Proofs.Ytnegcjgolaakcaa
