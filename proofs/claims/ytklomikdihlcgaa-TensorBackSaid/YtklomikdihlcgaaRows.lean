/-
  No cell of these rows narrows 'for every input' (looked for: loops, veiled, ifaces, maps, wideKeys, modest, calm, conditions, laid).
  DERIVED. THE GIVEN ROWS OF THIS SEAT. 9 by the template 'for every input the law returns true; each argument reads behind the call as it read before'; 0 by the template 'total and deterministic' (their statements: YtklomikdihlcgaaTotals.lean).
  GIVEN WITH THE SEED: the statements are not yours to turn. If you find one false, say at which input.
  Laid BY PROGRAM, IN A SANDBOX (cutbox-rows.mjs): the forced cells as the released guide's own fill.sh prints them over the translation 008d690e0ec41686… (all of the seat's roots in one cut). By AI agents, Wed Nov 11 2026. No macro, syntax, notation, axiom, sorry.
-/
import Derived.Test.YtklomikdihlcgaaChecked
import GoSem.Claim
import GoSem.ClaimJoined
import GoSem.ClaimMapViews
import Derived.JoinedTies
import Derived.KernelRfl
namespace Go.Proofs.Ytklomikdihlcgaa
/- THE CELL 'sum', in the pinned program and in every row, IS THE sha256 OF THE DUMP (.gsa) THAT YtklomikdihlcgaaProg.lean LOADS. Nothing in Lean hashes anything: it is a label: what it is worth is what the hold of that sum in a sandbox is worth. -/
noncomputable def Try.pinned : Pinned := { name := "ytklomikdihlcgaa", sum := "008d690e0ec41686d9f6ab5f21bbcdf2f273674a63ed8a9f01412289f05cb2ef", checked := Try.checked }
namespace Rows
def none {H : Type} : Left H := { results := [], args := [] }

/-- 'pupillaw7.TensorZero': WHATEVER THE INPUT: true; the input reads as it did. -/
def tensorZeroSpec : ChangeSpec := { name := "tensorZero", fn := fun _ => fun
  | [d1, d2, d3] => { results := [.lit (.bool true)], args := [d1, d2, d3] }
  | _ => none }
def tensorZeroRow : OpenClaim := { program := "ytklomikdihlcgaa", sum := "008d690e0ec41686d9f6ab5f21bbcdf2f273674a63ed8a9f01412289f05cb2ef", func := "pupil/pupillaw7.TensorZero", spec := "tensorZero", unfollowed := true, recurses := true, apart := false }
def TensorZeroSaid : Prop := tensorZeroRow.holds Try.pinned (OpenSpec.ofChange tensorZeroSpec)

/-- ITS FALSE NEIGHBOUR: 'it returns false'. Refute it at one input. -/
def tensorZeroWrong : ChangeSpec := { name := "tensorZero", fn := fun _ => fun
  | [d1, d2, d3] => { results := [.lit (.bool false)], args := [d1, d2, d3] }
  | _ => none }
def TensorZeroWrongFalsely : Prop := tensorZeroRow.holds Try.pinned (OpenSpec.ofChange tensorZeroWrong)

/-- 'pupillaw7.TensorBoth': WHATEVER THE INPUT: true; the input reads as it did. -/
def tensorBothSpec : ChangeSpec := { name := "tensorBoth", fn := fun _ => fun
  | [d1, d2] => { results := [.lit (.bool true)], args := [d1, d2] }
  | _ => none }
def tensorBothRow : OpenClaim := { program := "ytklomikdihlcgaa", sum := "008d690e0ec41686d9f6ab5f21bbcdf2f273674a63ed8a9f01412289f05cb2ef", func := "pupil/pupillaw7.TensorBoth", spec := "tensorBoth", unfollowed := true, recurses := true, apart := false }
def TensorBothSaid : Prop := tensorBothRow.holds Try.pinned (OpenSpec.ofChange tensorBothSpec)

/-- ITS FALSE NEIGHBOUR: 'it returns false'. Refute it at one input. -/
def tensorBothWrong : ChangeSpec := { name := "tensorBoth", fn := fun _ => fun
  | [d1, d2] => { results := [.lit (.bool false)], args := [d1, d2] }
  | _ => none }
def TensorBothWrongFalsely : Prop := tensorBothRow.holds Try.pinned (OpenSpec.ofChange tensorBothWrong)

/-- 'pupillaw7.TensorStretch': WHATEVER THE INPUT: true; the input reads as it did. -/
def tensorStretchSpec : ChangeSpec := { name := "tensorStretch", fn := fun _ => fun
  | [d1, d2, d3] => { results := [.lit (.bool true)], args := [d1, d2, d3] }
  | _ => none }
def tensorStretchRow : OpenClaim := { program := "ytklomikdihlcgaa", sum := "008d690e0ec41686d9f6ab5f21bbcdf2f273674a63ed8a9f01412289f05cb2ef", func := "pupil/pupillaw7.TensorStretch", spec := "tensorStretch", unfollowed := true, recurses := true, apart := false }
def TensorStretchSaid : Prop := tensorStretchRow.holds Try.pinned (OpenSpec.ofChange tensorStretchSpec)

/-- ITS FALSE NEIGHBOUR: 'it returns false'. Refute it at one input. -/
def tensorStretchWrong : ChangeSpec := { name := "tensorStretch", fn := fun _ => fun
  | [d1, d2, d3] => { results := [.lit (.bool false)], args := [d1, d2, d3] }
  | _ => none }
def TensorStretchWrongFalsely : Prop := tensorStretchRow.holds Try.pinned (OpenSpec.ofChange tensorStretchWrong)

/-- 'pupillaw7.TensorChecks': WHATEVER THE INPUT: true; the input reads as it did. -/
def tensorChecksSpec : ChangeSpec := { name := "tensorChecks", fn := fun _ => fun
  | [d1, d2, d3] => { results := [.lit (.bool true)], args := [d1, d2, d3] }
  | _ => none }
def tensorChecksRow : OpenClaim := { program := "ytklomikdihlcgaa", sum := "008d690e0ec41686d9f6ab5f21bbcdf2f273674a63ed8a9f01412289f05cb2ef", func := "pupil/pupillaw7.TensorChecks", spec := "tensorChecks", unfollowed := true, recurses := true, apart := false }
def TensorChecksSaid : Prop := tensorChecksRow.holds Try.pinned (OpenSpec.ofChange tensorChecksSpec)

/-- ITS FALSE NEIGHBOUR: 'it returns false'. Refute it at one input. -/
def tensorChecksWrong : ChangeSpec := { name := "tensorChecks", fn := fun _ => fun
  | [d1, d2, d3] => { results := [.lit (.bool false)], args := [d1, d2, d3] }
  | _ => none }
def TensorChecksWrongFalsely : Prop := tensorChecksRow.holds Try.pinned (OpenSpec.ofChange tensorChecksWrong)

/-- 'pupillaw7.TensorMoves': WHATEVER THE INPUT: true; the input reads as it did. -/
def tensorMovesSpec : ChangeSpec := { name := "tensorMoves", fn := fun _ => fun
  | [d1, d2, d3] => { results := [.lit (.bool true)], args := [d1, d2, d3] }
  | _ => none }
def tensorMovesRow : OpenClaim := { program := "ytklomikdihlcgaa", sum := "008d690e0ec41686d9f6ab5f21bbcdf2f273674a63ed8a9f01412289f05cb2ef", func := "pupil/pupillaw7.TensorMoves", spec := "tensorMoves", unfollowed := true, recurses := true, apart := false }
def TensorMovesSaid : Prop := tensorMovesRow.holds Try.pinned (OpenSpec.ofChange tensorMovesSpec)

/-- ITS FALSE NEIGHBOUR: 'it returns false'. Refute it at one input. -/
def tensorMovesWrong : ChangeSpec := { name := "tensorMoves", fn := fun _ => fun
  | [d1, d2, d3] => { results := [.lit (.bool false)], args := [d1, d2, d3] }
  | _ => none }
def TensorMovesWrongFalsely : Prop := tensorMovesRow.holds Try.pinned (OpenSpec.ofChange tensorMovesWrong)

/-- 'pupillaw7.TensorGlues': WHATEVER THE INPUT: true; the input reads as it did. -/
def tensorGluesSpec : ChangeSpec := { name := "tensorGlues", fn := fun _ => fun
  | [d] => { results := [.lit (.bool true)], args := [d] }
  | _ => none }
def tensorGluesRow : OpenClaim := { program := "ytklomikdihlcgaa", sum := "008d690e0ec41686d9f6ab5f21bbcdf2f273674a63ed8a9f01412289f05cb2ef", func := "pupil/pupillaw7.TensorGlues", spec := "tensorGlues", unfollowed := true, recurses := true, apart := false }
def TensorGluesSaid : Prop := tensorGluesRow.holds Try.pinned (OpenSpec.ofChange tensorGluesSpec)

/-- ITS FALSE NEIGHBOUR: 'it returns false'. Refute it at one input. -/
def tensorGluesWrong : ChangeSpec := { name := "tensorGlues", fn := fun _ => fun
  | [d] => { results := [.lit (.bool false)], args := [d] }
  | _ => none }
def TensorGluesWrongFalsely : Prop := tensorGluesRow.holds Try.pinned (OpenSpec.ofChange tensorGluesWrong)

/-- 'pupillaw7.TensorConverts': WHATEVER THE INPUT: true; the input reads as it did. -/
def tensorConvertsSpec : ChangeSpec := { name := "tensorConverts", fn := fun _ => fun
  | [d1, d2, d3] => { results := [.lit (.bool true)], args := [d1, d2, d3] }
  | _ => none }
def tensorConvertsRow : OpenClaim := { program := "ytklomikdihlcgaa", sum := "008d690e0ec41686d9f6ab5f21bbcdf2f273674a63ed8a9f01412289f05cb2ef", func := "pupil/pupillaw7.TensorConverts", spec := "tensorConverts", inPlace := ["math.Float64frombits", "math.Float32frombits", "math.Float64bits", "math.Float32bits"], unfollowed := true, recurses := true, apart := false }
def TensorConvertsSaid : Prop := tensorConvertsRow.holds Try.pinned (OpenSpec.ofChange tensorConvertsSpec)

/-- ITS FALSE NEIGHBOUR: 'it returns false'. Refute it at one input. -/
def tensorConvertsWrong : ChangeSpec := { name := "tensorConverts", fn := fun _ => fun
  | [d1, d2, d3] => { results := [.lit (.bool false)], args := [d1, d2, d3] }
  | _ => none }
def TensorConvertsWrongFalsely : Prop := tensorConvertsRow.holds Try.pinned (OpenSpec.ofChange tensorConvertsWrong)

/-- 'pupillaw7.TensorHeld': WHATEVER THE INPUT: true; the input reads as it did. -/
def tensorHeldSpec : ChangeSpec := { name := "tensorHeld", fn := fun _ => fun
  | [d1, d2] => { results := [.lit (.bool true)], args := [d1, d2] }
  | _ => none }
def tensorHeldRow : OpenClaim := { program := "ytklomikdihlcgaa", sum := "008d690e0ec41686d9f6ab5f21bbcdf2f273674a63ed8a9f01412289f05cb2ef", func := "pupil/pupillaw7.TensorHeld", spec := "tensorHeld", inPlace := ["math.Float64frombits", "math.Float32frombits", "math.Float64bits", "math.Float32bits"], unfollowed := true, recurses := true, apart := false }
def TensorHeldSaid : Prop := tensorHeldRow.holds Try.pinned (OpenSpec.ofChange tensorHeldSpec)

/-- ITS FALSE NEIGHBOUR: 'it returns false'. Refute it at one input. -/
def tensorHeldWrong : ChangeSpec := { name := "tensorHeld", fn := fun _ => fun
  | [d1, d2] => { results := [.lit (.bool false)], args := [d1, d2] }
  | _ => none }
def TensorHeldWrongFalsely : Prop := tensorHeldRow.holds Try.pinned (OpenSpec.ofChange tensorHeldWrong)

/-- 'pupillaw7.TensorBack': WHATEVER THE INPUT: true; the input reads as it did. -/
def tensorBackSpec : ChangeSpec := { name := "tensorBack", fn := fun _ => fun
  | [d1, d2] => { results := [.lit (.bool true)], args := [d1, d2] }
  | _ => none }
def tensorBackRow : OpenClaim := { program := "ytklomikdihlcgaa", sum := "008d690e0ec41686d9f6ab5f21bbcdf2f273674a63ed8a9f01412289f05cb2ef", func := "pupil/pupillaw7.TensorBack", spec := "tensorBack", inPlace := ["math.Float64frombits", "math.Float32frombits", "math.Float64bits", "math.Float32bits"], unfollowed := true, recurses := true, apart := false }
def TensorBackSaid : Prop := tensorBackRow.holds Try.pinned (OpenSpec.ofChange tensorBackSpec)

/-- ITS FALSE NEIGHBOUR: 'it returns false'. Refute it at one input. -/
def tensorBackWrong : ChangeSpec := { name := "tensorBack", fn := fun _ => fun
  | [d1, d2] => { results := [.lit (.bool false)], args := [d1, d2] }
  | _ => none }
def TensorBackWrongFalsely : Prop := tensorBackRow.holds Try.pinned (OpenSpec.ofChange tensorBackWrong)

/- THE SECOND FORM. 'bulk': how many values and letters a reading holds, each counted each time it is reached (what is shared counts as often as it is met; a slice's spare places count too). A statement '..UptoSaid' is the law's where the arguments, and the package variables that the reading takes, are together of bulk at most 1048576: NARROWER than '..Said'. Prove '..Said' where nothing that the law and all that it calls make is longer than what came in: it says more and counts as full. Else prove '..UptoSaid'. A law counts once. -/
mutual
def uptoBulk {H : Type} : DataW H → Nat
  | .lit (.string bytes) => bytes.length + 1
  | .lit _ => 1
  | .nil => 1
  | .ptr d => uptoBulk d + 1
  | .slice elems spare => uptoBulkAll elems + uptoBulkAll spare + 1
  | .agg parts => uptoBulkAll parts + 1
  | .iface _ d => uptoBulk d + 1
  | .map entries => uptoBulkEntries entries + 1
  | .held _ => 1
def uptoBulkAll {H : Type} : List (DataW H) → Nat
  | [] => 0
  | d :: r => uptoBulk d + uptoBulkAll r
def uptoBulkEntries {H : Type} : List (Lit × DataW H) → Nat
  | [] => 0
  | x :: r => uptoBulkEntry x + uptoBulkEntries r
def uptoBulkEntry {H : Type} : Lit × DataW H → Nat
  | (.string bytes, d) => bytes.length + uptoBulk d + 1
  | (_, d) => uptoBulk d + 1
 end
def uptoSmall : (H : Type) → List (DataW H) → Bool := fun _ ds => decide (uptoBulkAll ds ≤ 1048576)
def OpenSpec.upto (s : _root_.Go.ChangeSpec) : _root_.Go.OpenSpec := { _root_.Go.OpenSpec.ofChange s with cond := some uptoSmall }

/-- 'pupillaw7.TensorZero', WHERE WHAT IT READS IS OF BULK AT MOST 1048576: true; the input reads as it did. -/
def tensorZeroUptoRow : OpenClaim := { program := "ytklomikdihlcgaa", sum := "008d690e0ec41686d9f6ab5f21bbcdf2f273674a63ed8a9f01412289f05cb2ef", func := "pupil/pupillaw7.TensorZero", spec := "tensorZero", unfollowed := true, recurses := true, apart := false, narrowed := true }
def TensorZeroUptoSaid : Prop := tensorZeroUptoRow.holds Try.pinned (OpenSpec.upto tensorZeroSpec)

/-- 'pupillaw7.TensorBoth', WHERE WHAT IT READS IS OF BULK AT MOST 1048576: true; the input reads as it did. -/
def tensorBothUptoRow : OpenClaim := { program := "ytklomikdihlcgaa", sum := "008d690e0ec41686d9f6ab5f21bbcdf2f273674a63ed8a9f01412289f05cb2ef", func := "pupil/pupillaw7.TensorBoth", spec := "tensorBoth", unfollowed := true, recurses := true, apart := false, narrowed := true }
def TensorBothUptoSaid : Prop := tensorBothUptoRow.holds Try.pinned (OpenSpec.upto tensorBothSpec)

/-- 'pupillaw7.TensorStretch', WHERE WHAT IT READS IS OF BULK AT MOST 1048576: true; the input reads as it did. -/
def tensorStretchUptoRow : OpenClaim := { program := "ytklomikdihlcgaa", sum := "008d690e0ec41686d9f6ab5f21bbcdf2f273674a63ed8a9f01412289f05cb2ef", func := "pupil/pupillaw7.TensorStretch", spec := "tensorStretch", unfollowed := true, recurses := true, apart := false, narrowed := true }
def TensorStretchUptoSaid : Prop := tensorStretchUptoRow.holds Try.pinned (OpenSpec.upto tensorStretchSpec)

/-- 'pupillaw7.TensorChecks', WHERE WHAT IT READS IS OF BULK AT MOST 1048576: true; the input reads as it did. -/
def tensorChecksUptoRow : OpenClaim := { program := "ytklomikdihlcgaa", sum := "008d690e0ec41686d9f6ab5f21bbcdf2f273674a63ed8a9f01412289f05cb2ef", func := "pupil/pupillaw7.TensorChecks", spec := "tensorChecks", unfollowed := true, recurses := true, apart := false, narrowed := true }
def TensorChecksUptoSaid : Prop := tensorChecksUptoRow.holds Try.pinned (OpenSpec.upto tensorChecksSpec)

/-- 'pupillaw7.TensorMoves', WHERE WHAT IT READS IS OF BULK AT MOST 1048576: true; the input reads as it did. -/
def tensorMovesUptoRow : OpenClaim := { program := "ytklomikdihlcgaa", sum := "008d690e0ec41686d9f6ab5f21bbcdf2f273674a63ed8a9f01412289f05cb2ef", func := "pupil/pupillaw7.TensorMoves", spec := "tensorMoves", unfollowed := true, recurses := true, apart := false, narrowed := true }
def TensorMovesUptoSaid : Prop := tensorMovesUptoRow.holds Try.pinned (OpenSpec.upto tensorMovesSpec)

/-- 'pupillaw7.TensorGlues', WHERE WHAT IT READS IS OF BULK AT MOST 1048576: true; the input reads as it did. -/
def tensorGluesUptoRow : OpenClaim := { program := "ytklomikdihlcgaa", sum := "008d690e0ec41686d9f6ab5f21bbcdf2f273674a63ed8a9f01412289f05cb2ef", func := "pupil/pupillaw7.TensorGlues", spec := "tensorGlues", unfollowed := true, recurses := true, apart := false, narrowed := true }
def TensorGluesUptoSaid : Prop := tensorGluesUptoRow.holds Try.pinned (OpenSpec.upto tensorGluesSpec)

/-- 'pupillaw7.TensorConverts', WHERE WHAT IT READS IS OF BULK AT MOST 1048576: true; the input reads as it did. -/
def tensorConvertsUptoRow : OpenClaim := { program := "ytklomikdihlcgaa", sum := "008d690e0ec41686d9f6ab5f21bbcdf2f273674a63ed8a9f01412289f05cb2ef", func := "pupil/pupillaw7.TensorConverts", spec := "tensorConverts", inPlace := ["math.Float64frombits", "math.Float32frombits", "math.Float64bits", "math.Float32bits"], unfollowed := true, recurses := true, apart := false, narrowed := true }
def TensorConvertsUptoSaid : Prop := tensorConvertsUptoRow.holds Try.pinned (OpenSpec.upto tensorConvertsSpec)

/-- 'pupillaw7.TensorHeld', WHERE WHAT IT READS IS OF BULK AT MOST 1048576: true; the input reads as it did. -/
def tensorHeldUptoRow : OpenClaim := { program := "ytklomikdihlcgaa", sum := "008d690e0ec41686d9f6ab5f21bbcdf2f273674a63ed8a9f01412289f05cb2ef", func := "pupil/pupillaw7.TensorHeld", spec := "tensorHeld", inPlace := ["math.Float64frombits", "math.Float32frombits", "math.Float64bits", "math.Float32bits"], unfollowed := true, recurses := true, apart := false, narrowed := true }
def TensorHeldUptoSaid : Prop := tensorHeldUptoRow.holds Try.pinned (OpenSpec.upto tensorHeldSpec)

/-- 'pupillaw7.TensorBack', WHERE WHAT IT READS IS OF BULK AT MOST 1048576: true; the input reads as it did. -/
def tensorBackUptoRow : OpenClaim := { program := "ytklomikdihlcgaa", sum := "008d690e0ec41686d9f6ab5f21bbcdf2f273674a63ed8a9f01412289f05cb2ef", func := "pupil/pupillaw7.TensorBack", spec := "tensorBack", inPlace := ["math.Float64frombits", "math.Float32frombits", "math.Float64bits", "math.Float32bits"], unfollowed := true, recurses := true, apart := false, narrowed := true }
def TensorBackUptoSaid : Prop := tensorBackUptoRow.holds Try.pinned (OpenSpec.upto tensorBackSpec)

end Rows
end Go.Proofs.Ytklomikdihlcgaa
