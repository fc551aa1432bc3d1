/-
  No cell of these rows narrows 'for every input' (looked for: loops, veiled, ifaces, maps, wideKeys, modest, calm, conditions, laid).
  DERIVED. THE GIVEN ROWS OF THIS SEAT. 8 by the template 'for every input the law returns true; each argument reads behind the call as it read before'; 0 by the template 'total and deterministic' (their statements: YtmiljlbbacbbpaaTotals.lean).
  GIVEN WITH THE SEED: the statements are not yours to turn. If you find one false, say at which input.
  Laid BY PROGRAM, IN A SANDBOX (cutbox-rows.mjs): the forced cells as the released guide's own fill.sh prints them over the translation 6dbeccb894e5e8d0… (all of the seat's roots in one cut). By AI agents, Wed Nov 11 2026. No macro, syntax, notation, axiom, sorry.
-/
import Derived.Test.YtmiljlbbacbbpaaChecked
import GoSem.Claim
import GoSem.ClaimJoined
import GoSem.ClaimMapViews
import Derived.JoinedTies
import Derived.KernelRfl
namespace Go.Proofs.Ytmiljlbbacbbpaa
/- THE CELL 'sum', in the pinned program and in every row, IS THE sha256 OF THE DUMP (.gsa) THAT YtmiljlbbacbbpaaProg.lean LOADS. Nothing in Lean hashes anything: it is a label: what it is worth is what the hold of that sum in a sandbox is worth. -/
noncomputable def Try.pinned : Pinned := { name := "ytmiljlbbacbbpaa", sum := "6dbeccb894e5e8d0b02f0f2d943ca60b45a3a5af7d98ab4ec05fa12359a7203f", checked := Try.checked }
namespace Rows
def none {H : Type} : Left H := { results := [], args := [] }

/-- 'pupillaw23.StateWrites': WHATEVER THE INPUT: true; the input reads as it did. -/
def stateWritesSpec : ChangeSpec := { name := "stateWrites", fn := fun _ => fun
  | [d] => { results := [.lit (.bool true)], args := [d] }
  | _ => none }
def stateWritesRow : OpenClaim := { program := "ytmiljlbbacbbpaa", sum := "6dbeccb894e5e8d0b02f0f2d943ca60b45a3a5af7d98ab4ec05fa12359a7203f", func := "pupil/pupillaw23.StateWrites", spec := "stateWrites", inPlace := ["math.Float64frombits", "math.Float32frombits", "math.Float64bits", "math.Float32bits"], unfollowed := true, recurses := true, apart := false }
def StateWritesSaid : Prop := stateWritesRow.holds Try.pinned (OpenSpec.ofChange stateWritesSpec)

/-- ITS FALSE NEIGHBOUR: 'it returns false'. Refute it at one input. -/
def stateWritesWrong : ChangeSpec := { name := "stateWrites", fn := fun _ => fun
  | [d] => { results := [.lit (.bool false)], args := [d] }
  | _ => none }
def StateWritesWrongFalsely : Prop := stateWritesRow.holds Try.pinned (OpenSpec.ofChange stateWritesWrong)

/-- 'pupillaw23.StateReads': WHATEVER THE INPUT: true; the input reads as it did. -/
def stateReadsSpec : ChangeSpec := { name := "stateReads", fn := fun _ => fun
  | [d] => { results := [.lit (.bool true)], args := [d] }
  | _ => none }
def stateReadsRow : OpenClaim := { program := "ytmiljlbbacbbpaa", sum := "6dbeccb894e5e8d0b02f0f2d943ca60b45a3a5af7d98ab4ec05fa12359a7203f", func := "pupil/pupillaw23.StateReads", spec := "stateReads", inPlace := ["math.Float64frombits", "math.Float32frombits", "math.Float64bits", "math.Float32bits"], unfollowed := true, recurses := true, apart := false }
def StateReadsSaid : Prop := stateReadsRow.holds Try.pinned (OpenSpec.ofChange stateReadsSpec)

/-- ITS FALSE NEIGHBOUR: 'it returns false'. Refute it at one input. -/
def stateReadsWrong : ChangeSpec := { name := "stateReads", fn := fun _ => fun
  | [d] => { results := [.lit (.bool false)], args := [d] }
  | _ => none }
def StateReadsWrongFalsely : Prop := stateReadsRow.holds Try.pinned (OpenSpec.ofChange stateReadsWrong)

/-- 'pupillaw23.StateAll': WHATEVER THE INPUT: true; the input reads as it did. -/
def stateAllSpec : ChangeSpec := { name := "stateAll", fn := fun _ => fun
  | [d] => { results := [.lit (.bool true)], args := [d] }
  | _ => none }
def stateAllRow : OpenClaim := { program := "ytmiljlbbacbbpaa", sum := "6dbeccb894e5e8d0b02f0f2d943ca60b45a3a5af7d98ab4ec05fa12359a7203f", func := "pupil/pupillaw23.StateAll", spec := "stateAll", inPlace := ["math.Float64frombits", "math.Float32frombits", "math.Float64bits", "math.Float32bits"], unfollowed := true, recurses := true, apart := false }
def StateAllSaid : Prop := stateAllRow.holds Try.pinned (OpenSpec.ofChange stateAllSpec)

/-- ITS FALSE NEIGHBOUR: 'it returns false'. Refute it at one input. -/
def stateAllWrong : ChangeSpec := { name := "stateAll", fn := fun _ => fun
  | [d] => { results := [.lit (.bool false)], args := [d] }
  | _ => none }
def StateAllWrongFalsely : Prop := stateAllRow.holds Try.pinned (OpenSpec.ofChange stateAllWrong)

/-- 'pupillaw23.StateBack': WHATEVER THE INPUT: true; the input reads as it did. -/
def stateBackSpec : ChangeSpec := { name := "stateBack", fn := fun _ => fun
  | [d1, d2] => { results := [.lit (.bool true)], args := [d1, d2] }
  | _ => none }
def stateBackRow : OpenClaim := { program := "ytmiljlbbacbbpaa", sum := "6dbeccb894e5e8d0b02f0f2d943ca60b45a3a5af7d98ab4ec05fa12359a7203f", func := "pupil/pupillaw23.StateBack", spec := "stateBack", inPlace := ["math.Float64frombits", "math.Float32frombits", "math.Float64bits", "math.Float32bits"], unfollowed := true, recurses := true, apart := false }
def StateBackSaid : Prop := stateBackRow.holds Try.pinned (OpenSpec.ofChange stateBackSpec)

/-- ITS FALSE NEIGHBOUR: 'it returns false'. Refute it at one input. -/
def stateBackWrong : ChangeSpec := { name := "stateBack", fn := fun _ => fun
  | [d1, d2] => { results := [.lit (.bool false)], args := [d1, d2] }
  | _ => none }
def StateBackWrongFalsely : Prop := stateBackRow.holds Try.pinned (OpenSpec.ofChange stateBackWrong)

/-- 'pupillaw23.StateCut': WHATEVER THE INPUT: true; the input reads as it did. -/
def stateCutSpec : ChangeSpec := { name := "stateCut", fn := fun _ => fun
  | [d1, d2] => { results := [.lit (.bool true)], args := [d1, d2] }
  | _ => none }
def stateCutRow : OpenClaim := { program := "ytmiljlbbacbbpaa", sum := "6dbeccb894e5e8d0b02f0f2d943ca60b45a3a5af7d98ab4ec05fa12359a7203f", func := "pupil/pupillaw23.StateCut", spec := "stateCut", inPlace := ["math.Float64frombits", "math.Float32frombits", "math.Float64bits", "math.Float32bits"], unfollowed := true, recurses := true, apart := false }
def StateCutSaid : Prop := stateCutRow.holds Try.pinned (OpenSpec.ofChange stateCutSpec)

/-- ITS FALSE NEIGHBOUR: 'it returns false'. Refute it at one input. -/
def stateCutWrong : ChangeSpec := { name := "stateCut", fn := fun _ => fun
  | [d1, d2] => { results := [.lit (.bool false)], args := [d1, d2] }
  | _ => none }
def StateCutWrongFalsely : Prop := stateCutRow.holds Try.pinned (OpenSpec.ofChange stateCutWrong)

/-- 'pupillaw23.StateTurned': WHATEVER THE INPUT: true; the input reads as it did. -/
def stateTurnedSpec : ChangeSpec := { name := "stateTurned", fn := fun _ => fun
  | [d1, d2, d3] => { results := [.lit (.bool true)], args := [d1, d2, d3] }
  | _ => none }
def stateTurnedRow : OpenClaim := { program := "ytmiljlbbacbbpaa", sum := "6dbeccb894e5e8d0b02f0f2d943ca60b45a3a5af7d98ab4ec05fa12359a7203f", func := "pupil/pupillaw23.StateTurned", spec := "stateTurned", inPlace := ["math.Float64frombits", "math.Float32frombits", "math.Float64bits", "math.Float32bits"], unfollowed := true, recurses := true, apart := false }
def StateTurnedSaid : Prop := stateTurnedRow.holds Try.pinned (OpenSpec.ofChange stateTurnedSpec)

/-- ITS FALSE NEIGHBOUR: 'it returns false'. Refute it at one input. -/
def stateTurnedWrong : ChangeSpec := { name := "stateTurned", fn := fun _ => fun
  | [d1, d2, d3] => { results := [.lit (.bool false)], args := [d1, d2, d3] }
  | _ => none }
def StateTurnedWrongFalsely : Prop := stateTurnedRow.holds Try.pinned (OpenSpec.ofChange stateTurnedWrong)

/-- 'pupillaw23.StateForms': WHATEVER THE INPUT: true; the input reads as it did. -/
def stateFormsSpec : ChangeSpec := { name := "stateForms", fn := fun _ => fun
  | [d1, d2, d3] => { results := [.lit (.bool true)], args := [d1, d2, d3] }
  | _ => none }
def stateFormsRow : OpenClaim := { program := "ytmiljlbbacbbpaa", sum := "6dbeccb894e5e8d0b02f0f2d943ca60b45a3a5af7d98ab4ec05fa12359a7203f", func := "pupil/pupillaw23.StateForms", spec := "stateForms", inPlace := ["math.Float64frombits", "math.Float32frombits", "math.Float64bits", "math.Float32bits"], unfollowed := true, recurses := true, apart := false }
def StateFormsSaid : Prop := stateFormsRow.holds Try.pinned (OpenSpec.ofChange stateFormsSpec)

/-- ITS FALSE NEIGHBOUR: 'it returns false'. Refute it at one input. -/
def stateFormsWrong : ChangeSpec := { name := "stateForms", fn := fun _ => fun
  | [d1, d2, d3] => { results := [.lit (.bool false)], args := [d1, d2, d3] }
  | _ => none }
def StateFormsWrongFalsely : Prop := stateFormsRow.holds Try.pinned (OpenSpec.ofChange stateFormsWrong)

/-- 'pupillaw23.StateLimits': WHATEVER THE INPUT: true; the input reads as it did. -/
def stateLimitsSpec : ChangeSpec := { name := "stateLimits", fn := fun _ => fun
  | [d] => { results := [.lit (.bool true)], args := [d] }
  | _ => none }
def stateLimitsRow : OpenClaim := { program := "ytmiljlbbacbbpaa", sum := "6dbeccb894e5e8d0b02f0f2d943ca60b45a3a5af7d98ab4ec05fa12359a7203f", func := "pupil/pupillaw23.StateLimits", spec := "stateLimits", inPlace := ["math.Float64frombits", "math.Float32frombits", "math.Float64bits", "math.Float32bits"], unfollowed := true, recurses := true, apart := false }
def StateLimitsSaid : Prop := stateLimitsRow.holds Try.pinned (OpenSpec.ofChange stateLimitsSpec)

/-- ITS FALSE NEIGHBOUR: 'it returns false'. Refute it at one input. -/
def stateLimitsWrong : ChangeSpec := { name := "stateLimits", fn := fun _ => fun
  | [d] => { results := [.lit (.bool false)], args := [d] }
  | _ => none }
def StateLimitsWrongFalsely : Prop := stateLimitsRow.holds Try.pinned (OpenSpec.ofChange stateLimitsWrong)

/- THE SECOND FORM. 'bulk': how many values and letters a reading holds, each counted each time it is reached (what is shared counts as often as it is met; a slice's spare places count too). A statement '..UptoSaid' is the law's where the arguments, and the package variables that the reading takes, are together of bulk at most 1048576: NARROWER than '..Said'. Prove '..Said' where nothing that the law and all that it calls make is longer than what came in: it says more and counts as full. Else prove '..UptoSaid'. A law counts once. -/
mutual
def uptoBulk {H : Type} : DataW H → Nat
  | .lit (.string bytes) => bytes.length + 1
  | .lit _ => 1
  | .nil => 1
  | .ptr d => uptoBulk d + 1
  | .slice elems spare => uptoBulkAll elems + uptoBulkAll spare + 1
  | .agg parts => uptoBulkAll parts + 1
  | .iface _ d => uptoBulk d + 1
  | .map entries => uptoBulkEntries entries + 1
  | .held _ => 1
def uptoBulkAll {H : Type} : List (DataW H) → Nat
  | [] => 0
  | d :: r => uptoBulk d + uptoBulkAll r
def uptoBulkEntries {H : Type} : List (Lit × DataW H) → Nat
  | [] => 0
  | x :: r => uptoBulkEntry x + uptoBulkEntries r
def uptoBulkEntry {H : Type} : Lit × DataW H → Nat
  | (.string bytes, d) => bytes.length + uptoBulk d + 1
  | (_, d) => uptoBulk d + 1
 end
def uptoSmall : (H : Type) → List (DataW H) → Bool := fun _ ds => decide (uptoBulkAll ds ≤ 1048576)
def OpenSpec.upto (s : _root_.Go.ChangeSpec) : _root_.Go.OpenSpec := { _root_.Go.OpenSpec.ofChange s with cond := some uptoSmall }

/-- 'pupillaw23.StateWrites', WHERE WHAT IT READS IS OF BULK AT MOST 1048576: true; the input reads as it did. -/
def stateWritesUptoRow : OpenClaim := { program := "ytmiljlbbacbbpaa", sum := "6dbeccb894e5e8d0b02f0f2d943ca60b45a3a5af7d98ab4ec05fa12359a7203f", func := "pupil/pupillaw23.StateWrites", spec := "stateWrites", inPlace := ["math.Float64frombits", "math.Float32frombits", "math.Float64bits", "math.Float32bits"], unfollowed := true, recurses := true, apart := false, narrowed := true }
def StateWritesUptoSaid : Prop := stateWritesUptoRow.holds Try.pinned (OpenSpec.upto stateWritesSpec)

/-- 'pupillaw23.StateReads', WHERE WHAT IT READS IS OF BULK AT MOST 1048576: true; the input reads as it did. -/
def stateReadsUptoRow : OpenClaim := { program := "ytmiljlbbacbbpaa", sum := "6dbeccb894e5e8d0b02f0f2d943ca60b45a3a5af7d98ab4ec05fa12359a7203f", func := "pupil/pupillaw23.StateReads", spec := "stateReads", inPlace := ["math.Float64frombits", "math.Float32frombits", "math.Float64bits", "math.Float32bits"], unfollowed := true, recurses := true, apart := false, narrowed := true }
def StateReadsUptoSaid : Prop := stateReadsUptoRow.holds Try.pinned (OpenSpec.upto stateReadsSpec)

/-- 'pupillaw23.StateAll', WHERE WHAT IT READS IS OF BULK AT MOST 1048576: true; the input reads as it did. -/
def stateAllUptoRow : OpenClaim := { program := "ytmiljlbbacbbpaa", sum := "6dbeccb894e5e8d0b02f0f2d943ca60b45a3a5af7d98ab4ec05fa12359a7203f", func := "pupil/pupillaw23.StateAll", spec := "stateAll", inPlace := ["math.Float64frombits", "math.Float32frombits", "math.Float64bits", "math.Float32bits"], unfollowed := true, recurses := true, apart := false, narrowed := true }
def StateAllUptoSaid : Prop := stateAllUptoRow.holds Try.pinned (OpenSpec.upto stateAllSpec)

/-- 'pupillaw23.StateBack', WHERE WHAT IT READS IS OF BULK AT MOST 1048576: true; the input reads as it did. -/
def stateBackUptoRow : OpenClaim := { program := "ytmiljlbbacbbpaa", sum := "6dbeccb894e5e8d0b02f0f2d943ca60b45a3a5af7d98ab4ec05fa12359a7203f", func := "pupil/pupillaw23.StateBack", spec := "stateBack", inPlace := ["math.Float64frombits", "math.Float32frombits", "math.Float64bits", "math.Float32bits"], unfollowed := true, recurses := true, apart := false, narrowed := true }
def StateBackUptoSaid : Prop := stateBackUptoRow.holds Try.pinned (OpenSpec.upto stateBackSpec)

/-- 'pupillaw23.StateCut', WHERE WHAT IT READS IS OF BULK AT MOST 1048576: true; the input reads as it did. -/
def stateCutUptoRow : OpenClaim := { program := "ytmiljlbbacbbpaa", sum := "6dbeccb894e5e8d0b02f0f2d943ca60b45a3a5af7d98ab4ec05fa12359a7203f", func := "pupil/pupillaw23.StateCut", spec := "stateCut", inPlace := ["math.Float64frombits", "math.Float32frombits", "math.Float64bits", "math.Float32bits"], unfollowed := true, recurses := true, apart := false, narrowed := true }
def StateCutUptoSaid : Prop := stateCutUptoRow.holds Try.pinned (OpenSpec.upto stateCutSpec)

/-- 'pupillaw23.StateTurned', WHERE WHAT IT READS IS OF BULK AT MOST 1048576: true; the input reads as it did. -/
def stateTurnedUptoRow : OpenClaim := { program := "ytmiljlbbacbbpaa", sum := "6dbeccb894e5e8d0b02f0f2d943ca60b45a3a5af7d98ab4ec05fa12359a7203f", func := "pupil/pupillaw23.StateTurned", spec := "stateTurned", inPlace := ["math.Float64frombits", "math.Float32frombits", "math.Float64bits", "math.Float32bits"], unfollowed := true, recurses := true, apart := false, narrowed := true }
def StateTurnedUptoSaid : Prop := stateTurnedUptoRow.holds Try.pinned (OpenSpec.upto stateTurnedSpec)

/-- 'pupillaw23.StateForms', WHERE WHAT IT READS IS OF BULK AT MOST 1048576: true; the input reads as it did. -/
def stateFormsUptoRow : OpenClaim := { program := "ytmiljlbbacbbpaa", sum := "6dbeccb894e5e8d0b02f0f2d943ca60b45a3a5af7d98ab4ec05fa12359a7203f", func := "pupil/pupillaw23.StateForms", spec := "stateForms", inPlace := ["math.Float64frombits", "math.Float32frombits", "math.Float64bits", "math.Float32bits"], unfollowed := true, recurses := true, apart := false, narrowed := true }
def StateFormsUptoSaid : Prop := stateFormsUptoRow.holds Try.pinned (OpenSpec.upto stateFormsSpec)

/-- 'pupillaw23.StateLimits', WHERE WHAT IT READS IS OF BULK AT MOST 1048576: true; the input reads as it did. -/
def stateLimitsUptoRow : OpenClaim := { program := "ytmiljlbbacbbpaa", sum := "6dbeccb894e5e8d0b02f0f2d943ca60b45a3a5af7d98ab4ec05fa12359a7203f", func := "pupil/pupillaw23.StateLimits", spec := "stateLimits", inPlace := ["math.Float64frombits", "math.Float32frombits", "math.Float64bits", "math.Float32bits"], unfollowed := true, recurses := true, apart := false, narrowed := true }
def StateLimitsUptoSaid : Prop := stateLimitsUptoRow.holds Try.pinned (OpenSpec.upto stateLimitsSpec)

end Rows
end Go.Proofs.Ytmiljlbbacbbpaa
