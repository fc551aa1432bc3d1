/-
  No cell of these rows narrows 'for every input' (looked for: loops, veiled, ifaces, maps, wideKeys, modest, calm, conditions, laid).
  DERIVED. THE GIVEN ROWS OF THIS SEAT. 9 by the template 'for every input the law returns true; each argument reads behind the call as it read before'; 0 by the template 'total and deterministic' (their statements: YtpobladocccnmaaTotals.lean).
  GIVEN WITH THE SEED: the statements are not yours to turn. If you find one false, say at which input.
  Laid BY PROGRAM, IN A SANDBOX (cutbox-rows.mjs): the forced cells as the released guide's own fill.sh prints them over the translation 8df48fb880d90dce… (all of the seat's roots in one cut). By AI agents, Wed Nov 11 2026. No macro, syntax, notation, axiom, sorry.
-/
import Derived.Test.YtpobladocccnmaaChecked
import GoSem.Claim
import GoSem.ClaimJoined
import GoSem.ClaimMapViews
import Derived.JoinedTies
import Derived.KernelRfl
namespace Go.Proofs.Ytpobladocccnmaa
/- THE CELL 'sum', in the pinned program and in every row, IS THE sha256 OF THE DUMP (.gsa) THAT YtpobladocccnmaaProg.lean LOADS. Nothing in Lean hashes anything: it is a label: what it is worth is what the hold of that sum in a sandbox is worth. -/
noncomputable def Try.pinned : Pinned := { name := "ytpobladocccnmaa", sum := "8df48fb880d90dcee63284b94e894bdf15b157afcbe0335fcb5be27f5692eb0a", checked := Try.checked }
namespace Rows
def none {H : Type} : Left H := { results := [], args := [] }

/-- 'pupillaw6.RngApart': WHATEVER THE INPUT: true; the input reads as it did. -/
def rngApartSpec : ChangeSpec := { name := "rngApart", fn := fun _ => fun
  | [d1, d2, d3] => { results := [.lit (.bool true)], args := [d1, d2, d3] }
  | _ => none }
def rngApartRow : OpenClaim := { program := "ytpobladocccnmaa", sum := "8df48fb880d90dcee63284b94e894bdf15b157afcbe0335fcb5be27f5692eb0a", func := "pupil/pupillaw6.RngApart", spec := "rngApart", apart := false }
def RngApartSaid : Prop := rngApartRow.holds Try.pinned (OpenSpec.ofChange rngApartSpec)

/-- ITS FALSE NEIGHBOUR: 'it returns false'. Refute it at one input. -/
def rngApartWrong : ChangeSpec := { name := "rngApart", fn := fun _ => fun
  | [d1, d2, d3] => { results := [.lit (.bool false)], args := [d1, d2, d3] }
  | _ => none }
def RngApartWrongFalsely : Prop := rngApartRow.holds Try.pinned (OpenSpec.ofChange rngApartWrong)

/-- 'pupillaw6.RngBelow': WHATEVER THE INPUT: true; the input reads as it did. -/
def rngBelowSpec : ChangeSpec := { name := "rngBelow", fn := fun _ => fun
  | [d1, d2] => { results := [.lit (.bool true)], args := [d1, d2] }
  | _ => none }
def rngBelowRow : OpenClaim := { program := "ytpobladocccnmaa", sum := "8df48fb880d90dcee63284b94e894bdf15b157afcbe0335fcb5be27f5692eb0a", func := "pupil/pupillaw6.RngBelow", spec := "rngBelow", apart := false }
def RngBelowSaid : Prop := rngBelowRow.holds Try.pinned (OpenSpec.ofChange rngBelowSpec)

/-- ITS FALSE NEIGHBOUR: 'it returns false'. Refute it at one input. -/
def rngBelowWrong : ChangeSpec := { name := "rngBelow", fn := fun _ => fun
  | [d1, d2] => { results := [.lit (.bool false)], args := [d1, d2] }
  | _ => none }
def RngBelowWrongFalsely : Prop := rngBelowRow.holds Try.pinned (OpenSpec.ofChange rngBelowWrong)

/-- 'pupillaw6.RngWords': WHATEVER THE INPUT: true; the input reads as it did. -/
def rngWordsSpec : ChangeSpec := { name := "rngWords", fn := fun _ => fun
  | [d1, d2, d3] => { results := [.lit (.bool true)], args := [d1, d2, d3] }
  | _ => none }
def rngWordsRow : OpenClaim := { program := "ytpobladocccnmaa", sum := "8df48fb880d90dcee63284b94e894bdf15b157afcbe0335fcb5be27f5692eb0a", func := "pupil/pupillaw6.RngWords", spec := "rngWords", apart := false }
def RngWordsSaid : Prop := rngWordsRow.holds Try.pinned (OpenSpec.ofChange rngWordsSpec)

/-- ITS FALSE NEIGHBOUR: 'it returns false'. Refute it at one input. -/
def rngWordsWrong : ChangeSpec := { name := "rngWords", fn := fun _ => fun
  | [d1, d2, d3] => { results := [.lit (.bool false)], args := [d1, d2, d3] }
  | _ => none }
def RngWordsWrongFalsely : Prop := rngWordsRow.holds Try.pinned (OpenSpec.ofChange rngWordsWrong)

/-- 'pupillaw6.RngRow': WHATEVER THE INPUT: true; the input reads as it did. -/
def rngRowSpec : ChangeSpec := { name := "rngRow", fn := fun _ => fun
  | [d1, d2] => { results := [.lit (.bool true)], args := [d1, d2] }
  | _ => none }
def rngRowRow : OpenClaim := { program := "ytpobladocccnmaa", sum := "8df48fb880d90dcee63284b94e894bdf15b157afcbe0335fcb5be27f5692eb0a", func := "pupil/pupillaw6.RngRow", spec := "rngRow", apart := false }
def RngRowSaid : Prop := rngRowRow.holds Try.pinned (OpenSpec.ofChange rngRowSpec)

/-- ITS FALSE NEIGHBOUR: 'it returns false'. Refute it at one input. -/
def rngRowWrong : ChangeSpec := { name := "rngRow", fn := fun _ => fun
  | [d1, d2] => { results := [.lit (.bool false)], args := [d1, d2] }
  | _ => none }
def RngRowWrongFalsely : Prop := rngRowRow.holds Try.pinned (OpenSpec.ofChange rngRowWrong)

/-- 'pupillaw6.RngDraws': WHATEVER THE INPUT: true; the input reads as it did. -/
def rngDrawsSpec : ChangeSpec := { name := "rngDraws", fn := fun _ => fun
  | [d1, d2, d3] => { results := [.lit (.bool true)], args := [d1, d2, d3] }
  | _ => none }
def rngDrawsRow : OpenClaim := { program := "ytpobladocccnmaa", sum := "8df48fb880d90dcee63284b94e894bdf15b157afcbe0335fcb5be27f5692eb0a", func := "pupil/pupillaw6.RngDraws", spec := "rngDraws", inPlace := ["math.Float64bits", "math.Float32bits"], apart := false }
def RngDrawsSaid : Prop := rngDrawsRow.holds Try.pinned (OpenSpec.ofChange rngDrawsSpec)

/-- ITS FALSE NEIGHBOUR: 'it returns false'. Refute it at one input. -/
def rngDrawsWrong : ChangeSpec := { name := "rngDraws", fn := fun _ => fun
  | [d1, d2, d3] => { results := [.lit (.bool false)], args := [d1, d2, d3] }
  | _ => none }
def RngDrawsWrongFalsely : Prop := rngDrawsRow.holds Try.pinned (OpenSpec.ofChange rngDrawsWrong)

/-- 'pupillaw6.RngUniform': WHATEVER THE INPUT: true; the input reads as it did. -/
def rngUniformSpec : ChangeSpec := { name := "rngUniform", fn := fun _ => fun
  | [d1, d2] => { results := [.lit (.bool true)], args := [d1, d2] }
  | _ => none }
def rngUniformRow : OpenClaim := { program := "ytpobladocccnmaa", sum := "8df48fb880d90dcee63284b94e894bdf15b157afcbe0335fcb5be27f5692eb0a", func := "pupil/pupillaw6.RngUniform", spec := "rngUniform", inPlace := ["math.Float64bits", "math.Float32bits", "math.Float64frombits", "math.Float32frombits"], apart := false }
def RngUniformSaid : Prop := rngUniformRow.holds Try.pinned (OpenSpec.ofChange rngUniformSpec)

/-- ITS FALSE NEIGHBOUR: 'it returns false'. Refute it at one input. -/
def rngUniformWrong : ChangeSpec := { name := "rngUniform", fn := fun _ => fun
  | [d1, d2] => { results := [.lit (.bool false)], args := [d1, d2] }
  | _ => none }
def RngUniformWrongFalsely : Prop := rngUniformRow.holds Try.pinned (OpenSpec.ofChange rngUniformWrong)

/-- 'pupillaw6.RngOrders': WHATEVER THE INPUT: true; the input reads as it did. -/
def rngOrdersSpec : ChangeSpec := { name := "rngOrders", fn := fun _ => fun
  | [d1, d2, d3] => { results := [.lit (.bool true)], args := [d1, d2, d3] }
  | _ => none }
def rngOrdersRow : OpenClaim := { program := "ytpobladocccnmaa", sum := "8df48fb880d90dcee63284b94e894bdf15b157afcbe0335fcb5be27f5692eb0a", func := "pupil/pupillaw6.RngOrders", spec := "rngOrders", recurses := true, apart := false }
def RngOrdersSaid : Prop := rngOrdersRow.holds Try.pinned (OpenSpec.ofChange rngOrdersSpec)

/-- ITS FALSE NEIGHBOUR: 'it returns false'. Refute it at one input. -/
def rngOrdersWrong : ChangeSpec := { name := "rngOrders", fn := fun _ => fun
  | [d1, d2, d3] => { results := [.lit (.bool false)], args := [d1, d2, d3] }
  | _ => none }
def RngOrdersWrongFalsely : Prop := rngOrdersRow.holds Try.pinned (OpenSpec.ofChange rngOrdersWrong)

/-- 'pupillaw6.RngShuffle': WHATEVER THE INPUT: true; the input reads as it did. -/
def rngShuffleSpec : ChangeSpec := { name := "rngShuffle", fn := fun _ => fun
  | [d1, d2, d3] => { results := [.lit (.bool true)], args := [d1, d2, d3] }
  | _ => none }
def rngShuffleRow : OpenClaim := { program := "ytpobladocccnmaa", sum := "8df48fb880d90dcee63284b94e894bdf15b157afcbe0335fcb5be27f5692eb0a", func := "pupil/pupillaw6.RngShuffle", spec := "rngShuffle", recurses := true, apart := false }
def RngShuffleSaid : Prop := rngShuffleRow.holds Try.pinned (OpenSpec.ofChange rngShuffleSpec)

/-- ITS FALSE NEIGHBOUR: 'it returns false'. Refute it at one input. -/
def rngShuffleWrong : ChangeSpec := { name := "rngShuffle", fn := fun _ => fun
  | [d1, d2, d3] => { results := [.lit (.bool false)], args := [d1, d2, d3] }
  | _ => none }
def RngShuffleWrongFalsely : Prop := rngShuffleRow.holds Try.pinned (OpenSpec.ofChange rngShuffleWrong)

/-- 'pupillaw6.RngAll': WHATEVER THE INPUT: true; the input reads as it did. -/
def rngAllSpec : ChangeSpec := { name := "rngAll", fn := fun _ => fun
  | [d] => { results := [.lit (.bool true)], args := [d] }
  | _ => none }
def rngAllRow : OpenClaim := { program := "ytpobladocccnmaa", sum := "8df48fb880d90dcee63284b94e894bdf15b157afcbe0335fcb5be27f5692eb0a", func := "pupil/pupillaw6.RngAll", spec := "rngAll", inPlace := ["math.Float64bits", "math.Float32bits"], recurses := true, apart := false }
def RngAllSaid : Prop := rngAllRow.holds Try.pinned (OpenSpec.ofChange rngAllSpec)

/-- ITS FALSE NEIGHBOUR: 'it returns false'. Refute it at one input. -/
def rngAllWrong : ChangeSpec := { name := "rngAll", fn := fun _ => fun
  | [d] => { results := [.lit (.bool false)], args := [d] }
  | _ => none }
def RngAllWrongFalsely : Prop := rngAllRow.holds Try.pinned (OpenSpec.ofChange rngAllWrong)

/- THE SECOND FORM. 'bulk': how many values and letters a reading holds, each counted each time it is reached (what is shared counts as often as it is met; a slice's spare places count too). A statement '..UptoSaid' is the law's where the arguments, and the package variables that the reading takes, are together of bulk at most 1048576: NARROWER than '..Said'. Prove '..Said' where nothing that the law and all that it calls make is longer than what came in: it says more and counts as full. Else prove '..UptoSaid'. A law counts once. -/
mutual
def uptoBulk {H : Type} : DataW H → Nat
  | .lit (.string bytes) => bytes.length + 1
  | .lit _ => 1
  | .nil => 1
  | .ptr d => uptoBulk d + 1
  | .slice elems spare => uptoBulkAll elems + uptoBulkAll spare + 1
  | .agg parts => uptoBulkAll parts + 1
  | .iface _ d => uptoBulk d + 1
  | .map entries => uptoBulkEntries entries + 1
  | .held _ => 1
def uptoBulkAll {H : Type} : List (DataW H) → Nat
  | [] => 0
  | d :: r => uptoBulk d + uptoBulkAll r
def uptoBulkEntries {H : Type} : List (Lit × DataW H) → Nat
  | [] => 0
  | x :: r => uptoBulkEntry x + uptoBulkEntries r
def uptoBulkEntry {H : Type} : Lit × DataW H → Nat
  | (.string bytes, d) => bytes.length + uptoBulk d + 1
  | (_, d) => uptoBulk d + 1
 end
def uptoSmall : (H : Type) → List (DataW H) → Bool := fun _ ds => decide (uptoBulkAll ds ≤ 1048576)
def OpenSpec.upto (s : _root_.Go.ChangeSpec) : _root_.Go.OpenSpec := { _root_.Go.OpenSpec.ofChange s with cond := some uptoSmall }

/-- 'pupillaw6.RngApart', WHERE WHAT IT READS IS OF BULK AT MOST 1048576: true; the input reads as it did. -/
def rngApartUptoRow : OpenClaim := { program := "ytpobladocccnmaa", sum := "8df48fb880d90dcee63284b94e894bdf15b157afcbe0335fcb5be27f5692eb0a", func := "pupil/pupillaw6.RngApart", spec := "rngApart", apart := false, narrowed := true }
def RngApartUptoSaid : Prop := rngApartUptoRow.holds Try.pinned (OpenSpec.upto rngApartSpec)

/-- 'pupillaw6.RngBelow', WHERE WHAT IT READS IS OF BULK AT MOST 1048576: true; the input reads as it did. -/
def rngBelowUptoRow : OpenClaim := { program := "ytpobladocccnmaa", sum := "8df48fb880d90dcee63284b94e894bdf15b157afcbe0335fcb5be27f5692eb0a", func := "pupil/pupillaw6.RngBelow", spec := "rngBelow", apart := false, narrowed := true }
def RngBelowUptoSaid : Prop := rngBelowUptoRow.holds Try.pinned (OpenSpec.upto rngBelowSpec)

/-- 'pupillaw6.RngWords', WHERE WHAT IT READS IS OF BULK AT MOST 1048576: true; the input reads as it did. -/
def rngWordsUptoRow : OpenClaim := { program := "ytpobladocccnmaa", sum := "8df48fb880d90dcee63284b94e894bdf15b157afcbe0335fcb5be27f5692eb0a", func := "pupil/pupillaw6.RngWords", spec := "rngWords", apart := false, narrowed := true }
def RngWordsUptoSaid : Prop := rngWordsUptoRow.holds Try.pinned (OpenSpec.upto rngWordsSpec)

/-- 'pupillaw6.RngRow', WHERE WHAT IT READS IS OF BULK AT MOST 1048576: true; the input reads as it did. -/
def rngRowUptoRow : OpenClaim := { program := "ytpobladocccnmaa", sum := "8df48fb880d90dcee63284b94e894bdf15b157afcbe0335fcb5be27f5692eb0a", func := "pupil/pupillaw6.RngRow", spec := "rngRow", apart := false, narrowed := true }
def RngRowUptoSaid : Prop := rngRowUptoRow.holds Try.pinned (OpenSpec.upto rngRowSpec)

/-- 'pupillaw6.RngDraws', WHERE WHAT IT READS IS OF BULK AT MOST 1048576: true; the input reads as it did. -/
def rngDrawsUptoRow : OpenClaim := { program := "ytpobladocccnmaa", sum := "8df48fb880d90dcee63284b94e894bdf15b157afcbe0335fcb5be27f5692eb0a", func := "pupil/pupillaw6.RngDraws", spec := "rngDraws", inPlace := ["math.Float64bits", "math.Float32bits"], apart := false, narrowed := true }
def RngDrawsUptoSaid : Prop := rngDrawsUptoRow.holds Try.pinned (OpenSpec.upto rngDrawsSpec)

/-- 'pupillaw6.RngUniform', WHERE WHAT IT READS IS OF BULK AT MOST 1048576: true; the input reads as it did. -/
def rngUniformUptoRow : OpenClaim := { program := "ytpobladocccnmaa", sum := "8df48fb880d90dcee63284b94e894bdf15b157afcbe0335fcb5be27f5692eb0a", func := "pupil/pupillaw6.RngUniform", spec := "rngUniform", inPlace := ["math.Float64bits", "math.Float32bits", "math.Float64frombits", "math.Float32frombits"], apart := false, narrowed := true }
def RngUniformUptoSaid : Prop := rngUniformUptoRow.holds Try.pinned (OpenSpec.upto rngUniformSpec)

/-- 'pupillaw6.RngOrders', WHERE WHAT IT READS IS OF BULK AT MOST 1048576: true; the input reads as it did. -/
def rngOrdersUptoRow : OpenClaim := { program := "ytpobladocccnmaa", sum := "8df48fb880d90dcee63284b94e894bdf15b157afcbe0335fcb5be27f5692eb0a", func := "pupil/pupillaw6.RngOrders", spec := "rngOrders", recurses := true, apart := false, narrowed := true }
def RngOrdersUptoSaid : Prop := rngOrdersUptoRow.holds Try.pinned (OpenSpec.upto rngOrdersSpec)

/-- 'pupillaw6.RngShuffle', WHERE WHAT IT READS IS OF BULK AT MOST 1048576: true; the input reads as it did. -/
def rngShuffleUptoRow : OpenClaim := { program := "ytpobladocccnmaa", sum := "8df48fb880d90dcee63284b94e894bdf15b157afcbe0335fcb5be27f5692eb0a", func := "pupil/pupillaw6.RngShuffle", spec := "rngShuffle", recurses := true, apart := false, narrowed := true }
def RngShuffleUptoSaid : Prop := rngShuffleUptoRow.holds Try.pinned (OpenSpec.upto rngShuffleSpec)

/-- 'pupillaw6.RngAll', WHERE WHAT IT READS IS OF BULK AT MOST 1048576: true; the input reads as it did. -/
def rngAllUptoRow : OpenClaim := { program := "ytpobladocccnmaa", sum := "8df48fb880d90dcee63284b94e894bdf15b157afcbe0335fcb5be27f5692eb0a", func := "pupil/pupillaw6.RngAll", spec := "rngAll", inPlace := ["math.Float64bits", "math.Float32bits"], recurses := true, apart := false, narrowed := true }
def RngAllUptoSaid : Prop := rngAllUptoRow.holds Try.pinned (OpenSpec.upto rngAllSpec)

end Rows
end Go.Proofs.Ytpobladocccnmaa
