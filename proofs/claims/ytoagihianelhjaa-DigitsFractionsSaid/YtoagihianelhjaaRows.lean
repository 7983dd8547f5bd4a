/-
  No cell of these rows narrows 'for every input' (looked for: loops, veiled, ifaces, maps, wideKeys, modest, calm, conditions, laid).
  DERIVED. THE GIVEN ROWS OF THIS SEAT. 5 by the template 'for every input the law returns true; each argument reads behind the call as it read before'; 0 by the template 'total and deterministic' (their statements: YtoagihianelhjaaTotals.lean).
  GIVEN WITH THE SEED: the statements are not yours to turn. If you find one false, say at which input.
  Laid BY PROGRAM, IN A SANDBOX (cutbox-rows.mjs): the forced cells as the released guide's own fill.sh prints them over the translation 099e8c8ff4faf82b… (all of the seat's roots in one cut). By AI agents, Wed Nov 11 2026. No macro, syntax, notation, axiom, sorry.
-/
import Derived.Test.YtoagihianelhjaaChecked
import GoSem.Claim
import GoSem.ClaimJoined
import GoSem.ClaimMapViews
import Derived.JoinedTies
import Derived.KernelRfl
namespace Go.Proofs.Ytoagihianelhjaa
/- THE CELL 'sum', in the pinned program and in every row, IS THE sha256 OF THE DUMP (.gsa) THAT YtoagihianelhjaaProg.lean LOADS. Nothing in Lean hashes anything: it is a label: what it is worth is what the hold of that sum in a sandbox is worth. -/
noncomputable def Try.pinned : Pinned := { name := "ytoagihianelhjaa", sum := "099e8c8ff4faf82bb8eba79a93f3f64bd142ffba3657c4c7d55dc7e818d970b4", checked := Try.checked }
namespace Rows
def none {H : Type} : Left H := { results := [], args := [] }

/-- 'orrerylaw03.DigitsTexts': WHATEVER THE INPUT: true; the input reads as it did. -/
def digitsTextsSpec : ChangeSpec := { name := "digitsTexts", fn := fun _ => fun
  | [d] => { results := [.lit (.bool true)], args := [d] }
  | _ => none }
def digitsTextsRow : OpenClaim := { program := "ytoagihianelhjaa", sum := "099e8c8ff4faf82bb8eba79a93f3f64bd142ffba3657c4c7d55dc7e818d970b4", func := "orrery/orrerylaw03.DigitsTexts", spec := "digitsTexts", apart := false }
def DigitsTextsSaid : Prop := digitsTextsRow.holds Try.pinned (OpenSpec.ofChange digitsTextsSpec)

/-- ITS FALSE NEIGHBOUR: 'it returns false'. Refute it at one input. -/
def digitsTextsWrong : ChangeSpec := { name := "digitsTexts", fn := fun _ => fun
  | [d] => { results := [.lit (.bool false)], args := [d] }
  | _ => none }
def DigitsTextsWrongFalsely : Prop := digitsTextsRow.holds Try.pinned (OpenSpec.ofChange digitsTextsWrong)

/-- 'orrerylaw03.DigitsParses': WHATEVER THE INPUT: true; the input reads as it did. -/
def digitsParsesSpec : ChangeSpec := { name := "digitsParses", fn := fun _ => fun
  | [d] => { results := [.lit (.bool true)], args := [d] }
  | _ => none }
def digitsParsesRow : OpenClaim := { program := "ytoagihianelhjaa", sum := "099e8c8ff4faf82bb8eba79a93f3f64bd142ffba3657c4c7d55dc7e818d970b4", func := "orrery/orrerylaw03.DigitsParses", spec := "digitsParses", apart := false }
def DigitsParsesSaid : Prop := digitsParsesRow.holds Try.pinned (OpenSpec.ofChange digitsParsesSpec)

/-- ITS FALSE NEIGHBOUR: 'it returns false'. Refute it at one input. -/
def digitsParsesWrong : ChangeSpec := { name := "digitsParses", fn := fun _ => fun
  | [d] => { results := [.lit (.bool false)], args := [d] }
  | _ => none }
def DigitsParsesWrongFalsely : Prop := digitsParsesRow.holds Try.pinned (OpenSpec.ofChange digitsParsesWrong)

/-- 'orrerylaw03.DigitsBack': WHATEVER THE INPUT: true; the input reads as it did. -/
def digitsBackSpec : ChangeSpec := { name := "digitsBack", fn := fun _ => fun
  | [d1, d2] => { results := [.lit (.bool true)], args := [d1, d2] }
  | _ => none }
def digitsBackRow : OpenClaim := { program := "ytoagihianelhjaa", sum := "099e8c8ff4faf82bb8eba79a93f3f64bd142ffba3657c4c7d55dc7e818d970b4", func := "orrery/orrerylaw03.DigitsBack", spec := "digitsBack", apart := false }
def DigitsBackSaid : Prop := digitsBackRow.holds Try.pinned (OpenSpec.ofChange digitsBackSpec)

/-- ITS FALSE NEIGHBOUR: 'it returns false'. Refute it at one input. -/
def digitsBackWrong : ChangeSpec := { name := "digitsBack", fn := fun _ => fun
  | [d1, d2] => { results := [.lit (.bool false)], args := [d1, d2] }
  | _ => none }
def DigitsBackWrongFalsely : Prop := digitsBackRow.holds Try.pinned (OpenSpec.ofChange digitsBackWrong)

/-- 'orrerylaw03.DigitsFractions': WHATEVER THE INPUT: true; the input reads as it did. -/
def digitsFractionsSpec : ChangeSpec := { name := "digitsFractions", fn := fun _ => fun
  | [d] => { results := [.lit (.bool true)], args := [d] }
  | _ => none }
def digitsFractionsRow : OpenClaim := { program := "ytoagihianelhjaa", sum := "099e8c8ff4faf82bb8eba79a93f3f64bd142ffba3657c4c7d55dc7e818d970b4", func := "orrery/orrerylaw03.DigitsFractions", spec := "digitsFractions", apart := false }
def DigitsFractionsSaid : Prop := digitsFractionsRow.holds Try.pinned (OpenSpec.ofChange digitsFractionsSpec)

/-- ITS FALSE NEIGHBOUR: 'it returns false'. Refute it at one input. -/
def digitsFractionsWrong : ChangeSpec := { name := "digitsFractions", fn := fun _ => fun
  | [d] => { results := [.lit (.bool false)], args := [d] }
  | _ => none }
def DigitsFractionsWrongFalsely : Prop := digitsFractionsRow.holds Try.pinned (OpenSpec.ofChange digitsFractionsWrong)

/-- 'orrerylaw03.DigitsLong': WHATEVER THE INPUT: true; the input reads as it did. -/
def digitsLongSpec : ChangeSpec := { name := "digitsLong", fn := fun _ => fun
  | [d1, d2] => { results := [.lit (.bool true)], args := [d1, d2] }
  | _ => none }
def digitsLongRow : OpenClaim := { program := "ytoagihianelhjaa", sum := "099e8c8ff4faf82bb8eba79a93f3f64bd142ffba3657c4c7d55dc7e818d970b4", func := "orrery/orrerylaw03.DigitsLong", spec := "digitsLong", apart := false }
def DigitsLongSaid : Prop := digitsLongRow.holds Try.pinned (OpenSpec.ofChange digitsLongSpec)

/-- ITS FALSE NEIGHBOUR: 'it returns false'. Refute it at one input. -/
def digitsLongWrong : ChangeSpec := { name := "digitsLong", fn := fun _ => fun
  | [d1, d2] => { results := [.lit (.bool false)], args := [d1, d2] }
  | _ => none }
def DigitsLongWrongFalsely : Prop := digitsLongRow.holds Try.pinned (OpenSpec.ofChange digitsLongWrong)

/- THE SECOND FORM. 'bulk': how many values and letters a reading holds, each counted each time it is reached (what is shared counts as often as it is met; a slice's spare places count too). A statement '..UptoSaid' is the law's where the arguments, and the package variables that the reading takes, are together of bulk at most 1048576: NARROWER than '..Said'. Prove '..Said' where nothing that the law and all that it calls make is longer than what came in: it says more and counts as full. Else prove '..UptoSaid'. A law counts once. -/
mutual
def uptoBulk {H : Type} : DataW H → Nat
  | .lit (.string bytes) => bytes.length + 1
  | .lit _ => 1
  | .nil => 1
  | .ptr d => uptoBulk d + 1
  | .slice elems spare => uptoBulkAll elems + uptoBulkAll spare + 1
  | .agg parts => uptoBulkAll parts + 1
  | .iface _ d => uptoBulk d + 1
  | .map entries => uptoBulkEntries entries + 1
  | .held _ => 1
def uptoBulkAll {H : Type} : List (DataW H) → Nat
  | [] => 0
  | d :: r => uptoBulk d + uptoBulkAll r
def uptoBulkEntries {H : Type} : List (Lit × DataW H) → Nat
  | [] => 0
  | x :: r => uptoBulkEntry x + uptoBulkEntries r
def uptoBulkEntry {H : Type} : Lit × DataW H → Nat
  | (.string bytes, d) => bytes.length + uptoBulk d + 1
  | (_, d) => uptoBulk d + 1
 end
def uptoSmall : (H : Type) → List (DataW H) → Bool := fun _ ds => decide (uptoBulkAll ds ≤ 1048576)
def OpenSpec.upto (s : _root_.Go.ChangeSpec) : _root_.Go.OpenSpec := { _root_.Go.OpenSpec.ofChange s with cond := some uptoSmall }

/-- 'orrerylaw03.DigitsTexts', WHERE WHAT IT READS IS OF BULK AT MOST 1048576: true; the input reads as it did. -/
def digitsTextsUptoRow : OpenClaim := { program := "ytoagihianelhjaa", sum := "099e8c8ff4faf82bb8eba79a93f3f64bd142ffba3657c4c7d55dc7e818d970b4", func := "orrery/orrerylaw03.DigitsTexts", spec := "digitsTexts", apart := false, narrowed := true }
def DigitsTextsUptoSaid : Prop := digitsTextsUptoRow.holds Try.pinned (OpenSpec.upto digitsTextsSpec)

/-- 'orrerylaw03.DigitsParses', WHERE WHAT IT READS IS OF BULK AT MOST 1048576: true; the input reads as it did. -/
def digitsParsesUptoRow : OpenClaim := { program := "ytoagihianelhjaa", sum := "099e8c8ff4faf82bb8eba79a93f3f64bd142ffba3657c4c7d55dc7e818d970b4", func := "orrery/orrerylaw03.DigitsParses", spec := "digitsParses", apart := false, narrowed := true }
def DigitsParsesUptoSaid : Prop := digitsParsesUptoRow.holds Try.pinned (OpenSpec.upto digitsParsesSpec)

/-- 'orrerylaw03.DigitsBack', WHERE WHAT IT READS IS OF BULK AT MOST 1048576: true; the input reads as it did. -/
def digitsBackUptoRow : OpenClaim := { program := "ytoagihianelhjaa", sum := "099e8c8ff4faf82bb8eba79a93f3f64bd142ffba3657c4c7d55dc7e818d970b4", func := "orrery/orrerylaw03.DigitsBack", spec := "digitsBack", apart := false, narrowed := true }
def DigitsBackUptoSaid : Prop := digitsBackUptoRow.holds Try.pinned (OpenSpec.upto digitsBackSpec)

/-- 'orrerylaw03.DigitsFractions', WHERE WHAT IT READS IS OF BULK AT MOST 1048576: true; the input reads as it did. -/
def digitsFractionsUptoRow : OpenClaim := { program := "ytoagihianelhjaa", sum := "099e8c8ff4faf82bb8eba79a93f3f64bd142ffba3657c4c7d55dc7e818d970b4", func := "orrery/orrerylaw03.DigitsFractions", spec := "digitsFractions", apart := false, narrowed := true }
def DigitsFractionsUptoSaid : Prop := digitsFractionsUptoRow.holds Try.pinned (OpenSpec.upto digitsFractionsSpec)

/-- 'orrerylaw03.DigitsLong', WHERE WHAT IT READS IS OF BULK AT MOST 1048576: true; the input reads as it did. -/
def digitsLongUptoRow : OpenClaim := { program := "ytoagihianelhjaa", sum := "099e8c8ff4faf82bb8eba79a93f3f64bd142ffba3657c4c7d55dc7e818d970b4", func := "orrery/orrerylaw03.DigitsLong", spec := "digitsLong", apart := false, narrowed := true }
def DigitsLongUptoSaid : Prop := digitsLongUptoRow.holds Try.pinned (OpenSpec.upto digitsLongSpec)

end Rows
end Go.Proofs.Ytoagihianelhjaa
