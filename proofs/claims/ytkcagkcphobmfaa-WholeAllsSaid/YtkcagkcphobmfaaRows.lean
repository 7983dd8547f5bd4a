/-
  No cell of these rows narrows 'for every input' (looked for: loops, veiled, ifaces, maps, wideKeys, modest, calm, conditions, laid).
  DERIVED. THE GIVEN ROWS OF THIS SEAT. 11 by the template 'for every input the law returns true; each argument reads behind the call as it read before'; 0 by the template 'total and deterministic' (their statements: YtkcagkcphobmfaaTotals.lean).
  GIVEN WITH THE SEED: the statements are not yours to turn. If you find one false, say at which input.
  Laid BY PROGRAM, IN A SANDBOX (cutbox-rows.mjs): the forced cells as the released guide's own fill.sh prints them over the translation 5322108fe85a87de… (all of the seat's roots in one cut). By AI agents, Wed Nov 11 2026. No macro, syntax, notation, axiom, sorry.
-/
import Derived.Test.YtkcagkcphobmfaaChecked
import GoSem.Claim
import GoSem.ClaimJoined
import GoSem.ClaimMapViews
import Derived.JoinedTies
import Derived.KernelRfl
namespace Go.Proofs.Ytkcagkcphobmfaa
/- THE CELL 'sum', in the pinned program and in every row, IS THE sha256 OF THE DUMP (.gsa) THAT YtkcagkcphobmfaaProg.lean LOADS. Nothing in Lean hashes anything: it is a label: what it is worth is what the hold of that sum in a sandbox is worth. -/
noncomputable def Try.pinned : Pinned := { name := "ytkcagkcphobmfaa", sum := "5322108fe85a87de93e7a0d15c81483513dcd8fea7414e41527bc699a525822d", checked := Try.checked }
namespace Rows
def none {H : Type} : Left H := { results := [], args := [] }

/-- 'orrerylaw02.WholeDivs': WHATEVER THE INPUT: true; the input reads as it did. -/
def wholeDivsSpec : ChangeSpec := { name := "wholeDivs", fn := fun _ => fun
  | [d1, d2] => { results := [.lit (.bool true)], args := [d1, d2] }
  | _ => none }
def wholeDivsRow : OpenClaim := { program := "ytkcagkcphobmfaa", sum := "5322108fe85a87de93e7a0d15c81483513dcd8fea7414e41527bc699a525822d", func := "orrery/orrerylaw02.WholeDivs", spec := "wholeDivs", apart := false }
def WholeDivsSaid : Prop := wholeDivsRow.holds Try.pinned (OpenSpec.ofChange wholeDivsSpec)

/-- ITS FALSE NEIGHBOUR: 'it returns false'. Refute it at one input. -/
def wholeDivsWrong : ChangeSpec := { name := "wholeDivs", fn := fun _ => fun
  | [d1, d2] => { results := [.lit (.bool false)], args := [d1, d2] }
  | _ => none }
def WholeDivsWrongFalsely : Prop := wholeDivsRow.holds Try.pinned (OpenSpec.ofChange wholeDivsWrong)

/-- 'orrerylaw02.WholeEvens': WHATEVER THE INPUT: true; the input reads as it did. -/
def wholeEvensSpec : ChangeSpec := { name := "wholeEvens", fn := fun _ => fun
  | [d1, d2, d3] => { results := [.lit (.bool true)], args := [d1, d2, d3] }
  | _ => none }
def wholeEvensRow : OpenClaim := { program := "ytkcagkcphobmfaa", sum := "5322108fe85a87de93e7a0d15c81483513dcd8fea7414e41527bc699a525822d", func := "orrery/orrerylaw02.WholeEvens", spec := "wholeEvens", apart := false }
def WholeEvensSaid : Prop := wholeEvensRow.holds Try.pinned (OpenSpec.ofChange wholeEvensSpec)

/-- ITS FALSE NEIGHBOUR: 'it returns false'. Refute it at one input. -/
def wholeEvensWrong : ChangeSpec := { name := "wholeEvens", fn := fun _ => fun
  | [d1, d2, d3] => { results := [.lit (.bool false)], args := [d1, d2, d3] }
  | _ => none }
def WholeEvensWrongFalsely : Prop := wholeEvensRow.holds Try.pinned (OpenSpec.ofChange wholeEvensWrong)

/-- 'orrerylaw02.WholeGcds': WHATEVER THE INPUT: true; the input reads as it did. -/
def wholeGcdsSpec : ChangeSpec := { name := "wholeGcds", fn := fun _ => fun
  | [d1, d2] => { results := [.lit (.bool true)], args := [d1, d2] }
  | _ => none }
def wholeGcdsRow : OpenClaim := { program := "ytkcagkcphobmfaa", sum := "5322108fe85a87de93e7a0d15c81483513dcd8fea7414e41527bc699a525822d", func := "orrery/orrerylaw02.WholeGcds", spec := "wholeGcds", apart := false }
def WholeGcdsSaid : Prop := wholeGcdsRow.holds Try.pinned (OpenSpec.ofChange wholeGcdsSpec)

/-- ITS FALSE NEIGHBOUR: 'it returns false'. Refute it at one input. -/
def wholeGcdsWrong : ChangeSpec := { name := "wholeGcds", fn := fun _ => fun
  | [d1, d2] => { results := [.lit (.bool false)], args := [d1, d2] }
  | _ => none }
def WholeGcdsWrongFalsely : Prop := wholeGcdsRow.holds Try.pinned (OpenSpec.ofChange wholeGcdsWrong)

/-- 'orrerylaw02.WholeSmalls': WHATEVER THE INPUT: true; the input reads as it did. -/
def wholeSmallsSpec : ChangeSpec := { name := "wholeSmalls", fn := fun _ => fun
  | [d] => { results := [.lit (.bool true)], args := [d] }
  | _ => none }
def wholeSmallsRow : OpenClaim := { program := "ytkcagkcphobmfaa", sum := "5322108fe85a87de93e7a0d15c81483513dcd8fea7414e41527bc699a525822d", func := "orrery/orrerylaw02.WholeSmalls", spec := "wholeSmalls", apart := false }
def WholeSmallsSaid : Prop := wholeSmallsRow.holds Try.pinned (OpenSpec.ofChange wholeSmallsSpec)

/-- ITS FALSE NEIGHBOUR: 'it returns false'. Refute it at one input. -/
def wholeSmallsWrong : ChangeSpec := { name := "wholeSmalls", fn := fun _ => fun
  | [d] => { results := [.lit (.bool false)], args := [d] }
  | _ => none }
def WholeSmallsWrongFalsely : Prop := wholeSmallsRow.holds Try.pinned (OpenSpec.ofChange wholeSmallsWrong)

/-- 'orrerylaw02.WholePows': WHATEVER THE INPUT: true; the input reads as it did. -/
def wholePowsSpec : ChangeSpec := { name := "wholePows", fn := fun _ => fun
  | [d1, d2] => { results := [.lit (.bool true)], args := [d1, d2] }
  | _ => none }
def wholePowsRow : OpenClaim := { program := "ytkcagkcphobmfaa", sum := "5322108fe85a87de93e7a0d15c81483513dcd8fea7414e41527bc699a525822d", func := "orrery/orrerylaw02.WholePows", spec := "wholePows", apart := false }
def WholePowsSaid : Prop := wholePowsRow.holds Try.pinned (OpenSpec.ofChange wholePowsSpec)

/-- ITS FALSE NEIGHBOUR: 'it returns false'. Refute it at one input. -/
def wholePowsWrong : ChangeSpec := { name := "wholePows", fn := fun _ => fun
  | [d1, d2] => { results := [.lit (.bool false)], args := [d1, d2] }
  | _ => none }
def WholePowsWrongFalsely : Prop := wholePowsRow.holds Try.pinned (OpenSpec.ofChange wholePowsWrong)

/-- 'orrerylaw02.WholeShared': WHATEVER THE INPUT: true; the input reads as it did. -/
def wholeSharedSpec : ChangeSpec := { name := "wholeShared", fn := fun _ => fun
  | [d1, d2, d3, d4] => { results := [.lit (.bool true)], args := [d1, d2, d3, d4] }
  | _ => none }
def wholeSharedRow : OpenClaim := { program := "ytkcagkcphobmfaa", sum := "5322108fe85a87de93e7a0d15c81483513dcd8fea7414e41527bc699a525822d", func := "orrery/orrerylaw02.WholeShared", spec := "wholeShared", apart := false }
def WholeSharedSaid : Prop := wholeSharedRow.holds Try.pinned (OpenSpec.ofChange wholeSharedSpec)

/-- ITS FALSE NEIGHBOUR: 'it returns false'. Refute it at one input. -/
def wholeSharedWrong : ChangeSpec := { name := "wholeShared", fn := fun _ => fun
  | [d1, d2, d3, d4] => { results := [.lit (.bool false)], args := [d1, d2, d3, d4] }
  | _ => none }
def WholeSharedWrongFalsely : Prop := wholeSharedRow.holds Try.pinned (OpenSpec.ofChange wholeSharedWrong)

/-- 'orrerylaw02.WholeSums': WHATEVER THE INPUT: true; the input reads as it did. -/
def wholeSumsSpec : ChangeSpec := { name := "wholeSums", fn := fun _ => fun
  | [d1, d2] => { results := [.lit (.bool true)], args := [d1, d2] }
  | _ => none }
def wholeSumsRow : OpenClaim := { program := "ytkcagkcphobmfaa", sum := "5322108fe85a87de93e7a0d15c81483513dcd8fea7414e41527bc699a525822d", func := "orrery/orrerylaw02.WholeSums", spec := "wholeSums", apart := false }
def WholeSumsSaid : Prop := wholeSumsRow.holds Try.pinned (OpenSpec.ofChange wholeSumsSpec)

/-- ITS FALSE NEIGHBOUR: 'it returns false'. Refute it at one input. -/
def wholeSumsWrong : ChangeSpec := { name := "wholeSums", fn := fun _ => fun
  | [d1, d2] => { results := [.lit (.bool false)], args := [d1, d2] }
  | _ => none }
def WholeSumsWrongFalsely : Prop := wholeSumsRow.holds Try.pinned (OpenSpec.ofChange wholeSumsWrong)

/-- 'orrerylaw02.WholeAlls': WHATEVER THE INPUT: true; the input reads as it did. -/
def wholeAllsSpec : ChangeSpec := { name := "wholeAlls", fn := fun _ => fun
  | [d1, d2] => { results := [.lit (.bool true)], args := [d1, d2] }
  | _ => none }
def wholeAllsRow : OpenClaim := { program := "ytkcagkcphobmfaa", sum := "5322108fe85a87de93e7a0d15c81483513dcd8fea7414e41527bc699a525822d", func := "orrery/orrerylaw02.WholeAlls", spec := "wholeAlls", apart := false }
def WholeAllsSaid : Prop := wholeAllsRow.holds Try.pinned (OpenSpec.ofChange wholeAllsSpec)

/-- ITS FALSE NEIGHBOUR: 'it returns false'. Refute it at one input. -/
def wholeAllsWrong : ChangeSpec := { name := "wholeAlls", fn := fun _ => fun
  | [d1, d2] => { results := [.lit (.bool false)], args := [d1, d2] }
  | _ => none }
def WholeAllsWrongFalsely : Prop := wholeAllsRow.holds Try.pinned (OpenSpec.ofChange wholeAllsWrong)

/-- 'orrerylaw02.WholeShapes': WHATEVER THE INPUT: true; the input reads as it did. -/
def wholeShapesSpec : ChangeSpec := { name := "wholeShapes", fn := fun _ => fun
  | [d1, d2, d3] => { results := [.lit (.bool true)], args := [d1, d2, d3] }
  | _ => none }
def wholeShapesRow : OpenClaim := { program := "ytkcagkcphobmfaa", sum := "5322108fe85a87de93e7a0d15c81483513dcd8fea7414e41527bc699a525822d", func := "orrery/orrerylaw02.WholeShapes", spec := "wholeShapes", apart := false }
def WholeShapesSaid : Prop := wholeShapesRow.holds Try.pinned (OpenSpec.ofChange wholeShapesSpec)

/-- ITS FALSE NEIGHBOUR: 'it returns false'. Refute it at one input. -/
def wholeShapesWrong : ChangeSpec := { name := "wholeShapes", fn := fun _ => fun
  | [d1, d2, d3] => { results := [.lit (.bool false)], args := [d1, d2, d3] }
  | _ => none }
def WholeShapesWrongFalsely : Prop := wholeShapesRow.holds Try.pinned (OpenSpec.ofChange wholeShapesWrong)

/-- 'orrerylaw02.WholeOrders': WHATEVER THE INPUT: true; the input reads as it did. -/
def wholeOrdersSpec : ChangeSpec := { name := "wholeOrders", fn := fun _ => fun
  | [d1, d2, d3] => { results := [.lit (.bool true)], args := [d1, d2, d3] }
  | _ => none }
def wholeOrdersRow : OpenClaim := { program := "ytkcagkcphobmfaa", sum := "5322108fe85a87de93e7a0d15c81483513dcd8fea7414e41527bc699a525822d", func := "orrery/orrerylaw02.WholeOrders", spec := "wholeOrders", apart := false }
def WholeOrdersSaid : Prop := wholeOrdersRow.holds Try.pinned (OpenSpec.ofChange wholeOrdersSpec)

/-- ITS FALSE NEIGHBOUR: 'it returns false'. Refute it at one input. -/
def wholeOrdersWrong : ChangeSpec := { name := "wholeOrders", fn := fun _ => fun
  | [d1, d2, d3] => { results := [.lit (.bool false)], args := [d1, d2, d3] }
  | _ => none }
def WholeOrdersWrongFalsely : Prop := wholeOrdersRow.holds Try.pinned (OpenSpec.ofChange wholeOrdersWrong)

/-- 'orrerylaw02.WholeLaws': WHATEVER THE INPUT: true; the input reads as it did. -/
def wholeLawsSpec : ChangeSpec := { name := "wholeLaws", fn := fun _ => fun
  | [d1, d2, d3] => { results := [.lit (.bool true)], args := [d1, d2, d3] }
  | _ => none }
def wholeLawsRow : OpenClaim := { program := "ytkcagkcphobmfaa", sum := "5322108fe85a87de93e7a0d15c81483513dcd8fea7414e41527bc699a525822d", func := "orrery/orrerylaw02.WholeLaws", spec := "wholeLaws", apart := false }
def WholeLawsSaid : Prop := wholeLawsRow.holds Try.pinned (OpenSpec.ofChange wholeLawsSpec)

/-- ITS FALSE NEIGHBOUR: 'it returns false'. Refute it at one input. -/
def wholeLawsWrong : ChangeSpec := { name := "wholeLaws", fn := fun _ => fun
  | [d1, d2, d3] => { results := [.lit (.bool false)], args := [d1, d2, d3] }
  | _ => none }
def WholeLawsWrongFalsely : Prop := wholeLawsRow.holds Try.pinned (OpenSpec.ofChange wholeLawsWrong)

/- THE SECOND FORM. 'bulk': how many values and letters a reading holds, each counted each time it is reached (what is shared counts as often as it is met; a slice's spare places count too). A statement '..UptoSaid' is the law's where the arguments, and the package variables that the reading takes, are together of bulk at most 1048576: NARROWER than '..Said'. Prove '..Said' where nothing that the law and all that it calls make is longer than what came in: it says more and counts as full. Else prove '..UptoSaid'. A law counts once. -/
mutual
def uptoBulk {H : Type} : DataW H → Nat
  | .lit (.string bytes) => bytes.length + 1
  | .lit _ => 1
  | .nil => 1
  | .ptr d => uptoBulk d + 1
  | .slice elems spare => uptoBulkAll elems + uptoBulkAll spare + 1
  | .agg parts => uptoBulkAll parts + 1
  | .iface _ d => uptoBulk d + 1
  | .map entries => uptoBulkEntries entries + 1
  | .held _ => 1
def uptoBulkAll {H : Type} : List (DataW H) → Nat
  | [] => 0
  | d :: r => uptoBulk d + uptoBulkAll r
def uptoBulkEntries {H : Type} : List (Lit × DataW H) → Nat
  | [] => 0
  | x :: r => uptoBulkEntry x + uptoBulkEntries r
def uptoBulkEntry {H : Type} : Lit × DataW H → Nat
  | (.string bytes, d) => bytes.length + uptoBulk d + 1
  | (_, d) => uptoBulk d + 1
 end
def uptoSmall : (H : Type) → List (DataW H) → Bool := fun _ ds => decide (uptoBulkAll ds ≤ 1048576)
def OpenSpec.upto (s : _root_.Go.ChangeSpec) : _root_.Go.OpenSpec := { _root_.Go.OpenSpec.ofChange s with cond := some uptoSmall }

/-- 'orrerylaw02.WholeDivs', WHERE WHAT IT READS IS OF BULK AT MOST 1048576: true; the input reads as it did. -/
def wholeDivsUptoRow : OpenClaim := { program := "ytkcagkcphobmfaa", sum := "5322108fe85a87de93e7a0d15c81483513dcd8fea7414e41527bc699a525822d", func := "orrery/orrerylaw02.WholeDivs", spec := "wholeDivs", apart := false, narrowed := true }
def WholeDivsUptoSaid : Prop := wholeDivsUptoRow.holds Try.pinned (OpenSpec.upto wholeDivsSpec)

/-- 'orrerylaw02.WholeEvens', WHERE WHAT IT READS IS OF BULK AT MOST 1048576: true; the input reads as it did. -/
def wholeEvensUptoRow : OpenClaim := { program := "ytkcagkcphobmfaa", sum := "5322108fe85a87de93e7a0d15c81483513dcd8fea7414e41527bc699a525822d", func := "orrery/orrerylaw02.WholeEvens", spec := "wholeEvens", apart := false, narrowed := true }
def WholeEvensUptoSaid : Prop := wholeEvensUptoRow.holds Try.pinned (OpenSpec.upto wholeEvensSpec)

/-- 'orrerylaw02.WholeGcds', WHERE WHAT IT READS IS OF BULK AT MOST 1048576: true; the input reads as it did. -/
def wholeGcdsUptoRow : OpenClaim := { program := "ytkcagkcphobmfaa", sum := "5322108fe85a87de93e7a0d15c81483513dcd8fea7414e41527bc699a525822d", func := "orrery/orrerylaw02.WholeGcds", spec := "wholeGcds", apart := false, narrowed := true }
def WholeGcdsUptoSaid : Prop := wholeGcdsUptoRow.holds Try.pinned (OpenSpec.upto wholeGcdsSpec)

/-- 'orrerylaw02.WholeSmalls', WHERE WHAT IT READS IS OF BULK AT MOST 1048576: true; the input reads as it did. -/
def wholeSmallsUptoRow : OpenClaim := { program := "ytkcagkcphobmfaa", sum := "5322108fe85a87de93e7a0d15c81483513dcd8fea7414e41527bc699a525822d", func := "orrery/orrerylaw02.WholeSmalls", spec := "wholeSmalls", apart := false, narrowed := true }
def WholeSmallsUptoSaid : Prop := wholeSmallsUptoRow.holds Try.pinned (OpenSpec.upto wholeSmallsSpec)

/-- 'orrerylaw02.WholePows', WHERE WHAT IT READS IS OF BULK AT MOST 1048576: true; the input reads as it did. -/
def wholePowsUptoRow : OpenClaim := { program := "ytkcagkcphobmfaa", sum := "5322108fe85a87de93e7a0d15c81483513dcd8fea7414e41527bc699a525822d", func := "orrery/orrerylaw02.WholePows", spec := "wholePows", apart := false, narrowed := true }
def WholePowsUptoSaid : Prop := wholePowsUptoRow.holds Try.pinned (OpenSpec.upto wholePowsSpec)

/-- 'orrerylaw02.WholeShared', WHERE WHAT IT READS IS OF BULK AT MOST 1048576: true; the input reads as it did. -/
def wholeSharedUptoRow : OpenClaim := { program := "ytkcagkcphobmfaa", sum := "5322108fe85a87de93e7a0d15c81483513dcd8fea7414e41527bc699a525822d", func := "orrery/orrerylaw02.WholeShared", spec := "wholeShared", apart := false, narrowed := true }
def WholeSharedUptoSaid : Prop := wholeSharedUptoRow.holds Try.pinned (OpenSpec.upto wholeSharedSpec)

/-- 'orrerylaw02.WholeSums', WHERE WHAT IT READS IS OF BULK AT MOST 1048576: true; the input reads as it did. -/
def wholeSumsUptoRow : OpenClaim := { program := "ytkcagkcphobmfaa", sum := "5322108fe85a87de93e7a0d15c81483513dcd8fea7414e41527bc699a525822d", func := "orrery/orrerylaw02.WholeSums", spec := "wholeSums", apart := false, narrowed := true }
def WholeSumsUptoSaid : Prop := wholeSumsUptoRow.holds Try.pinned (OpenSpec.upto wholeSumsSpec)

/-- 'orrerylaw02.WholeAlls', WHERE WHAT IT READS IS OF BULK AT MOST 1048576: true; the input reads as it did. -/
def wholeAllsUptoRow : OpenClaim := { program := "ytkcagkcphobmfaa", sum := "5322108fe85a87de93e7a0d15c81483513dcd8fea7414e41527bc699a525822d", func := "orrery/orrerylaw02.WholeAlls", spec := "wholeAlls", apart := false, narrowed := true }
def WholeAllsUptoSaid : Prop := wholeAllsUptoRow.holds Try.pinned (OpenSpec.upto wholeAllsSpec)

/-- 'orrerylaw02.WholeShapes', WHERE WHAT IT READS IS OF BULK AT MOST 1048576: true; the input reads as it did. -/
def wholeShapesUptoRow : OpenClaim := { program := "ytkcagkcphobmfaa", sum := "5322108fe85a87de93e7a0d15c81483513dcd8fea7414e41527bc699a525822d", func := "orrery/orrerylaw02.WholeShapes", spec := "wholeShapes", apart := false, narrowed := true }
def WholeShapesUptoSaid : Prop := wholeShapesUptoRow.holds Try.pinned (OpenSpec.upto wholeShapesSpec)

/-- 'orrerylaw02.WholeOrders', WHERE WHAT IT READS IS OF BULK AT MOST 1048576: true; the input reads as it did. -/
def wholeOrdersUptoRow : OpenClaim := { program := "ytkcagkcphobmfaa", sum := "5322108fe85a87de93e7a0d15c81483513dcd8fea7414e41527bc699a525822d", func := "orrery/orrerylaw02.WholeOrders", spec := "wholeOrders", apart := false, narrowed := true }
def WholeOrdersUptoSaid : Prop := wholeOrdersUptoRow.holds Try.pinned (OpenSpec.upto wholeOrdersSpec)

/-- 'orrerylaw02.WholeLaws', WHERE WHAT IT READS IS OF BULK AT MOST 1048576: true; the input reads as it did. -/
def wholeLawsUptoRow : OpenClaim := { program := "ytkcagkcphobmfaa", sum := "5322108fe85a87de93e7a0d15c81483513dcd8fea7414e41527bc699a525822d", func := "orrery/orrerylaw02.WholeLaws", spec := "wholeLaws", apart := false, narrowed := true }
def WholeLawsUptoSaid : Prop := wholeLawsUptoRow.holds Try.pinned (OpenSpec.upto wholeLawsSpec)

end Rows
end Go.Proofs.Ytkcagkcphobmfaa
