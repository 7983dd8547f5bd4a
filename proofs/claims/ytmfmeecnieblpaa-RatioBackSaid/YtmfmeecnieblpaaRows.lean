/-
  No cell of these rows narrows 'for every input' (looked for: loops, veiled, ifaces, maps, wideKeys, modest, calm, conditions, laid).
  DERIVED. THE GIVEN ROWS OF THIS SEAT. 10 by the template 'for every input the law returns true; each argument reads behind the call as it read before'; 0 by the template 'total and deterministic' (their statements: YtmfmeecnieblpaaTotals.lean).
  GIVEN WITH THE SEED: the statements are not yours to turn. If you find one false, say at which input.
  Laid BY PROGRAM, IN A SANDBOX (cutbox-rows.mjs): the forced cells as the released guide's own fill.sh prints them over the translation 5cd9b64ed82def94… (all of the seat's roots in one cut). By AI agents, Wed Nov 11 2026. No macro, syntax, notation, axiom, sorry.
-/
import Derived.Test.YtmfmeecnieblpaaChecked
import GoSem.Claim
import GoSem.ClaimJoined
import GoSem.ClaimMapViews
import Derived.JoinedTies
import Derived.KernelRfl
namespace Go.Proofs.Ytmfmeecnieblpaa
/- THE CELL 'sum', in the pinned program and in every row, IS THE sha256 OF THE DUMP (.gsa) THAT YtmfmeecnieblpaaProg.lean LOADS. Nothing in Lean hashes anything: it is a label: what it is worth is what the hold of that sum in a sandbox is worth. -/
noncomputable def Try.pinned : Pinned := { name := "ytmfmeecnieblpaa", sum := "5cd9b64ed82def946a0688aeaa4af79742c7acd00060c1c0d3313df18c7936be", checked := Try.checked }
namespace Rows
def none {H : Type} : Left H := { results := [], args := [] }

/-- 'orrerylaw04.RatioMakes': WHATEVER THE INPUT: true; the input reads as it did. -/
def ratioMakesSpec : ChangeSpec := { name := "ratioMakes", fn := fun _ => fun
  | [d1, d2, d3, d4] => { results := [.lit (.bool true)], args := [d1, d2, d3, d4] }
  | _ => none }
def ratioMakesRow : OpenClaim := { program := "ytmfmeecnieblpaa", sum := "5cd9b64ed82def946a0688aeaa4af79742c7acd00060c1c0d3313df18c7936be", func := "orrery/orrerylaw04.RatioMakes", spec := "ratioMakes", apart := false }
def RatioMakesSaid : Prop := ratioMakesRow.holds Try.pinned (OpenSpec.ofChange ratioMakesSpec)

/-- ITS FALSE NEIGHBOUR: 'it returns false'. Refute it at one input. -/
def ratioMakesWrong : ChangeSpec := { name := "ratioMakes", fn := fun _ => fun
  | [d1, d2, d3, d4] => { results := [.lit (.bool false)], args := [d1, d2, d3, d4] }
  | _ => none }
def RatioMakesWrongFalsely : Prop := ratioMakesRow.holds Try.pinned (OpenSpec.ofChange ratioMakesWrong)

/-- 'orrerylaw04.RatioParses': WHATEVER THE INPUT: true; the input reads as it did. -/
def ratioParsesSpec : ChangeSpec := { name := "ratioParses", fn := fun _ => fun
  | [d] => { results := [.lit (.bool true)], args := [d] }
  | _ => none }
def ratioParsesRow : OpenClaim := { program := "ytmfmeecnieblpaa", sum := "5cd9b64ed82def946a0688aeaa4af79742c7acd00060c1c0d3313df18c7936be", func := "orrery/orrerylaw04.RatioParses", spec := "ratioParses", apart := false }
def RatioParsesSaid : Prop := ratioParsesRow.holds Try.pinned (OpenSpec.ofChange ratioParsesSpec)

/-- ITS FALSE NEIGHBOUR: 'it returns false'. Refute it at one input. -/
def ratioParsesWrong : ChangeSpec := { name := "ratioParses", fn := fun _ => fun
  | [d] => { results := [.lit (.bool false)], args := [d] }
  | _ => none }
def RatioParsesWrongFalsely : Prop := ratioParsesRow.holds Try.pinned (OpenSpec.ofChange ratioParsesWrong)

/-- 'orrerylaw04.RatioAlls': WHATEVER THE INPUT: true; the input reads as it did. -/
def ratioAllsSpec : ChangeSpec := { name := "ratioAlls", fn := fun _ => fun
  | [d1, d2] => { results := [.lit (.bool true)], args := [d1, d2] }
  | _ => none }
def ratioAllsRow : OpenClaim := { program := "ytmfmeecnieblpaa", sum := "5cd9b64ed82def946a0688aeaa4af79742c7acd00060c1c0d3313df18c7936be", func := "orrery/orrerylaw04.RatioAlls", spec := "ratioAlls", apart := false }
def RatioAllsSaid : Prop := ratioAllsRow.holds Try.pinned (OpenSpec.ofChange ratioAllsSpec)

/-- ITS FALSE NEIGHBOUR: 'it returns false'. Refute it at one input. -/
def ratioAllsWrong : ChangeSpec := { name := "ratioAlls", fn := fun _ => fun
  | [d1, d2] => { results := [.lit (.bool false)], args := [d1, d2] }
  | _ => none }
def RatioAllsWrongFalsely : Prop := ratioAllsRow.holds Try.pinned (OpenSpec.ofChange ratioAllsWrong)

/-- 'orrerylaw04.RatioShapes': WHATEVER THE INPUT: true; the input reads as it did. -/
def ratioShapesSpec : ChangeSpec := { name := "ratioShapes", fn := fun _ => fun
  | [d1, d2, d3] => { results := [.lit (.bool true)], args := [d1, d2, d3] }
  | _ => none }
def ratioShapesRow : OpenClaim := { program := "ytmfmeecnieblpaa", sum := "5cd9b64ed82def946a0688aeaa4af79742c7acd00060c1c0d3313df18c7936be", func := "orrery/orrerylaw04.RatioShapes", spec := "ratioShapes", apart := false }
def RatioShapesSaid : Prop := ratioShapesRow.holds Try.pinned (OpenSpec.ofChange ratioShapesSpec)

/-- ITS FALSE NEIGHBOUR: 'it returns false'. Refute it at one input. -/
def ratioShapesWrong : ChangeSpec := { name := "ratioShapes", fn := fun _ => fun
  | [d1, d2, d3] => { results := [.lit (.bool false)], args := [d1, d2, d3] }
  | _ => none }
def RatioShapesWrongFalsely : Prop := ratioShapesRow.holds Try.pinned (OpenSpec.ofChange ratioShapesWrong)

/-- 'orrerylaw04.RatioLaws': WHATEVER THE INPUT: true; the input reads as it did. -/
def ratioLawsSpec : ChangeSpec := { name := "ratioLaws", fn := fun _ => fun
  | [d1, d2, d3] => { results := [.lit (.bool true)], args := [d1, d2, d3] }
  | _ => none }
def ratioLawsRow : OpenClaim := { program := "ytmfmeecnieblpaa", sum := "5cd9b64ed82def946a0688aeaa4af79742c7acd00060c1c0d3313df18c7936be", func := "orrery/orrerylaw04.RatioLaws", spec := "ratioLaws", apart := false }
def RatioLawsSaid : Prop := ratioLawsRow.holds Try.pinned (OpenSpec.ofChange ratioLawsSpec)

/-- ITS FALSE NEIGHBOUR: 'it returns false'. Refute it at one input. -/
def ratioLawsWrong : ChangeSpec := { name := "ratioLaws", fn := fun _ => fun
  | [d1, d2, d3] => { results := [.lit (.bool false)], args := [d1, d2, d3] }
  | _ => none }
def RatioLawsWrongFalsely : Prop := ratioLawsRow.holds Try.pinned (OpenSpec.ofChange ratioLawsWrong)

/-- 'orrerylaw04.RatioOrders': WHATEVER THE INPUT: true; the input reads as it did. -/
def ratioOrdersSpec : ChangeSpec := { name := "ratioOrders", fn := fun _ => fun
  | [d1, d2, d3] => { results := [.lit (.bool true)], args := [d1, d2, d3] }
  | _ => none }
def ratioOrdersRow : OpenClaim := { program := "ytmfmeecnieblpaa", sum := "5cd9b64ed82def946a0688aeaa4af79742c7acd00060c1c0d3313df18c7936be", func := "orrery/orrerylaw04.RatioOrders", spec := "ratioOrders", apart := false }
def RatioOrdersSaid : Prop := ratioOrdersRow.holds Try.pinned (OpenSpec.ofChange ratioOrdersSpec)

/-- ITS FALSE NEIGHBOUR: 'it returns false'. Refute it at one input. -/
def ratioOrdersWrong : ChangeSpec := { name := "ratioOrders", fn := fun _ => fun
  | [d1, d2, d3] => { results := [.lit (.bool false)], args := [d1, d2, d3] }
  | _ => none }
def RatioOrdersWrongFalsely : Prop := ratioOrdersRow.holds Try.pinned (OpenSpec.ofChange ratioOrdersWrong)

/-- 'orrerylaw04.RatioSums': WHATEVER THE INPUT: true; the input reads as it did. -/
def ratioSumsSpec : ChangeSpec := { name := "ratioSums", fn := fun _ => fun
  | [d1, d2] => { results := [.lit (.bool true)], args := [d1, d2] }
  | _ => none }
def ratioSumsRow : OpenClaim := { program := "ytmfmeecnieblpaa", sum := "5cd9b64ed82def946a0688aeaa4af79742c7acd00060c1c0d3313df18c7936be", func := "orrery/orrerylaw04.RatioSums", spec := "ratioSums", apart := false }
def RatioSumsSaid : Prop := ratioSumsRow.holds Try.pinned (OpenSpec.ofChange ratioSumsSpec)

/-- ITS FALSE NEIGHBOUR: 'it returns false'. Refute it at one input. -/
def ratioSumsWrong : ChangeSpec := { name := "ratioSums", fn := fun _ => fun
  | [d1, d2] => { results := [.lit (.bool false)], args := [d1, d2] }
  | _ => none }
def RatioSumsWrongFalsely : Prop := ratioSumsRow.holds Try.pinned (OpenSpec.ofChange ratioSumsWrong)

/-- 'orrerylaw04.RatioBack': WHATEVER THE INPUT: true; the input reads as it did. -/
def ratioBackSpec : ChangeSpec := { name := "ratioBack", fn := fun _ => fun
  | [d1, d2] => { results := [.lit (.bool true)], args := [d1, d2] }
  | _ => none }
def ratioBackRow : OpenClaim := { program := "ytmfmeecnieblpaa", sum := "5cd9b64ed82def946a0688aeaa4af79742c7acd00060c1c0d3313df18c7936be", func := "orrery/orrerylaw04.RatioBack", spec := "ratioBack", apart := false }
def RatioBackSaid : Prop := ratioBackRow.holds Try.pinned (OpenSpec.ofChange ratioBackSpec)

/-- ITS FALSE NEIGHBOUR: 'it returns false'. Refute it at one input. -/
def ratioBackWrong : ChangeSpec := { name := "ratioBack", fn := fun _ => fun
  | [d1, d2] => { results := [.lit (.bool false)], args := [d1, d2] }
  | _ => none }
def RatioBackWrongFalsely : Prop := ratioBackRow.holds Try.pinned (OpenSpec.ofChange ratioBackWrong)

/-- 'orrerylaw12.CurveBack': WHATEVER THE INPUT: true; the input reads as it did. -/
def curveBackSpec : ChangeSpec := { name := "curveBack", fn := fun _ => fun
  | [d1, d2, d3, d4, d5] => { results := [.lit (.bool true)], args := [d1, d2, d3, d4, d5] }
  | _ => none }
def curveBackRow : OpenClaim := { program := "ytmfmeecnieblpaa", sum := "5cd9b64ed82def946a0688aeaa4af79742c7acd00060c1c0d3313df18c7936be", func := "orrery/orrerylaw12.CurveBack", spec := "curveBack", unfollowed := true, recurses := true, apart := false }
def CurveBackSaid : Prop := curveBackRow.holds Try.pinned (OpenSpec.ofChange curveBackSpec)

/-- ITS FALSE NEIGHBOUR: 'it returns false'. Refute it at one input. -/
def curveBackWrong : ChangeSpec := { name := "curveBack", fn := fun _ => fun
  | [d1, d2, d3, d4, d5] => { results := [.lit (.bool false)], args := [d1, d2, d3, d4, d5] }
  | _ => none }
def CurveBackWrongFalsely : Prop := curveBackRow.holds Try.pinned (OpenSpec.ofChange curveBackWrong)

/-- 'orrerylaw23.TableSizes': WHATEVER THE INPUT: true; the input reads as it did. -/
def tableSizesSpec : ChangeSpec := { name := "tableSizes", fn := fun _ => fun
  | [d1, d2, d3] => { results := [.lit (.bool true)], args := [d1, d2, d3] }
  | _ => none }
def tableSizesRow : OpenClaim := { program := "ytmfmeecnieblpaa", sum := "5cd9b64ed82def946a0688aeaa4af79742c7acd00060c1c0d3313df18c7936be", func := "orrery/orrerylaw23.TableSizes", spec := "tableSizes", apart := false }
def TableSizesSaid : Prop := tableSizesRow.holds Try.pinned (OpenSpec.ofChange tableSizesSpec)

/-- ITS FALSE NEIGHBOUR: 'it returns false'. Refute it at one input. -/
def tableSizesWrong : ChangeSpec := { name := "tableSizes", fn := fun _ => fun
  | [d1, d2, d3] => { results := [.lit (.bool false)], args := [d1, d2, d3] }
  | _ => none }
def TableSizesWrongFalsely : Prop := tableSizesRow.holds Try.pinned (OpenSpec.ofChange tableSizesWrong)

/- THE SECOND FORM. 'bulk': how many values and letters a reading holds, each counted each time it is reached (what is shared counts as often as it is met; a slice's spare places count too). A statement '..UptoSaid' is the law's where the arguments, and the package variables that the reading takes, are together of bulk at most 1048576: NARROWER than '..Said'. Prove '..Said' where nothing that the law and all that it calls make is longer than what came in: it says more and counts as full. Else prove '..UptoSaid'. A law counts once. -/
mutual
def uptoBulk {H : Type} : DataW H → Nat
  | .lit (.string bytes) => bytes.length + 1
  | .lit _ => 1
  | .nil => 1
  | .ptr d => uptoBulk d + 1
  | .slice elems spare => uptoBulkAll elems + uptoBulkAll spare + 1
  | .agg parts => uptoBulkAll parts + 1
  | .iface _ d => uptoBulk d + 1
  | .map entries => uptoBulkEntries entries + 1
  | .held _ => 1
def uptoBulkAll {H : Type} : List (DataW H) → Nat
  | [] => 0
  | d :: r => uptoBulk d + uptoBulkAll r
def uptoBulkEntries {H : Type} : List (Lit × DataW H) → Nat
  | [] => 0
  | x :: r => uptoBulkEntry x + uptoBulkEntries r
def uptoBulkEntry {H : Type} : Lit × DataW H → Nat
  | (.string bytes, d) => bytes.length + uptoBulk d + 1
  | (_, d) => uptoBulk d + 1
 end
def uptoSmall : (H : Type) → List (DataW H) → Bool := fun _ ds => decide (uptoBulkAll ds ≤ 1048576)
def OpenSpec.upto (s : _root_.Go.ChangeSpec) : _root_.Go.OpenSpec := { _root_.Go.OpenSpec.ofChange s with cond := some uptoSmall }

/-- 'orrerylaw04.RatioMakes', WHERE WHAT IT READS IS OF BULK AT MOST 1048576: true; the input reads as it did. -/
def ratioMakesUptoRow : OpenClaim := { program := "ytmfmeecnieblpaa", sum := "5cd9b64ed82def946a0688aeaa4af79742c7acd00060c1c0d3313df18c7936be", func := "orrery/orrerylaw04.RatioMakes", spec := "ratioMakes", apart := false, narrowed := true }
def RatioMakesUptoSaid : Prop := ratioMakesUptoRow.holds Try.pinned (OpenSpec.upto ratioMakesSpec)

/-- 'orrerylaw04.RatioParses', WHERE WHAT IT READS IS OF BULK AT MOST 1048576: true; the input reads as it did. -/
def ratioParsesUptoRow : OpenClaim := { program := "ytmfmeecnieblpaa", sum := "5cd9b64ed82def946a0688aeaa4af79742c7acd00060c1c0d3313df18c7936be", func := "orrery/orrerylaw04.RatioParses", spec := "ratioParses", apart := false, narrowed := true }
def RatioParsesUptoSaid : Prop := ratioParsesUptoRow.holds Try.pinned (OpenSpec.upto ratioParsesSpec)

/-- 'orrerylaw04.RatioAlls', WHERE WHAT IT READS IS OF BULK AT MOST 1048576: true; the input reads as it did. -/
def ratioAllsUptoRow : OpenClaim := { program := "ytmfmeecnieblpaa", sum := "5cd9b64ed82def946a0688aeaa4af79742c7acd00060c1c0d3313df18c7936be", func := "orrery/orrerylaw04.RatioAlls", spec := "ratioAlls", apart := false, narrowed := true }
def RatioAllsUptoSaid : Prop := ratioAllsUptoRow.holds Try.pinned (OpenSpec.upto ratioAllsSpec)

/-- 'orrerylaw04.RatioShapes', WHERE WHAT IT READS IS OF BULK AT MOST 1048576: true; the input reads as it did. -/
def ratioShapesUptoRow : OpenClaim := { program := "ytmfmeecnieblpaa", sum := "5cd9b64ed82def946a0688aeaa4af79742c7acd00060c1c0d3313df18c7936be", func := "orrery/orrerylaw04.RatioShapes", spec := "ratioShapes", apart := false, narrowed := true }
def RatioShapesUptoSaid : Prop := ratioShapesUptoRow.holds Try.pinned (OpenSpec.upto ratioShapesSpec)

/-- 'orrerylaw04.RatioLaws', WHERE WHAT IT READS IS OF BULK AT MOST 1048576: true; the input reads as it did. -/
def ratioLawsUptoRow : OpenClaim := { program := "ytmfmeecnieblpaa", sum := "5cd9b64ed82def946a0688aeaa4af79742c7acd00060c1c0d3313df18c7936be", func := "orrery/orrerylaw04.RatioLaws", spec := "ratioLaws", apart := false, narrowed := true }
def RatioLawsUptoSaid : Prop := ratioLawsUptoRow.holds Try.pinned (OpenSpec.upto ratioLawsSpec)

/-- 'orrerylaw04.RatioOrders', WHERE WHAT IT READS IS OF BULK AT MOST 1048576: true; the input reads as it did. -/
def ratioOrdersUptoRow : OpenClaim := { program := "ytmfmeecnieblpaa", sum := "5cd9b64ed82def946a0688aeaa4af79742c7acd00060c1c0d3313df18c7936be", func := "orrery/orrerylaw04.RatioOrders", spec := "ratioOrders", apart := false, narrowed := true }
def RatioOrdersUptoSaid : Prop := ratioOrdersUptoRow.holds Try.pinned (OpenSpec.upto ratioOrdersSpec)

/-- 'orrerylaw04.RatioSums', WHERE WHAT IT READS IS OF BULK AT MOST 1048576: true; the input reads as it did. -/
def ratioSumsUptoRow : OpenClaim := { program := "ytmfmeecnieblpaa", sum := "5cd9b64ed82def946a0688aeaa4af79742c7acd00060c1c0d3313df18c7936be", func := "orrery/orrerylaw04.RatioSums", spec := "ratioSums", apart := false, narrowed := true }
def RatioSumsUptoSaid : Prop := ratioSumsUptoRow.holds Try.pinned (OpenSpec.upto ratioSumsSpec)

/-- 'orrerylaw04.RatioBack', WHERE WHAT IT READS IS OF BULK AT MOST 1048576: true; the input reads as it did. -/
def ratioBackUptoRow : OpenClaim := { program := "ytmfmeecnieblpaa", sum := "5cd9b64ed82def946a0688aeaa4af79742c7acd00060c1c0d3313df18c7936be", func := "orrery/orrerylaw04.RatioBack", spec := "ratioBack", apart := false, narrowed := true }
def RatioBackUptoSaid : Prop := ratioBackUptoRow.holds Try.pinned (OpenSpec.upto ratioBackSpec)

/-- 'orrerylaw12.CurveBack', WHERE WHAT IT READS IS OF BULK AT MOST 1048576: true; the input reads as it did. -/
def curveBackUptoRow : OpenClaim := { program := "ytmfmeecnieblpaa", sum := "5cd9b64ed82def946a0688aeaa4af79742c7acd00060c1c0d3313df18c7936be", func := "orrery/orrerylaw12.CurveBack", spec := "curveBack", unfollowed := true, recurses := true, apart := false, narrowed := true }
def CurveBackUptoSaid : Prop := curveBackUptoRow.holds Try.pinned (OpenSpec.upto curveBackSpec)

/-- 'orrerylaw23.TableSizes', WHERE WHAT IT READS IS OF BULK AT MOST 1048576: true; the input reads as it did. -/
def tableSizesUptoRow : OpenClaim := { program := "ytmfmeecnieblpaa", sum := "5cd9b64ed82def946a0688aeaa4af79742c7acd00060c1c0d3313df18c7936be", func := "orrery/orrerylaw23.TableSizes", spec := "tableSizes", apart := false, narrowed := true }
def TableSizesUptoSaid : Prop := tableSizesUptoRow.holds Try.pinned (OpenSpec.upto tableSizesSpec)

end Rows
end Go.Proofs.Ytmfmeecnieblpaa
