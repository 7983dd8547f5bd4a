/-
  No cell of these rows narrows 'for every input' (looked for: loops, veiled, ifaces, maps, wideKeys, modest, calm, conditions, laid).
  DERIVED. THE GIVEN ROWS OF THIS SEAT. 10 by the template 'for every input the law returns true; each argument reads behind the call as it read before'; 0 by the template 'total and deterministic' (their statements: YtaecondhdfknfaaTotals.lean).
  GIVEN WITH THE SEED: the statements are not yours to turn. If you find one false, say at which input.
  Laid BY PROGRAM, IN A SANDBOX (cutbox-rows.mjs): the forced cells as the released guide's own fill.sh prints them over the translation 3d3239a93fab44b8… (all of the seat's roots in one cut). By AI agents, Wed Nov 11 2026. No macro, syntax, notation, axiom, sorry.
-/
import Derived.Test.YtaecondhdfknfaaChecked
import GoSem.Claim
import GoSem.ClaimJoined
import GoSem.ClaimMapViews
import Derived.JoinedTies
import Derived.KernelRfl
namespace Go.Proofs.Ytaecondhdfknfaa
/- THE CELL 'sum', in the pinned program and in every row, IS THE sha256 OF THE DUMP (.gsa) THAT YtaecondhdfknfaaProg.lean LOADS. Nothing in Lean hashes anything: it is a label: what it is worth is what the hold of that sum in a sandbox is worth. -/
noncomputable def Try.pinned : Pinned := { name := "ytaecondhdfknfaa", sum := "3d3239a93fab44b8140afa2b6b627851827107bf68c18099173b737ba07b0b72", checked := Try.checked }
namespace Rows
def none {H : Type} : Left H := { results := [], args := [] }

/-- 'orrerylaw01.LimbDivs': WHATEVER THE INPUT: true; the input reads as it did. -/
def limbDivsSpec : ChangeSpec := { name := "limbDivs", fn := fun _ => fun
  | [d1, d2] => { results := [.lit (.bool true)], args := [d1, d2] }
  | _ => none }
def limbDivsRow : OpenClaim := { program := "ytaecondhdfknfaa", sum := "3d3239a93fab44b8140afa2b6b627851827107bf68c18099173b737ba07b0b72", func := "orrery/orrerylaw01.LimbDivs", spec := "limbDivs", apart := false }
def LimbDivsSaid : Prop := limbDivsRow.holds Try.pinned (OpenSpec.ofChange limbDivsSpec)

/-- ITS FALSE NEIGHBOUR: 'it returns false'. Refute it at one input. -/
def limbDivsWrong : ChangeSpec := { name := "limbDivs", fn := fun _ => fun
  | [d1, d2] => { results := [.lit (.bool false)], args := [d1, d2] }
  | _ => none }
def LimbDivsWrongFalsely : Prop := limbDivsRow.holds Try.pinned (OpenSpec.ofChange limbDivsWrong)

/-- 'orrerylaw01.LimbHard': WHATEVER THE INPUT: true; the input reads as it did. -/
def limbHardSpec : ChangeSpec := { name := "limbHard", fn := fun _ => fun
  | [d1, d2, d3, d4, d5] => { results := [.lit (.bool true)], args := [d1, d2, d3, d4, d5] }
  | _ => none }
def limbHardRow : OpenClaim := { program := "ytaecondhdfknfaa", sum := "3d3239a93fab44b8140afa2b6b627851827107bf68c18099173b737ba07b0b72", func := "orrery/orrerylaw01.LimbHard", spec := "limbHard", apart := false }
def LimbHardSaid : Prop := limbHardRow.holds Try.pinned (OpenSpec.ofChange limbHardSpec)

/-- ITS FALSE NEIGHBOUR: 'it returns false'. Refute it at one input. -/
def limbHardWrong : ChangeSpec := { name := "limbHard", fn := fun _ => fun
  | [d1, d2, d3, d4, d5] => { results := [.lit (.bool false)], args := [d1, d2, d3, d4, d5] }
  | _ => none }
def LimbHardWrongFalsely : Prop := limbHardRow.holds Try.pinned (OpenSpec.ofChange limbHardWrong)

/-- 'orrerylaw01.LimbShifts': WHATEVER THE INPUT: true; the input reads as it did. -/
def limbShiftsSpec : ChangeSpec := { name := "limbShifts", fn := fun _ => fun
  | [d1, d2] => { results := [.lit (.bool true)], args := [d1, d2] }
  | _ => none }
def limbShiftsRow : OpenClaim := { program := "ytaecondhdfknfaa", sum := "3d3239a93fab44b8140afa2b6b627851827107bf68c18099173b737ba07b0b72", func := "orrery/orrerylaw01.LimbShifts", spec := "limbShifts", apart := false }
def LimbShiftsSaid : Prop := limbShiftsRow.holds Try.pinned (OpenSpec.ofChange limbShiftsSpec)

/-- ITS FALSE NEIGHBOUR: 'it returns false'. Refute it at one input. -/
def limbShiftsWrong : ChangeSpec := { name := "limbShifts", fn := fun _ => fun
  | [d1, d2] => { results := [.lit (.bool false)], args := [d1, d2] }
  | _ => none }
def LimbShiftsWrongFalsely : Prop := limbShiftsRow.holds Try.pinned (OpenSpec.ofChange limbShiftsWrong)

/-- 'orrerylaw01.LimbMuls': WHATEVER THE INPUT: true; the input reads as it did. -/
def limbMulsSpec : ChangeSpec := { name := "limbMuls", fn := fun _ => fun
  | [d1, d2] => { results := [.lit (.bool true)], args := [d1, d2] }
  | _ => none }
def limbMulsRow : OpenClaim := { program := "ytaecondhdfknfaa", sum := "3d3239a93fab44b8140afa2b6b627851827107bf68c18099173b737ba07b0b72", func := "orrery/orrerylaw01.LimbMuls", spec := "limbMuls", apart := false }
def LimbMulsSaid : Prop := limbMulsRow.holds Try.pinned (OpenSpec.ofChange limbMulsSpec)

/-- ITS FALSE NEIGHBOUR: 'it returns false'. Refute it at one input. -/
def limbMulsWrong : ChangeSpec := { name := "limbMuls", fn := fun _ => fun
  | [d1, d2] => { results := [.lit (.bool false)], args := [d1, d2] }
  | _ => none }
def LimbMulsWrongFalsely : Prop := limbMulsRow.holds Try.pinned (OpenSpec.ofChange limbMulsWrong)

/-- 'orrerylaw01.LimbAdds': WHATEVER THE INPUT: true; the input reads as it did. -/
def limbAddsSpec : ChangeSpec := { name := "limbAdds", fn := fun _ => fun
  | [d1, d2] => { results := [.lit (.bool true)], args := [d1, d2] }
  | _ => none }
def limbAddsRow : OpenClaim := { program := "ytaecondhdfknfaa", sum := "3d3239a93fab44b8140afa2b6b627851827107bf68c18099173b737ba07b0b72", func := "orrery/orrerylaw01.LimbAdds", spec := "limbAdds", apart := false }
def LimbAddsSaid : Prop := limbAddsRow.holds Try.pinned (OpenSpec.ofChange limbAddsSpec)

/-- ITS FALSE NEIGHBOUR: 'it returns false'. Refute it at one input. -/
def limbAddsWrong : ChangeSpec := { name := "limbAdds", fn := fun _ => fun
  | [d1, d2] => { results := [.lit (.bool false)], args := [d1, d2] }
  | _ => none }
def LimbAddsWrongFalsely : Prop := limbAddsRow.holds Try.pinned (OpenSpec.ofChange limbAddsWrong)

/-- 'orrerylaw01.LimbSums': WHATEVER THE INPUT: true; the input reads as it did. -/
def limbSumsSpec : ChangeSpec := { name := "limbSums", fn := fun _ => fun
  | [d] => { results := [.lit (.bool true)], args := [d] }
  | _ => none }
def limbSumsRow : OpenClaim := { program := "ytaecondhdfknfaa", sum := "3d3239a93fab44b8140afa2b6b627851827107bf68c18099173b737ba07b0b72", func := "orrery/orrerylaw01.LimbSums", spec := "limbSums", apart := false }
def LimbSumsSaid : Prop := limbSumsRow.holds Try.pinned (OpenSpec.ofChange limbSumsSpec)

/-- ITS FALSE NEIGHBOUR: 'it returns false'. Refute it at one input. -/
def limbSumsWrong : ChangeSpec := { name := "limbSums", fn := fun _ => fun
  | [d] => { results := [.lit (.bool false)], args := [d] }
  | _ => none }
def LimbSumsWrongFalsely : Prop := limbSumsRow.holds Try.pinned (OpenSpec.ofChange limbSumsWrong)

/-- 'orrerylaw01.LimbOrders': WHATEVER THE INPUT: true; the input reads as it did. -/
def limbOrdersSpec : ChangeSpec := { name := "limbOrders", fn := fun _ => fun
  | [d1, d2, d3] => { results := [.lit (.bool true)], args := [d1, d2, d3] }
  | _ => none }
def limbOrdersRow : OpenClaim := { program := "ytaecondhdfknfaa", sum := "3d3239a93fab44b8140afa2b6b627851827107bf68c18099173b737ba07b0b72", func := "orrery/orrerylaw01.LimbOrders", spec := "limbOrders", apart := false }
def LimbOrdersSaid : Prop := limbOrdersRow.holds Try.pinned (OpenSpec.ofChange limbOrdersSpec)

/-- ITS FALSE NEIGHBOUR: 'it returns false'. Refute it at one input. -/
def limbOrdersWrong : ChangeSpec := { name := "limbOrders", fn := fun _ => fun
  | [d1, d2, d3] => { results := [.lit (.bool false)], args := [d1, d2, d3] }
  | _ => none }
def LimbOrdersWrongFalsely : Prop := limbOrdersRow.holds Try.pinned (OpenSpec.ofChange limbOrdersWrong)

/-- 'orrerylaw01.LimbBack': WHATEVER THE INPUT: true; the input reads as it did. -/
def limbBackSpec : ChangeSpec := { name := "limbBack", fn := fun _ => fun
  | [d1, d2, d3, d4] => { results := [.lit (.bool true)], args := [d1, d2, d3, d4] }
  | _ => none }
def limbBackRow : OpenClaim := { program := "ytaecondhdfknfaa", sum := "3d3239a93fab44b8140afa2b6b627851827107bf68c18099173b737ba07b0b72", func := "orrery/orrerylaw01.LimbBack", spec := "limbBack", apart := false }
def LimbBackSaid : Prop := limbBackRow.holds Try.pinned (OpenSpec.ofChange limbBackSpec)

/-- ITS FALSE NEIGHBOUR: 'it returns false'. Refute it at one input. -/
def limbBackWrong : ChangeSpec := { name := "limbBack", fn := fun _ => fun
  | [d1, d2, d3, d4] => { results := [.lit (.bool false)], args := [d1, d2, d3, d4] }
  | _ => none }
def LimbBackWrongFalsely : Prop := limbBackRow.holds Try.pinned (OpenSpec.ofChange limbBackWrong)

/-- 'orrerylaw01.LimbNoughts': WHATEVER THE INPUT: true; the input reads as it did. -/
def limbNoughtsSpec : ChangeSpec := { name := "limbNoughts", fn := fun _ => fun
  | [d1, d2, d3] => { results := [.lit (.bool true)], args := [d1, d2, d3] }
  | _ => none }
def limbNoughtsRow : OpenClaim := { program := "ytaecondhdfknfaa", sum := "3d3239a93fab44b8140afa2b6b627851827107bf68c18099173b737ba07b0b72", func := "orrery/orrerylaw01.LimbNoughts", spec := "limbNoughts", apart := false }
def LimbNoughtsSaid : Prop := limbNoughtsRow.holds Try.pinned (OpenSpec.ofChange limbNoughtsSpec)

/-- ITS FALSE NEIGHBOUR: 'it returns false'. Refute it at one input. -/
def limbNoughtsWrong : ChangeSpec := { name := "limbNoughts", fn := fun _ => fun
  | [d1, d2, d3] => { results := [.lit (.bool false)], args := [d1, d2, d3] }
  | _ => none }
def LimbNoughtsWrongFalsely : Prop := limbNoughtsRow.holds Try.pinned (OpenSpec.ofChange limbNoughtsWrong)

/-- 'orrerylaw01.LimbMore': WHATEVER THE INPUT: true; the input reads as it did. -/
def limbMoreSpec : ChangeSpec := { name := "limbMore", fn := fun _ => fun
  | [d1, d2, d3, d4] => { results := [.lit (.bool true)], args := [d1, d2, d3, d4] }
  | _ => none }
def limbMoreRow : OpenClaim := { program := "ytaecondhdfknfaa", sum := "3d3239a93fab44b8140afa2b6b627851827107bf68c18099173b737ba07b0b72", func := "orrery/orrerylaw01.LimbMore", spec := "limbMore", apart := false }
def LimbMoreSaid : Prop := limbMoreRow.holds Try.pinned (OpenSpec.ofChange limbMoreSpec)

/-- ITS FALSE NEIGHBOUR: 'it returns false'. Refute it at one input. -/
def limbMoreWrong : ChangeSpec := { name := "limbMore", fn := fun _ => fun
  | [d1, d2, d3, d4] => { results := [.lit (.bool false)], args := [d1, d2, d3, d4] }
  | _ => none }
def LimbMoreWrongFalsely : Prop := limbMoreRow.holds Try.pinned (OpenSpec.ofChange limbMoreWrong)

/- THE SECOND FORM. 'bulk': how many values and letters a reading holds, each counted each time it is reached (what is shared counts as often as it is met; a slice's spare places count too). A statement '..UptoSaid' is the law's where the arguments, and the package variables that the reading takes, are together of bulk at most 1048576: NARROWER than '..Said'. Prove '..Said' where nothing that the law and all that it calls make is longer than what came in: it says more and counts as full. Else prove '..UptoSaid'. A law counts once. -/
mutual
def uptoBulk {H : Type} : DataW H → Nat
  | .lit (.string bytes) => bytes.length + 1
  | .lit _ => 1
  | .nil => 1
  | .ptr d => uptoBulk d + 1
  | .slice elems spare => uptoBulkAll elems + uptoBulkAll spare + 1
  | .agg parts => uptoBulkAll parts + 1
  | .iface _ d => uptoBulk d + 1
  | .map entries => uptoBulkEntries entries + 1
  | .held _ => 1
def uptoBulkAll {H : Type} : List (DataW H) → Nat
  | [] => 0
  | d :: r => uptoBulk d + uptoBulkAll r
def uptoBulkEntries {H : Type} : List (Lit × DataW H) → Nat
  | [] => 0
  | x :: r => uptoBulkEntry x + uptoBulkEntries r
def uptoBulkEntry {H : Type} : Lit × DataW H → Nat
  | (.string bytes, d) => bytes.length + uptoBulk d + 1
  | (_, d) => uptoBulk d + 1
 end
def uptoSmall : (H : Type) → List (DataW H) → Bool := fun _ ds => decide (uptoBulkAll ds ≤ 1048576)
def OpenSpec.upto (s : _root_.Go.ChangeSpec) : _root_.Go.OpenSpec := { _root_.Go.OpenSpec.ofChange s with cond := some uptoSmall }

/-- 'orrerylaw01.LimbDivs', WHERE WHAT IT READS IS OF BULK AT MOST 1048576: true; the input reads as it did. -/
def limbDivsUptoRow : OpenClaim := { program := "ytaecondhdfknfaa", sum := "3d3239a93fab44b8140afa2b6b627851827107bf68c18099173b737ba07b0b72", func := "orrery/orrerylaw01.LimbDivs", spec := "limbDivs", apart := false, narrowed := true }
def LimbDivsUptoSaid : Prop := limbDivsUptoRow.holds Try.pinned (OpenSpec.upto limbDivsSpec)

/-- 'orrerylaw01.LimbHard', WHERE WHAT IT READS IS OF BULK AT MOST 1048576: true; the input reads as it did. -/
def limbHardUptoRow : OpenClaim := { program := "ytaecondhdfknfaa", sum := "3d3239a93fab44b8140afa2b6b627851827107bf68c18099173b737ba07b0b72", func := "orrery/orrerylaw01.LimbHard", spec := "limbHard", apart := false, narrowed := true }
def LimbHardUptoSaid : Prop := limbHardUptoRow.holds Try.pinned (OpenSpec.upto limbHardSpec)

/-- 'orrerylaw01.LimbShifts', WHERE WHAT IT READS IS OF BULK AT MOST 1048576: true; the input reads as it did. -/
def limbShiftsUptoRow : OpenClaim := { program := "ytaecondhdfknfaa", sum := "3d3239a93fab44b8140afa2b6b627851827107bf68c18099173b737ba07b0b72", func := "orrery/orrerylaw01.LimbShifts", spec := "limbShifts", apart := false, narrowed := true }
def LimbShiftsUptoSaid : Prop := limbShiftsUptoRow.holds Try.pinned (OpenSpec.upto limbShiftsSpec)

/-- 'orrerylaw01.LimbMuls', WHERE WHAT IT READS IS OF BULK AT MOST 1048576: true; the input reads as it did. -/
def limbMulsUptoRow : OpenClaim := { program := "ytaecondhdfknfaa", sum := "3d3239a93fab44b8140afa2b6b627851827107bf68c18099173b737ba07b0b72", func := "orrery/orrerylaw01.LimbMuls", spec := "limbMuls", apart := false, narrowed := true }
def LimbMulsUptoSaid : Prop := limbMulsUptoRow.holds Try.pinned (OpenSpec.upto limbMulsSpec)

/-- 'orrerylaw01.LimbAdds', WHERE WHAT IT READS IS OF BULK AT MOST 1048576: true; the input reads as it did. -/
def limbAddsUptoRow : OpenClaim := { program := "ytaecondhdfknfaa", sum := "3d3239a93fab44b8140afa2b6b627851827107bf68c18099173b737ba07b0b72", func := "orrery/orrerylaw01.LimbAdds", spec := "limbAdds", apart := false, narrowed := true }
def LimbAddsUptoSaid : Prop := limbAddsUptoRow.holds Try.pinned (OpenSpec.upto limbAddsSpec)

/-- 'orrerylaw01.LimbSums', WHERE WHAT IT READS IS OF BULK AT MOST 1048576: true; the input reads as it did. -/
def limbSumsUptoRow : OpenClaim := { program := "ytaecondhdfknfaa", sum := "3d3239a93fab44b8140afa2b6b627851827107bf68c18099173b737ba07b0b72", func := "orrery/orrerylaw01.LimbSums", spec := "limbSums", apart := false, narrowed := true }
def LimbSumsUptoSaid : Prop := limbSumsUptoRow.holds Try.pinned (OpenSpec.upto limbSumsSpec)

/-- 'orrerylaw01.LimbOrders', WHERE WHAT IT READS IS OF BULK AT MOST 1048576: true; the input reads as it did. -/
def limbOrdersUptoRow : OpenClaim := { program := "ytaecondhdfknfaa", sum := "3d3239a93fab44b8140afa2b6b627851827107bf68c18099173b737ba07b0b72", func := "orrery/orrerylaw01.LimbOrders", spec := "limbOrders", apart := false, narrowed := true }
def LimbOrdersUptoSaid : Prop := limbOrdersUptoRow.holds Try.pinned (OpenSpec.upto limbOrdersSpec)

/-- 'orrerylaw01.LimbBack', WHERE WHAT IT READS IS OF BULK AT MOST 1048576: true; the input reads as it did. -/
def limbBackUptoRow : OpenClaim := { program := "ytaecondhdfknfaa", sum := "3d3239a93fab44b8140afa2b6b627851827107bf68c18099173b737ba07b0b72", func := "orrery/orrerylaw01.LimbBack", spec := "limbBack", apart := false, narrowed := true }
def LimbBackUptoSaid : Prop := limbBackUptoRow.holds Try.pinned (OpenSpec.upto limbBackSpec)

/-- 'orrerylaw01.LimbNoughts', WHERE WHAT IT READS IS OF BULK AT MOST 1048576: true; the input reads as it did. -/
def limbNoughtsUptoRow : OpenClaim := { program := "ytaecondhdfknfaa", sum := "3d3239a93fab44b8140afa2b6b627851827107bf68c18099173b737ba07b0b72", func := "orrery/orrerylaw01.LimbNoughts", spec := "limbNoughts", apart := false, narrowed := true }
def LimbNoughtsUptoSaid : Prop := limbNoughtsUptoRow.holds Try.pinned (OpenSpec.upto limbNoughtsSpec)

/-- 'orrerylaw01.LimbMore', WHERE WHAT IT READS IS OF BULK AT MOST 1048576: true; the input reads as it did. -/
def limbMoreUptoRow : OpenClaim := { program := "ytaecondhdfknfaa", sum := "3d3239a93fab44b8140afa2b6b627851827107bf68c18099173b737ba07b0b72", func := "orrery/orrerylaw01.LimbMore", spec := "limbMore", apart := false, narrowed := true }
def LimbMoreUptoSaid : Prop := limbMoreUptoRow.holds Try.pinned (OpenSpec.upto limbMoreSpec)

end Rows
end Go.Proofs.Ytaecondhdfknfaa
