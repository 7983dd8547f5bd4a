/-
  No cell of these rows narrows 'for every input' (looked for: loops, veiled, ifaces, maps, wideKeys, modest, calm, conditions, laid).
  DERIVED. THE GIVEN ROWS OF THIS SEAT. 3 by the template 'for every input the law returns true; each argument reads behind the call as it read before'; 0 by the template 'total and deterministic' (their statements: YtapmpcgekdplfaaGreatTotals.lean).
  GIVEN WITH THE SEED: the statements are not yours to turn. If you find one false, say at which input.
  Laid BY PROGRAM, IN A SANDBOX (cutbox-rows.mjs): the forced cells as the released guide's own fill.sh prints them over the translation d361d603b3a33389… (all of the seat's roots in one cut). By AI agents, Wed Nov 11 2026. No macro, syntax, notation, axiom, sorry.
-/
import Derived.Test.YtapmpcgekdplfaaGreatChecked
import GoSem.Claim
import GoSem.ClaimJoined
import GoSem.ClaimMapViews
import Derived.JoinedTies
import Derived.KernelRfl
namespace Go.Proofs.YtapmpcgekdplfaaGreat
/- THE CELL 'sum', in the pinned program and in every row, IS THE sha256 OF THE DUMP (.gsa) THAT YtapmpcgekdplfaaGreatProg.lean LOADS. Nothing in Lean hashes anything: it is a label: what it is worth is what the hold of that sum in a sandbox is worth. -/
noncomputable def Tryz.pinned : Pinned := { name := "ytapmpcgekdplfaagreat", sum := "d361d603b3a33389742d469e4e5c85b5e4e998c9bb78bdca06c02c452dbb67fb", checked := Tryz.checked }
namespace Rows
def none {H : Type} : Left H := { results := [], args := [] }

/-- 'orrerylaw16.HeapBatches': WHATEVER THE INPUT: true; the input reads as it did. -/
def heapBatchesSpec : ChangeSpec := { name := "heapBatches", fn := fun _ => fun
  | [d] => { results := [.lit (.bool true)], args := [d] }
  | _ => none }
def heapBatchesRow : OpenClaim := { program := "ytapmpcgekdplfaagreat", sum := "d361d603b3a33389742d469e4e5c85b5e4e998c9bb78bdca06c02c452dbb67fb", func := "orrery/orrerylaw16.HeapBatches", spec := "heapBatches", unfollowed := true, recurses := true, apart := false }
def HeapBatchesSaid : Prop := heapBatchesRow.holds Tryz.pinned (OpenSpec.ofChange heapBatchesSpec)

/-- ITS FALSE NEIGHBOUR: 'it returns false'. Refute it at one input. -/
def heapBatchesWrong : ChangeSpec := { name := "heapBatches", fn := fun _ => fun
  | [d] => { results := [.lit (.bool false)], args := [d] }
  | _ => none }
def HeapBatchesWrongFalsely : Prop := heapBatchesRow.holds Tryz.pinned (OpenSpec.ofChange heapBatchesWrong)

/-- 'orrerylaw16.HeapTimes': WHATEVER THE INPUT: true; the input reads as it did. -/
def heapTimesSpec : ChangeSpec := { name := "heapTimes", fn := fun _ => fun
  | [d1, d2, d3] => { results := [.lit (.bool true)], args := [d1, d2, d3] }
  | _ => none }
def heapTimesRow : OpenClaim := { program := "ytapmpcgekdplfaagreat", sum := "d361d603b3a33389742d469e4e5c85b5e4e998c9bb78bdca06c02c452dbb67fb", func := "orrery/orrerylaw16.HeapTimes", spec := "heapTimes", unfollowed := true, recurses := true, apart := false }
def HeapTimesSaid : Prop := heapTimesRow.holds Tryz.pinned (OpenSpec.ofChange heapTimesSpec)

/-- ITS FALSE NEIGHBOUR: 'it returns false'. Refute it at one input. -/
def heapTimesWrong : ChangeSpec := { name := "heapTimes", fn := fun _ => fun
  | [d1, d2, d3] => { results := [.lit (.bool false)], args := [d1, d2, d3] }
  | _ => none }
def HeapTimesWrongFalsely : Prop := heapTimesRow.holds Tryz.pinned (OpenSpec.ofChange heapTimesWrong)

/-- 'orrerylaw16.HeapPlays': WHATEVER THE INPUT: true; the input reads as it did. -/
def heapPlaysSpec : ChangeSpec := { name := "heapPlays", fn := fun _ => fun
  | [d1, d2] => { results := [.lit (.bool true)], args := [d1, d2] }
  | _ => none }
def heapPlaysRow : OpenClaim := { program := "ytapmpcgekdplfaagreat", sum := "d361d603b3a33389742d469e4e5c85b5e4e998c9bb78bdca06c02c452dbb67fb", func := "orrery/orrerylaw16.HeapPlays", spec := "heapPlays", unfollowed := true, recurses := true, apart := false }
def HeapPlaysSaid : Prop := heapPlaysRow.holds Tryz.pinned (OpenSpec.ofChange heapPlaysSpec)

/-- ITS FALSE NEIGHBOUR: 'it returns false'. Refute it at one input. -/
def heapPlaysWrong : ChangeSpec := { name := "heapPlays", fn := fun _ => fun
  | [d1, d2] => { results := [.lit (.bool false)], args := [d1, d2] }
  | _ => none }
def HeapPlaysWrongFalsely : Prop := heapPlaysRow.holds Tryz.pinned (OpenSpec.ofChange heapPlaysWrong)

/- THE SECOND FORM. 'bulk': how many values and letters a reading holds, each counted each time it is reached (what is shared counts as often as it is met; a slice's spare places count too). A statement '..UptoSaid' is the law's where the arguments, and the package variables that the reading takes, are together of bulk at most 1048576: NARROWER than '..Said'. Prove '..Said' where nothing that the law and all that it calls make is longer than what came in: it says more and counts as full. Else prove '..UptoSaid'. A law counts once. -/
mutual
def uptoBulk {H : Type} : DataW H → Nat
  | .lit (.string bytes) => bytes.length + 1
  | .lit _ => 1
  | .nil => 1
  | .ptr d => uptoBulk d + 1
  | .slice elems spare => uptoBulkAll elems + uptoBulkAll spare + 1
  | .agg parts => uptoBulkAll parts + 1
  | .iface _ d => uptoBulk d + 1
  | .map entries => uptoBulkEntries entries + 1
  | .held _ => 1
def uptoBulkAll {H : Type} : List (DataW H) → Nat
  | [] => 0
  | d :: r => uptoBulk d + uptoBulkAll r
def uptoBulkEntries {H : Type} : List (Lit × DataW H) → Nat
  | [] => 0
  | x :: r => uptoBulkEntry x + uptoBulkEntries r
def uptoBulkEntry {H : Type} : Lit × DataW H → Nat
  | (.string bytes, d) => bytes.length + uptoBulk d + 1
  | (_, d) => uptoBulk d + 1
 end
def uptoSmall : (H : Type) → List (DataW H) → Bool := fun _ ds => decide (uptoBulkAll ds ≤ 1048576)
def OpenSpec.upto (s : _root_.Go.ChangeSpec) : _root_.Go.OpenSpec := { _root_.Go.OpenSpec.ofChange s with cond := some uptoSmall }

/-- 'orrerylaw16.HeapBatches', WHERE WHAT IT READS IS OF BULK AT MOST 1048576: true; the input reads as it did. -/
def heapBatchesUptoRow : OpenClaim := { program := "ytapmpcgekdplfaagreat", sum := "d361d603b3a33389742d469e4e5c85b5e4e998c9bb78bdca06c02c452dbb67fb", func := "orrery/orrerylaw16.HeapBatches", spec := "heapBatches", unfollowed := true, recurses := true, apart := false, narrowed := true }
def HeapBatchesUptoSaid : Prop := heapBatchesUptoRow.holds Tryz.pinned (OpenSpec.upto heapBatchesSpec)

/-- 'orrerylaw16.HeapTimes', WHERE WHAT IT READS IS OF BULK AT MOST 1048576: true; the input reads as it did. -/
def heapTimesUptoRow : OpenClaim := { program := "ytapmpcgekdplfaagreat", sum := "d361d603b3a33389742d469e4e5c85b5e4e998c9bb78bdca06c02c452dbb67fb", func := "orrery/orrerylaw16.HeapTimes", spec := "heapTimes", unfollowed := true, recurses := true, apart := false, narrowed := true }
def HeapTimesUptoSaid : Prop := heapTimesUptoRow.holds Tryz.pinned (OpenSpec.upto heapTimesSpec)

/-- 'orrerylaw16.HeapPlays', WHERE WHAT IT READS IS OF BULK AT MOST 1048576: true; the input reads as it did. -/
def heapPlaysUptoRow : OpenClaim := { program := "ytapmpcgekdplfaagreat", sum := "d361d603b3a33389742d469e4e5c85b5e4e998c9bb78bdca06c02c452dbb67fb", func := "orrery/orrerylaw16.HeapPlays", spec := "heapPlays", unfollowed := true, recurses := true, apart := false, narrowed := true }
def HeapPlaysUptoSaid : Prop := heapPlaysUptoRow.holds Tryz.pinned (OpenSpec.upto heapPlaysSpec)

end Rows
end Go.Proofs.YtapmpcgekdplfaaGreat
