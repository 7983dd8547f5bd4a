/-
  No cell of these rows narrows 'for every input' (looked for: loops, veiled, ifaces, maps, wideKeys, modest, calm, conditions, laid).
  DERIVED. THE GIVEN ROWS OF THIS SEAT. 12 by the template 'for every input the law returns true; each argument reads behind the call as it read before'; 0 by the template 'total and deterministic' (their statements: YthccmbncplakjaaGreatTotals.lean).
  GIVEN WITH THE SEED: the statements are not yours to turn. If you find one false, say at which input.
  Laid BY PROGRAM, IN A SANDBOX (cutbox-rows.mjs): the forced cells as the released guide's own fill.sh prints them over the translation 5a8514f9ed64fae8… (all of the seat's roots in one cut). By AI agents, Wed Nov 11 2026. No macro, syntax, notation, axiom, sorry.
-/
import Derived.Test.YthccmbncplakjaaGreatChecked
import GoSem.Claim
import GoSem.ClaimJoined
import GoSem.ClaimMapViews
import Derived.JoinedTies
import Derived.KernelRfl
namespace Go.Proofs.YthccmbncplakjaaGreat
/- THE CELL 'sum', in the pinned program and in every row, IS THE sha256 OF THE DUMP (.gsa) THAT YthccmbncplakjaaGreatProg.lean LOADS. Nothing in Lean hashes anything: it is a label: what it is worth is what the hold of that sum in a sandbox is worth. -/
noncomputable def Tryz.pinned : Pinned := { name := "ythccmbncplakjaagreat", sum := "5a8514f9ed64fae87fc6030bfc544e4e59707d04d1230fc07573fa7b9ba3e270", checked := Tryz.checked }
namespace Rows
def none {H : Type} : Left H := { results := [], args := [] }

/-- 'orrerylaw10.AlgSigns': WHATEVER THE INPUT: true; the input reads as it did. -/
def algSignsSpec : ChangeSpec := { name := "algSigns", fn := fun _ => fun
  | [d1, d2, d3, d4] => { results := [.lit (.bool true)], args := [d1, d2, d3, d4] }
  | _ => none }
def algSignsRow : OpenClaim := { program := "ythccmbncplakjaagreat", sum := "5a8514f9ed64fae87fc6030bfc544e4e59707d04d1230fc07573fa7b9ba3e270", func := "orrery/orrerylaw10.AlgSigns", spec := "algSigns", unfollowed := true, recurses := true, apart := false }
def AlgSignsSaid : Prop := algSignsRow.holds Tryz.pinned (OpenSpec.ofChange algSignsSpec)

/-- ITS FALSE NEIGHBOUR: 'it returns false'. Refute it at one input. -/
def algSignsWrong : ChangeSpec := { name := "algSigns", fn := fun _ => fun
  | [d1, d2, d3, d4] => { results := [.lit (.bool false)], args := [d1, d2, d3, d4] }
  | _ => none }
def AlgSignsWrongFalsely : Prop := algSignsRow.holds Tryz.pinned (OpenSpec.ofChange algSignsWrong)

/-- 'orrerylaw10.AlgProducts': WHATEVER THE INPUT: true; the input reads as it did. -/
def algProductsSpec : ChangeSpec := { name := "algProducts", fn := fun _ => fun
  | [d1, d2, d3, d4] => { results := [.lit (.bool true)], args := [d1, d2, d3, d4] }
  | _ => none }
def algProductsRow : OpenClaim := { program := "ythccmbncplakjaagreat", sum := "5a8514f9ed64fae87fc6030bfc544e4e59707d04d1230fc07573fa7b9ba3e270", func := "orrery/orrerylaw10.AlgProducts", spec := "algProducts", unfollowed := true, recurses := true, apart := false }
def AlgProductsSaid : Prop := algProductsRow.holds Tryz.pinned (OpenSpec.ofChange algProductsSpec)

/-- ITS FALSE NEIGHBOUR: 'it returns false'. Refute it at one input. -/
def algProductsWrong : ChangeSpec := { name := "algProducts", fn := fun _ => fun
  | [d1, d2, d3, d4] => { results := [.lit (.bool false)], args := [d1, d2, d3, d4] }
  | _ => none }
def AlgProductsWrongFalsely : Prop := algProductsRow.holds Tryz.pinned (OpenSpec.ofChange algProductsWrong)

/-- 'orrerylaw10.AlgOf': WHATEVER THE INPUT: true; the input reads as it did. -/
def algOfSpec : ChangeSpec := { name := "algOf", fn := fun _ => fun
  | [d] => { results := [.lit (.bool true)], args := [d] }
  | _ => none }
def algOfRow : OpenClaim := { program := "ythccmbncplakjaagreat", sum := "5a8514f9ed64fae87fc6030bfc544e4e59707d04d1230fc07573fa7b9ba3e270", func := "orrery/orrerylaw10.AlgOf", spec := "algOf", unfollowed := true, recurses := true, apart := false }
def AlgOfSaid : Prop := algOfRow.holds Tryz.pinned (OpenSpec.ofChange algOfSpec)

/-- ITS FALSE NEIGHBOUR: 'it returns false'. Refute it at one input. -/
def algOfWrong : ChangeSpec := { name := "algOf", fn := fun _ => fun
  | [d] => { results := [.lit (.bool false)], args := [d] }
  | _ => none }
def AlgOfWrongFalsely : Prop := algOfRow.holds Tryz.pinned (OpenSpec.ofChange algOfWrong)

/-- 'orrerylaw10.AlgRefines': WHATEVER THE INPUT: true; the input reads as it did. -/
def algRefinesSpec : ChangeSpec := { name := "algRefines", fn := fun _ => fun
  | [d1, d2, d3] => { results := [.lit (.bool true)], args := [d1, d2, d3] }
  | _ => none }
def algRefinesRow : OpenClaim := { program := "ythccmbncplakjaagreat", sum := "5a8514f9ed64fae87fc6030bfc544e4e59707d04d1230fc07573fa7b9ba3e270", func := "orrery/orrerylaw10.AlgRefines", spec := "algRefines", unfollowed := true, recurses := true, apart := false }
def AlgRefinesSaid : Prop := algRefinesRow.holds Tryz.pinned (OpenSpec.ofChange algRefinesSpec)

/-- ITS FALSE NEIGHBOUR: 'it returns false'. Refute it at one input. -/
def algRefinesWrong : ChangeSpec := { name := "algRefines", fn := fun _ => fun
  | [d1, d2, d3] => { results := [.lit (.bool false)], args := [d1, d2, d3] }
  | _ => none }
def AlgRefinesWrongFalsely : Prop := algRefinesRow.holds Tryz.pinned (OpenSpec.ofChange algRefinesWrong)

/-- 'orrerylaw10.AlgCmps': WHATEVER THE INPUT: true; the input reads as it did. -/
def algCmpsSpec : ChangeSpec := { name := "algCmps", fn := fun _ => fun
  | [d1, d2, d3, d4, d5, d6] => { results := [.lit (.bool true)], args := [d1, d2, d3, d4, d5, d6] }
  | _ => none }
def algCmpsRow : OpenClaim := { program := "ythccmbncplakjaagreat", sum := "5a8514f9ed64fae87fc6030bfc544e4e59707d04d1230fc07573fa7b9ba3e270", func := "orrery/orrerylaw10.AlgCmps", spec := "algCmps", unfollowed := true, recurses := true, apart := false }
def AlgCmpsSaid : Prop := algCmpsRow.holds Tryz.pinned (OpenSpec.ofChange algCmpsSpec)

/-- ITS FALSE NEIGHBOUR: 'it returns false'. Refute it at one input. -/
def algCmpsWrong : ChangeSpec := { name := "algCmps", fn := fun _ => fun
  | [d1, d2, d3, d4, d5, d6] => { results := [.lit (.bool false)], args := [d1, d2, d3, d4, d5, d6] }
  | _ => none }
def AlgCmpsWrongFalsely : Prop := algCmpsRow.holds Tryz.pinned (OpenSpec.ofChange algCmpsWrong)

/-- 'orrerylaw10.AlgLines': WHATEVER THE INPUT: true; the input reads as it did. -/
def algLinesSpec : ChangeSpec := { name := "algLines", fn := fun _ => fun
  | [d1, d2, d3, d4] => { results := [.lit (.bool true)], args := [d1, d2, d3, d4] }
  | _ => none }
def algLinesRow : OpenClaim := { program := "ythccmbncplakjaagreat", sum := "5a8514f9ed64fae87fc6030bfc544e4e59707d04d1230fc07573fa7b9ba3e270", func := "orrery/orrerylaw10.AlgLines", spec := "algLines", unfollowed := true, recurses := true, apart := false }
def AlgLinesSaid : Prop := algLinesRow.holds Tryz.pinned (OpenSpec.ofChange algLinesSpec)

/-- ITS FALSE NEIGHBOUR: 'it returns false'. Refute it at one input. -/
def algLinesWrong : ChangeSpec := { name := "algLines", fn := fun _ => fun
  | [d1, d2, d3, d4] => { results := [.lit (.bool false)], args := [d1, d2, d3, d4] }
  | _ => none }
def AlgLinesWrongFalsely : Prop := algLinesRow.holds Tryz.pinned (OpenSpec.ofChange algLinesWrong)

/-- 'orrerylaw10.AlgRationals': WHATEVER THE INPUT: true; the input reads as it did. -/
def algRationalsSpec : ChangeSpec := { name := "algRationals", fn := fun _ => fun
  | [d1, d2, d3, d4, d5] => { results := [.lit (.bool true)], args := [d1, d2, d3, d4, d5] }
  | _ => none }
def algRationalsRow : OpenClaim := { program := "ythccmbncplakjaagreat", sum := "5a8514f9ed64fae87fc6030bfc544e4e59707d04d1230fc07573fa7b9ba3e270", func := "orrery/orrerylaw10.AlgRationals", spec := "algRationals", unfollowed := true, recurses := true, apart := false }
def AlgRationalsSaid : Prop := algRationalsRow.holds Tryz.pinned (OpenSpec.ofChange algRationalsSpec)

/-- ITS FALSE NEIGHBOUR: 'it returns false'. Refute it at one input. -/
def algRationalsWrong : ChangeSpec := { name := "algRationals", fn := fun _ => fun
  | [d1, d2, d3, d4, d5] => { results := [.lit (.bool false)], args := [d1, d2, d3, d4, d5] }
  | _ => none }
def AlgRationalsWrongFalsely : Prop := algRationalsRow.holds Tryz.pinned (OpenSpec.ofChange algRationalsWrong)

/-- 'orrerylaw10.AlgOrders': WHATEVER THE INPUT: true; the input reads as it did. -/
def algOrdersSpec : ChangeSpec := { name := "algOrders", fn := fun _ => fun
  | [d1, d2, d3, d4, d5, d6] => { results := [.lit (.bool true)], args := [d1, d2, d3, d4, d5, d6] }
  | _ => none }
def algOrdersRow : OpenClaim := { program := "ythccmbncplakjaagreat", sum := "5a8514f9ed64fae87fc6030bfc544e4e59707d04d1230fc07573fa7b9ba3e270", func := "orrery/orrerylaw10.AlgOrders", spec := "algOrders", unfollowed := true, recurses := true, apart := false }
def AlgOrdersSaid : Prop := algOrdersRow.holds Tryz.pinned (OpenSpec.ofChange algOrdersSpec)

/-- ITS FALSE NEIGHBOUR: 'it returns false'. Refute it at one input. -/
def algOrdersWrong : ChangeSpec := { name := "algOrders", fn := fun _ => fun
  | [d1, d2, d3, d4, d5, d6] => { results := [.lit (.bool false)], args := [d1, d2, d3, d4, d5, d6] }
  | _ => none }
def AlgOrdersWrongFalsely : Prop := algOrdersRow.holds Tryz.pinned (OpenSpec.ofChange algOrdersWrong)

/-- 'orrerylaw10.AlgBetweens': WHATEVER THE INPUT: true; the input reads as it did. -/
def algBetweensSpec : ChangeSpec := { name := "algBetweens", fn := fun _ => fun
  | [d1, d2, d3, d4] => { results := [.lit (.bool true)], args := [d1, d2, d3, d4] }
  | _ => none }
def algBetweensRow : OpenClaim := { program := "ythccmbncplakjaagreat", sum := "5a8514f9ed64fae87fc6030bfc544e4e59707d04d1230fc07573fa7b9ba3e270", func := "orrery/orrerylaw10.AlgBetweens", spec := "algBetweens", unfollowed := true, recurses := true, apart := false }
def AlgBetweensSaid : Prop := algBetweensRow.holds Tryz.pinned (OpenSpec.ofChange algBetweensSpec)

/-- ITS FALSE NEIGHBOUR: 'it returns false'. Refute it at one input. -/
def algBetweensWrong : ChangeSpec := { name := "algBetweens", fn := fun _ => fun
  | [d1, d2, d3, d4] => { results := [.lit (.bool false)], args := [d1, d2, d3, d4] }
  | _ => none }
def AlgBetweensWrongFalsely : Prop := algBetweensRow.holds Tryz.pinned (OpenSpec.ofChange algBetweensWrong)

/-- 'orrerylaw10.AlgSames': WHATEVER THE INPUT: true; the input reads as it did. -/
def algSamesSpec : ChangeSpec := { name := "algSames", fn := fun _ => fun
  | [d1, d2, d3, d4] => { results := [.lit (.bool true)], args := [d1, d2, d3, d4] }
  | _ => none }
def algSamesRow : OpenClaim := { program := "ythccmbncplakjaagreat", sum := "5a8514f9ed64fae87fc6030bfc544e4e59707d04d1230fc07573fa7b9ba3e270", func := "orrery/orrerylaw10.AlgSames", spec := "algSames", unfollowed := true, recurses := true, apart := false }
def AlgSamesSaid : Prop := algSamesRow.holds Tryz.pinned (OpenSpec.ofChange algSamesSpec)

/-- ITS FALSE NEIGHBOUR: 'it returns false'. Refute it at one input. -/
def algSamesWrong : ChangeSpec := { name := "algSames", fn := fun _ => fun
  | [d1, d2, d3, d4] => { results := [.lit (.bool false)], args := [d1, d2, d3, d4] }
  | _ => none }
def AlgSamesWrongFalsely : Prop := algSamesRow.holds Tryz.pinned (OpenSpec.ofChange algSamesWrong)

/-- 'orrerylaw10.AlgSorts': WHATEVER THE INPUT: true; the input reads as it did. -/
def algSortsSpec : ChangeSpec := { name := "algSorts", fn := fun _ => fun
  | [d1, d2] => { results := [.lit (.bool true)], args := [d1, d2] }
  | _ => none }
def algSortsRow : OpenClaim := { program := "ythccmbncplakjaagreat", sum := "5a8514f9ed64fae87fc6030bfc544e4e59707d04d1230fc07573fa7b9ba3e270", func := "orrery/orrerylaw10.AlgSorts", spec := "algSorts", unfollowed := true, recurses := true, apart := false }
def AlgSortsSaid : Prop := algSortsRow.holds Tryz.pinned (OpenSpec.ofChange algSortsSpec)

/-- ITS FALSE NEIGHBOUR: 'it returns false'. Refute it at one input. -/
def algSortsWrong : ChangeSpec := { name := "algSorts", fn := fun _ => fun
  | [d1, d2] => { results := [.lit (.bool false)], args := [d1, d2] }
  | _ => none }
def AlgSortsWrongFalsely : Prop := algSortsRow.holds Tryz.pinned (OpenSpec.ofChange algSortsWrong)

/-- 'orrerylaw10.AlgHalves': WHATEVER THE INPUT: true; the input reads as it did. -/
def algHalvesSpec : ChangeSpec := { name := "algHalves", fn := fun _ => fun
  | [d1, d2, d3] => { results := [.lit (.bool true)], args := [d1, d2, d3] }
  | _ => none }
def algHalvesRow : OpenClaim := { program := "ythccmbncplakjaagreat", sum := "5a8514f9ed64fae87fc6030bfc544e4e59707d04d1230fc07573fa7b9ba3e270", func := "orrery/orrerylaw10.AlgHalves", spec := "algHalves", unfollowed := true, recurses := true, apart := false }
def AlgHalvesSaid : Prop := algHalvesRow.holds Tryz.pinned (OpenSpec.ofChange algHalvesSpec)

/-- ITS FALSE NEIGHBOUR: 'it returns false'. Refute it at one input. -/
def algHalvesWrong : ChangeSpec := { name := "algHalves", fn := fun _ => fun
  | [d1, d2, d3] => { results := [.lit (.bool false)], args := [d1, d2, d3] }
  | _ => none }
def AlgHalvesWrongFalsely : Prop := algHalvesRow.holds Tryz.pinned (OpenSpec.ofChange algHalvesWrong)

/- THE SECOND FORM. 'bulk': how many values and letters a reading holds, each counted each time it is reached (what is shared counts as often as it is met; a slice's spare places count too). A statement '..UptoSaid' is the law's where the arguments, and the package variables that the reading takes, are together of bulk at most 1048576: NARROWER than '..Said'. Prove '..Said' where nothing that the law and all that it calls make is longer than what came in: it says more and counts as full. Else prove '..UptoSaid'. A law counts once. -/
mutual
def uptoBulk {H : Type} : DataW H → Nat
  | .lit (.string bytes) => bytes.length + 1
  | .lit _ => 1
  | .nil => 1
  | .ptr d => uptoBulk d + 1
  | .slice elems spare => uptoBulkAll elems + uptoBulkAll spare + 1
  | .agg parts => uptoBulkAll parts + 1
  | .iface _ d => uptoBulk d + 1
  | .map entries => uptoBulkEntries entries + 1
  | .held _ => 1
def uptoBulkAll {H : Type} : List (DataW H) → Nat
  | [] => 0
  | d :: r => uptoBulk d + uptoBulkAll r
def uptoBulkEntries {H : Type} : List (Lit × DataW H) → Nat
  | [] => 0
  | x :: r => uptoBulkEntry x + uptoBulkEntries r
def uptoBulkEntry {H : Type} : Lit × DataW H → Nat
  | (.string bytes, d) => bytes.length + uptoBulk d + 1
  | (_, d) => uptoBulk d + 1
 end
def uptoSmall : (H : Type) → List (DataW H) → Bool := fun _ ds => decide (uptoBulkAll ds ≤ 1048576)
def OpenSpec.upto (s : _root_.Go.ChangeSpec) : _root_.Go.OpenSpec := { _root_.Go.OpenSpec.ofChange s with cond := some uptoSmall }

/-- 'orrerylaw10.AlgSigns', WHERE WHAT IT READS IS OF BULK AT MOST 1048576: true; the input reads as it did. -/
def algSignsUptoRow : OpenClaim := { program := "ythccmbncplakjaagreat", sum := "5a8514f9ed64fae87fc6030bfc544e4e59707d04d1230fc07573fa7b9ba3e270", func := "orrery/orrerylaw10.AlgSigns", spec := "algSigns", unfollowed := true, recurses := true, apart := false, narrowed := true }
def AlgSignsUptoSaid : Prop := algSignsUptoRow.holds Tryz.pinned (OpenSpec.upto algSignsSpec)

/-- 'orrerylaw10.AlgProducts', WHERE WHAT IT READS IS OF BULK AT MOST 1048576: true; the input reads as it did. -/
def algProductsUptoRow : OpenClaim := { program := "ythccmbncplakjaagreat", sum := "5a8514f9ed64fae87fc6030bfc544e4e59707d04d1230fc07573fa7b9ba3e270", func := "orrery/orrerylaw10.AlgProducts", spec := "algProducts", unfollowed := true, recurses := true, apart := false, narrowed := true }
def AlgProductsUptoSaid : Prop := algProductsUptoRow.holds Tryz.pinned (OpenSpec.upto algProductsSpec)

/-- 'orrerylaw10.AlgOf', WHERE WHAT IT READS IS OF BULK AT MOST 1048576: true; the input reads as it did. -/
def algOfUptoRow : OpenClaim := { program := "ythccmbncplakjaagreat", sum := "5a8514f9ed64fae87fc6030bfc544e4e59707d04d1230fc07573fa7b9ba3e270", func := "orrery/orrerylaw10.AlgOf", spec := "algOf", unfollowed := true, recurses := true, apart := false, narrowed := true }
def AlgOfUptoSaid : Prop := algOfUptoRow.holds Tryz.pinned (OpenSpec.upto algOfSpec)

/-- 'orrerylaw10.AlgRefines', WHERE WHAT IT READS IS OF BULK AT MOST 1048576: true; the input reads as it did. -/
def algRefinesUptoRow : OpenClaim := { program := "ythccmbncplakjaagreat", sum := "5a8514f9ed64fae87fc6030bfc544e4e59707d04d1230fc07573fa7b9ba3e270", func := "orrery/orrerylaw10.AlgRefines", spec := "algRefines", unfollowed := true, recurses := true, apart := false, narrowed := true }
def AlgRefinesUptoSaid : Prop := algRefinesUptoRow.holds Tryz.pinned (OpenSpec.upto algRefinesSpec)

/-- 'orrerylaw10.AlgCmps', WHERE WHAT IT READS IS OF BULK AT MOST 1048576: true; the input reads as it did. -/
def algCmpsUptoRow : OpenClaim := { program := "ythccmbncplakjaagreat", sum := "5a8514f9ed64fae87fc6030bfc544e4e59707d04d1230fc07573fa7b9ba3e270", func := "orrery/orrerylaw10.AlgCmps", spec := "algCmps", unfollowed := true, recurses := true, apart := false, narrowed := true }
def AlgCmpsUptoSaid : Prop := algCmpsUptoRow.holds Tryz.pinned (OpenSpec.upto algCmpsSpec)

/-- 'orrerylaw10.AlgLines', WHERE WHAT IT READS IS OF BULK AT MOST 1048576: true; the input reads as it did. -/
def algLinesUptoRow : OpenClaim := { program := "ythccmbncplakjaagreat", sum := "5a8514f9ed64fae87fc6030bfc544e4e59707d04d1230fc07573fa7b9ba3e270", func := "orrery/orrerylaw10.AlgLines", spec := "algLines", unfollowed := true, recurses := true, apart := false, narrowed := true }
def AlgLinesUptoSaid : Prop := algLinesUptoRow.holds Tryz.pinned (OpenSpec.upto algLinesSpec)

/-- 'orrerylaw10.AlgRationals', WHERE WHAT IT READS IS OF BULK AT MOST 1048576: true; the input reads as it did. -/
def algRationalsUptoRow : OpenClaim := { program := "ythccmbncplakjaagreat", sum := "5a8514f9ed64fae87fc6030bfc544e4e59707d04d1230fc07573fa7b9ba3e270", func := "orrery/orrerylaw10.AlgRationals", spec := "algRationals", unfollowed := true, recurses := true, apart := false, narrowed := true }
def AlgRationalsUptoSaid : Prop := algRationalsUptoRow.holds Tryz.pinned (OpenSpec.upto algRationalsSpec)

/-- 'orrerylaw10.AlgOrders', WHERE WHAT IT READS IS OF BULK AT MOST 1048576: true; the input reads as it did. -/
def algOrdersUptoRow : OpenClaim := { program := "ythccmbncplakjaagreat", sum := "5a8514f9ed64fae87fc6030bfc544e4e59707d04d1230fc07573fa7b9ba3e270", func := "orrery/orrerylaw10.AlgOrders", spec := "algOrders", unfollowed := true, recurses := true, apart := false, narrowed := true }
def AlgOrdersUptoSaid : Prop := algOrdersUptoRow.holds Tryz.pinned (OpenSpec.upto algOrdersSpec)

/-- 'orrerylaw10.AlgBetweens', WHERE WHAT IT READS IS OF BULK AT MOST 1048576: true; the input reads as it did. -/
def algBetweensUptoRow : OpenClaim := { program := "ythccmbncplakjaagreat", sum := "5a8514f9ed64fae87fc6030bfc544e4e59707d04d1230fc07573fa7b9ba3e270", func := "orrery/orrerylaw10.AlgBetweens", spec := "algBetweens", unfollowed := true, recurses := true, apart := false, narrowed := true }
def AlgBetweensUptoSaid : Prop := algBetweensUptoRow.holds Tryz.pinned (OpenSpec.upto algBetweensSpec)

/-- 'orrerylaw10.AlgSames', WHERE WHAT IT READS IS OF BULK AT MOST 1048576: true; the input reads as it did. -/
def algSamesUptoRow : OpenClaim := { program := "ythccmbncplakjaagreat", sum := "5a8514f9ed64fae87fc6030bfc544e4e59707d04d1230fc07573fa7b9ba3e270", func := "orrery/orrerylaw10.AlgSames", spec := "algSames", unfollowed := true, recurses := true, apart := false, narrowed := true }
def AlgSamesUptoSaid : Prop := algSamesUptoRow.holds Tryz.pinned (OpenSpec.upto algSamesSpec)

/-- 'orrerylaw10.AlgSorts', WHERE WHAT IT READS IS OF BULK AT MOST 1048576: true; the input reads as it did. -/
def algSortsUptoRow : OpenClaim := { program := "ythccmbncplakjaagreat", sum := "5a8514f9ed64fae87fc6030bfc544e4e59707d04d1230fc07573fa7b9ba3e270", func := "orrery/orrerylaw10.AlgSorts", spec := "algSorts", unfollowed := true, recurses := true, apart := false, narrowed := true }
def AlgSortsUptoSaid : Prop := algSortsUptoRow.holds Tryz.pinned (OpenSpec.upto algSortsSpec)

/-- 'orrerylaw10.AlgHalves', WHERE WHAT IT READS IS OF BULK AT MOST 1048576: true; the input reads as it did. -/
def algHalvesUptoRow : OpenClaim := { program := "ythccmbncplakjaagreat", sum := "5a8514f9ed64fae87fc6030bfc544e4e59707d04d1230fc07573fa7b9ba3e270", func := "orrery/orrerylaw10.AlgHalves", spec := "algHalves", unfollowed := true, recurses := true, apart := false, narrowed := true }
def AlgHalvesUptoSaid : Prop := algHalvesUptoRow.holds Tryz.pinned (OpenSpec.upto algHalvesSpec)

end Rows
end Go.Proofs.YthccmbncplakjaaGreat
