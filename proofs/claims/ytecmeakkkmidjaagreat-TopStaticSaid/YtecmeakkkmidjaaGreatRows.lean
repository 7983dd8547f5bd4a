/-
  No cell of these rows narrows 'for every input' (looked for: loops, veiled, ifaces, maps, wideKeys, modest, calm, conditions, laid).
  DERIVED. THE GIVEN ROWS OF THIS SEAT. 5 by the template 'for every input the law returns true; each argument reads behind the call as it read before'; 0 by the template 'total and deterministic' (their statements: YtecmeakkkmidjaaGreatTotals.lean).
  GIVEN WITH THE SEED: the statements are not yours to turn. If you find one false, say at which input.
  Laid BY PROGRAM, IN A SANDBOX (cutbox-rows.mjs): the forced cells as the released guide's own fill.sh prints them over the translation d9429550bb6c354d… (all of the seat's roots in one cut). By AI agents, Wed Nov 11 2026. No macro, syntax, notation, axiom, sorry.
-/
import Derived.Test.YtecmeakkkmidjaaGreatChecked
import GoSem.Claim
import GoSem.ClaimJoined
import GoSem.ClaimMapViews
import Derived.JoinedTies
import Derived.KernelRfl
namespace Go.Proofs.YtecmeakkkmidjaaGreat
/- THE CELL 'sum', in the pinned program and in every row, IS THE sha256 OF THE DUMP (.gsa) THAT YtecmeakkkmidjaaGreatProg.lean LOADS. Nothing in Lean hashes anything: it is a label: what it is worth is what the hold of that sum in a sandbox is worth. -/
noncomputable def Tryz.pinned : Pinned := { name := "ytecmeakkkmidjaagreat", sum := "d9429550bb6c354d7de50e94513f0ca62a192655919848b6b368b72d2af495f3", checked := Tryz.checked }
namespace Rows
def none {H : Type} : Left H := { results := [], args := [] }

/-- 'orrerytop.TopAnswers': WHATEVER THE INPUT: true; the input reads as it did. -/
def topAnswersSpec : ChangeSpec := { name := "topAnswers", fn := fun _ => fun
  | [d1, d2, d3] => { results := [.lit (.bool true)], args := [d1, d2, d3] }
  | _ => none }
def topAnswersRow : OpenClaim := { program := "ytecmeakkkmidjaagreat", sum := "d9429550bb6c354d7de50e94513f0ca62a192655919848b6b368b72d2af495f3", func := "orrery/orrerytop.TopAnswers", spec := "topAnswers", unfollowed := true, recurses := true, plainKeys := false, apart := false }
def TopAnswersSaid : Prop := topAnswersRow.holds Tryz.pinned (OpenSpec.ofChange topAnswersSpec)

/-- ITS FALSE NEIGHBOUR: 'it returns false'. Refute it at one input. -/
def topAnswersWrong : ChangeSpec := { name := "topAnswers", fn := fun _ => fun
  | [d1, d2, d3] => { results := [.lit (.bool false)], args := [d1, d2, d3] }
  | _ => none }
def TopAnswersWrongFalsely : Prop := topAnswersRow.holds Tryz.pinned (OpenSpec.ofChange topAnswersWrong)

/-- 'orrerytop.TopRoots': WHATEVER THE INPUT: true; the input reads as it did. -/
def topRootsSpec : ChangeSpec := { name := "topRoots", fn := fun _ => fun
  | [d1, d2, d3, d4] => { results := [.lit (.bool true)], args := [d1, d2, d3, d4] }
  | _ => none }
def topRootsRow : OpenClaim := { program := "ytecmeakkkmidjaagreat", sum := "d9429550bb6c354d7de50e94513f0ca62a192655919848b6b368b72d2af495f3", func := "orrery/orrerytop.TopRoots", spec := "topRoots", unfollowed := true, recurses := true, plainKeys := false, apart := false }
def TopRootsSaid : Prop := topRootsRow.holds Tryz.pinned (OpenSpec.ofChange topRootsSpec)

/-- ITS FALSE NEIGHBOUR: 'it returns false'. Refute it at one input. -/
def topRootsWrong : ChangeSpec := { name := "topRoots", fn := fun _ => fun
  | [d1, d2, d3, d4] => { results := [.lit (.bool false)], args := [d1, d2, d3, d4] }
  | _ => none }
def TopRootsWrongFalsely : Prop := topRootsRow.holds Tryz.pinned (OpenSpec.ofChange topRootsWrong)

/-- 'orrerytop.TopSlow': WHATEVER THE INPUT: true; the input reads as it did. -/
def topSlowSpec : ChangeSpec := { name := "topSlow", fn := fun _ => fun
  | [d1, d2, d3] => { results := [.lit (.bool true)], args := [d1, d2, d3] }
  | _ => none }
def topSlowRow : OpenClaim := { program := "ytecmeakkkmidjaagreat", sum := "d9429550bb6c354d7de50e94513f0ca62a192655919848b6b368b72d2af495f3", func := "orrery/orrerytop.TopSlow", spec := "topSlow", unfollowed := true, recurses := true, plainKeys := false, apart := false }
def TopSlowSaid : Prop := topSlowRow.holds Tryz.pinned (OpenSpec.ofChange topSlowSpec)

/-- ITS FALSE NEIGHBOUR: 'it returns false'. Refute it at one input. -/
def topSlowWrong : ChangeSpec := { name := "topSlow", fn := fun _ => fun
  | [d1, d2, d3] => { results := [.lit (.bool false)], args := [d1, d2, d3] }
  | _ => none }
def TopSlowWrongFalsely : Prop := topSlowRow.holds Tryz.pinned (OpenSpec.ofChange topSlowWrong)

/-- 'orrerytop.TopNames': WHATEVER THE INPUT: true; the input reads as it did. -/
def topNamesSpec : ChangeSpec := { name := "topNames", fn := fun _ => fun
  | [d1, d2, d3, d4] => { results := [.lit (.bool true)], args := [d1, d2, d3, d4] }
  | _ => none }
def topNamesRow : OpenClaim := { program := "ytecmeakkkmidjaagreat", sum := "d9429550bb6c354d7de50e94513f0ca62a192655919848b6b368b72d2af495f3", func := "orrery/orrerytop.TopNames", spec := "topNames", unfollowed := true, recurses := true, plainKeys := false, apart := false }
def TopNamesSaid : Prop := topNamesRow.holds Tryz.pinned (OpenSpec.ofChange topNamesSpec)

/-- ITS FALSE NEIGHBOUR: 'it returns false'. Refute it at one input. -/
def topNamesWrong : ChangeSpec := { name := "topNames", fn := fun _ => fun
  | [d1, d2, d3, d4] => { results := [.lit (.bool false)], args := [d1, d2, d3, d4] }
  | _ => none }
def TopNamesWrongFalsely : Prop := topNamesRow.holds Tryz.pinned (OpenSpec.ofChange topNamesWrong)

/-- 'orrerytop.TopStatic': WHATEVER THE INPUT: true; the input reads as it did. -/
def topStaticSpec : ChangeSpec := { name := "topStatic", fn := fun _ => fun
  | [d1, d2, d3] => { results := [.lit (.bool true)], args := [d1, d2, d3] }
  | _ => none }
def topStaticRow : OpenClaim := { program := "ytecmeakkkmidjaagreat", sum := "d9429550bb6c354d7de50e94513f0ca62a192655919848b6b368b72d2af495f3", func := "orrery/orrerytop.TopStatic", spec := "topStatic", unfollowed := true, recurses := true, plainKeys := false, apart := false }
def TopStaticSaid : Prop := topStaticRow.holds Tryz.pinned (OpenSpec.ofChange topStaticSpec)

/-- ITS FALSE NEIGHBOUR: 'it returns false'. Refute it at one input. -/
def topStaticWrong : ChangeSpec := { name := "topStatic", fn := fun _ => fun
  | [d1, d2, d3] => { results := [.lit (.bool false)], args := [d1, d2, d3] }
  | _ => none }
def TopStaticWrongFalsely : Prop := topStaticRow.holds Tryz.pinned (OpenSpec.ofChange topStaticWrong)

/- THE SECOND FORM. 'bulk': how many values and letters a reading holds, each counted each time it is reached (what is shared counts as often as it is met; a slice's spare places count too). A statement '..UptoSaid' is the law's where the arguments, and the package variables that the reading takes, are together of bulk at most 1048576: NARROWER than '..Said'. Prove '..Said' where nothing that the law and all that it calls make is longer than what came in: it says more and counts as full. Else prove '..UptoSaid'. A law counts once. -/
mutual
def uptoBulk {H : Type} : DataW H → Nat
  | .lit (.string bytes) => bytes.length + 1
  | .lit _ => 1
  | .nil => 1
  | .ptr d => uptoBulk d + 1
  | .slice elems spare => uptoBulkAll elems + uptoBulkAll spare + 1
  | .agg parts => uptoBulkAll parts + 1
  | .iface _ d => uptoBulk d + 1
  | .map entries => uptoBulkEntries entries + 1
  | .held _ => 1
def uptoBulkAll {H : Type} : List (DataW H) → Nat
  | [] => 0
  | d :: r => uptoBulk d + uptoBulkAll r
def uptoBulkEntries {H : Type} : List (Lit × DataW H) → Nat
  | [] => 0
  | x :: r => uptoBulkEntry x + uptoBulkEntries r
def uptoBulkEntry {H : Type} : Lit × DataW H → Nat
  | (.string bytes, d) => bytes.length + uptoBulk d + 1
  | (_, d) => uptoBulk d + 1
 end
def uptoSmall : (H : Type) → List (DataW H) → Bool := fun _ ds => decide (uptoBulkAll ds ≤ 1048576)
def OpenSpec.upto (s : _root_.Go.ChangeSpec) : _root_.Go.OpenSpec := { _root_.Go.OpenSpec.ofChange s with cond := some uptoSmall }

/-- 'orrerytop.TopAnswers', WHERE WHAT IT READS IS OF BULK AT MOST 1048576: true; the input reads as it did. -/
def topAnswersUptoRow : OpenClaim := { program := "ytecmeakkkmidjaagreat", sum := "d9429550bb6c354d7de50e94513f0ca62a192655919848b6b368b72d2af495f3", func := "orrery/orrerytop.TopAnswers", spec := "topAnswers", unfollowed := true, recurses := true, plainKeys := false, apart := false, narrowed := true }
def TopAnswersUptoSaid : Prop := topAnswersUptoRow.holds Tryz.pinned (OpenSpec.upto topAnswersSpec)

/-- 'orrerytop.TopRoots', WHERE WHAT IT READS IS OF BULK AT MOST 1048576: true; the input reads as it did. -/
def topRootsUptoRow : OpenClaim := { program := "ytecmeakkkmidjaagreat", sum := "d9429550bb6c354d7de50e94513f0ca62a192655919848b6b368b72d2af495f3", func := "orrery/orrerytop.TopRoots", spec := "topRoots", unfollowed := true, recurses := true, plainKeys := false, apart := false, narrowed := true }
def TopRootsUptoSaid : Prop := topRootsUptoRow.holds Tryz.pinned (OpenSpec.upto topRootsSpec)

/-- 'orrerytop.TopSlow', WHERE WHAT IT READS IS OF BULK AT MOST 1048576: true; the input reads as it did. -/
def topSlowUptoRow : OpenClaim := { program := "ytecmeakkkmidjaagreat", sum := "d9429550bb6c354d7de50e94513f0ca62a192655919848b6b368b72d2af495f3", func := "orrery/orrerytop.TopSlow", spec := "topSlow", unfollowed := true, recurses := true, plainKeys := false, apart := false, narrowed := true }
def TopSlowUptoSaid : Prop := topSlowUptoRow.holds Tryz.pinned (OpenSpec.upto topSlowSpec)

/-- 'orrerytop.TopNames', WHERE WHAT IT READS IS OF BULK AT MOST 1048576: true; the input reads as it did. -/
def topNamesUptoRow : OpenClaim := { program := "ytecmeakkkmidjaagreat", sum := "d9429550bb6c354d7de50e94513f0ca62a192655919848b6b368b72d2af495f3", func := "orrery/orrerytop.TopNames", spec := "topNames", unfollowed := true, recurses := true, plainKeys := false, apart := false, narrowed := true }
def TopNamesUptoSaid : Prop := topNamesUptoRow.holds Tryz.pinned (OpenSpec.upto topNamesSpec)

/-- 'orrerytop.TopStatic', WHERE WHAT IT READS IS OF BULK AT MOST 1048576: true; the input reads as it did. -/
def topStaticUptoRow : OpenClaim := { program := "ytecmeakkkmidjaagreat", sum := "d9429550bb6c354d7de50e94513f0ca62a192655919848b6b368b72d2af495f3", func := "orrery/orrerytop.TopStatic", spec := "topStatic", unfollowed := true, recurses := true, plainKeys := false, apart := false, narrowed := true }
def TopStaticUptoSaid : Prop := topStaticUptoRow.holds Tryz.pinned (OpenSpec.upto topStaticSpec)

end Rows
end Go.Proofs.YtecmeakkkmidjaaGreat
