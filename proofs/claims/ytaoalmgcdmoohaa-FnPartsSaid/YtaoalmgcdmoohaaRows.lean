/-
  No cell of these rows narrows 'for every input' (looked for: loops, veiled, ifaces, maps, wideKeys, modest, calm, conditions, laid).
  DERIVED. THE GIVEN ROWS OF THIS SEAT. 12 by the template 'for every input the law returns true; each argument reads behind the call as it read before'; 0 by the template 'total and deterministic' (their statements: YtaoalmgcdmoohaaTotals.lean).
  GIVEN WITH THE SEED: the statements are not yours to turn. If you find one false, say at which input.
  Laid BY PROGRAM, IN A SANDBOX (cutbox-rows.mjs): the forced cells as the released guide's own fill.sh prints them over the translation 26689c830480c366… (all of the seat's roots in one cut). By AI agents, Wed Nov 11 2026. No macro, syntax, notation, axiom, sorry.
-/
import Derived.Test.YtaoalmgcdmoohaaChecked
import GoSem.Claim
import GoSem.ClaimJoined
import GoSem.ClaimMapViews
import Derived.JoinedTies
import Derived.KernelRfl
namespace Go.Proofs.Ytaoalmgcdmoohaa
/- THE CELL 'sum', in the pinned program and in every row, IS THE sha256 OF THE DUMP (.gsa) THAT YtaoalmgcdmoohaaProg.lean LOADS. Nothing in Lean hashes anything: it is a label: what it is worth is what the hold of that sum in a sandbox is worth. -/
noncomputable def Try.pinned : Pinned := { name := "ytaoalmgcdmoohaa", sum := "26689c830480c36663250cca639bccf1a6ca646700d78a9797957cf12d38dae7", checked := Try.checked }
namespace Rows
def none {H : Type} : Left H := { results := [], args := [] }

/-- 'laws.FnExactConstants': WHATEVER THE INPUT: true; the input reads as it did. -/
def fnExactConstantsSpec : ChangeSpec := { name := "fnExactConstants", fn := fun _ => fun
  | [] => { results := [.lit (.bool true)], args := [] }
  | _ => none }
def fnExactConstantsRow : OpenClaim := { program := "ytaoalmgcdmoohaa", sum := "26689c830480c36663250cca639bccf1a6ca646700d78a9797957cf12d38dae7", func := "loop.example/graphways/laws.FnExactConstants", spec := "fnExactConstants", apart := false }
def FnExactConstantsSaid : Prop := fnExactConstantsRow.holds Try.pinned (OpenSpec.ofChange fnExactConstantsSpec)

/-- ITS FALSE NEIGHBOUR: 'it returns false'. Refute it at one input. -/
def fnExactConstantsWrong : ChangeSpec := { name := "fnExactConstants", fn := fun _ => fun
  | [] => { results := [.lit (.bool false)], args := [] }
  | _ => none }
def FnExactConstantsWrongFalsely : Prop := fnExactConstantsRow.holds Try.pinned (OpenSpec.ofChange fnExactConstantsWrong)

/-- 'laws.FnExactWayGraph': WHATEVER THE INPUT: true; the input reads as it did. -/
def fnExactWayGraphSpec : ChangeSpec := { name := "fnExactWayGraph", fn := fun _ => fun
  | [d] => { results := [.lit (.bool true)], args := [d] }
  | _ => none }
def fnExactWayGraphRow : OpenClaim := { program := "ytaoalmgcdmoohaa", sum := "26689c830480c36663250cca639bccf1a6ca646700d78a9797957cf12d38dae7", func := "loop.example/graphways/laws.FnExactWayGraph", spec := "fnExactWayGraph", apart := false }
def FnExactWayGraphSaid : Prop := fnExactWayGraphRow.holds Try.pinned (OpenSpec.ofChange fnExactWayGraphSpec)

/-- ITS FALSE NEIGHBOUR: 'it returns false'. Refute it at one input. -/
def fnExactWayGraphWrong : ChangeSpec := { name := "fnExactWayGraph", fn := fun _ => fun
  | [d] => { results := [.lit (.bool false)], args := [d] }
  | _ => none }
def FnExactWayGraphWrongFalsely : Prop := fnExactWayGraphRow.holds Try.pinned (OpenSpec.ofChange fnExactWayGraphWrong)

/-- 'laws.FnExactWayIn': WHATEVER THE INPUT: true; the input reads as it did. -/
def fnExactWayInSpec : ChangeSpec := { name := "fnExactWayIn", fn := fun _ => fun
  | [d1, d2] => { results := [.lit (.bool true)], args := [d1, d2] }
  | _ => none }
def fnExactWayInRow : OpenClaim := { program := "ytaoalmgcdmoohaa", sum := "26689c830480c36663250cca639bccf1a6ca646700d78a9797957cf12d38dae7", func := "loop.example/graphways/laws.FnExactWayIn", spec := "fnExactWayIn", apart := false }
def FnExactWayInSaid : Prop := fnExactWayInRow.holds Try.pinned (OpenSpec.ofChange fnExactWayInSpec)

/-- ITS FALSE NEIGHBOUR: 'it returns false'. Refute it at one input. -/
def fnExactWayInWrong : ChangeSpec := { name := "fnExactWayIn", fn := fun _ => fun
  | [d1, d2] => { results := [.lit (.bool false)], args := [d1, d2] }
  | _ => none }
def FnExactWayInWrongFalsely : Prop := fnExactWayInRow.holds Try.pinned (OpenSpec.ofChange fnExactWayInWrong)

/-- 'laws.FnExactWayFlip': WHATEVER THE INPUT: true; the input reads as it did. -/
def fnExactWayFlipSpec : ChangeSpec := { name := "fnExactWayFlip", fn := fun _ => fun
  | [d1, d2, d3] => { results := [.lit (.bool true)], args := [d1, d2, d3] }
  | _ => none }
def fnExactWayFlipRow : OpenClaim := { program := "ytaoalmgcdmoohaa", sum := "26689c830480c36663250cca639bccf1a6ca646700d78a9797957cf12d38dae7", func := "loop.example/graphways/laws.FnExactWayFlip", spec := "fnExactWayFlip", apart := false }
def FnExactWayFlipSaid : Prop := fnExactWayFlipRow.holds Try.pinned (OpenSpec.ofChange fnExactWayFlipSpec)

/-- ITS FALSE NEIGHBOUR: 'it returns false'. Refute it at one input. -/
def fnExactWayFlipWrong : ChangeSpec := { name := "fnExactWayFlip", fn := fun _ => fun
  | [d1, d2, d3] => { results := [.lit (.bool false)], args := [d1, d2, d3] }
  | _ => none }
def FnExactWayFlipWrongFalsely : Prop := fnExactWayFlipRow.holds Try.pinned (OpenSpec.ofChange fnExactWayFlipWrong)

/-- 'laws.FnExactWayTurned': WHATEVER THE INPUT: true; the input reads as it did. -/
def fnExactWayTurnedSpec : ChangeSpec := { name := "fnExactWayTurned", fn := fun _ => fun
  | [d1, d2] => { results := [.lit (.bool true)], args := [d1, d2] }
  | _ => none }
def fnExactWayTurnedRow : OpenClaim := { program := "ytaoalmgcdmoohaa", sum := "26689c830480c36663250cca639bccf1a6ca646700d78a9797957cf12d38dae7", func := "loop.example/graphways/laws.FnExactWayTurned", spec := "fnExactWayTurned", apart := false }
def FnExactWayTurnedSaid : Prop := fnExactWayTurnedRow.holds Try.pinned (OpenSpec.ofChange fnExactWayTurnedSpec)

/-- ITS FALSE NEIGHBOUR: 'it returns false'. Refute it at one input. -/
def fnExactWayTurnedWrong : ChangeSpec := { name := "fnExactWayTurned", fn := fun _ => fun
  | [d1, d2] => { results := [.lit (.bool false)], args := [d1, d2] }
  | _ => none }
def FnExactWayTurnedWrongFalsely : Prop := fnExactWayTurnedRow.holds Try.pinned (OpenSpec.ofChange fnExactWayTurnedWrong)

/-- 'laws.FnExactWayReach': WHATEVER THE INPUT: true; the input reads as it did. -/
def fnExactWayReachSpec : ChangeSpec := { name := "fnExactWayReach", fn := fun _ => fun
  | [d1, d2, d3] => { results := [.lit (.bool true)], args := [d1, d2, d3] }
  | _ => none }
def fnExactWayReachRow : OpenClaim := { program := "ytaoalmgcdmoohaa", sum := "26689c830480c36663250cca639bccf1a6ca646700d78a9797957cf12d38dae7", func := "loop.example/graphways/laws.FnExactWayReach", spec := "fnExactWayReach", apart := false }
def FnExactWayReachSaid : Prop := fnExactWayReachRow.holds Try.pinned (OpenSpec.ofChange fnExactWayReachSpec)

/-- ITS FALSE NEIGHBOUR: 'it returns false'. Refute it at one input. -/
def fnExactWayReachWrong : ChangeSpec := { name := "fnExactWayReach", fn := fun _ => fun
  | [d1, d2, d3] => { results := [.lit (.bool false)], args := [d1, d2, d3] }
  | _ => none }
def FnExactWayReachWrongFalsely : Prop := fnExactWayReachRow.holds Try.pinned (OpenSpec.ofChange fnExactWayReachWrong)

/-- 'laws.FnExactWaySinks': WHATEVER THE INPUT: true; the input reads as it did. -/
def fnExactWaySinksSpec : ChangeSpec := { name := "fnExactWaySinks", fn := fun _ => fun
  | [d1, d2] => { results := [.lit (.bool true)], args := [d1, d2] }
  | _ => none }
def fnExactWaySinksRow : OpenClaim := { program := "ytaoalmgcdmoohaa", sum := "26689c830480c36663250cca639bccf1a6ca646700d78a9797957cf12d38dae7", func := "loop.example/graphways/laws.FnExactWaySinks", spec := "fnExactWaySinks", apart := false }
def FnExactWaySinksSaid : Prop := fnExactWaySinksRow.holds Try.pinned (OpenSpec.ofChange fnExactWaySinksSpec)

/-- ITS FALSE NEIGHBOUR: 'it returns false'. Refute it at one input. -/
def fnExactWaySinksWrong : ChangeSpec := { name := "fnExactWaySinks", fn := fun _ => fun
  | [d1, d2] => { results := [.lit (.bool false)], args := [d1, d2] }
  | _ => none }
def FnExactWaySinksWrongFalsely : Prop := fnExactWaySinksRow.holds Try.pinned (OpenSpec.ofChange fnExactWaySinksWrong)

/-- 'laws.FnExactWayParts': WHATEVER THE INPUT: true; the input reads as it did. -/
def fnExactWayPartsSpec : ChangeSpec := { name := "fnExactWayParts", fn := fun _ => fun
  | [d] => { results := [.lit (.bool true)], args := [d] }
  | _ => none }
def fnExactWayPartsRow : OpenClaim := { program := "ytaoalmgcdmoohaa", sum := "26689c830480c36663250cca639bccf1a6ca646700d78a9797957cf12d38dae7", func := "loop.example/graphways/laws.FnExactWayParts", spec := "fnExactWayParts", apart := false }
def FnExactWayPartsSaid : Prop := fnExactWayPartsRow.holds Try.pinned (OpenSpec.ofChange fnExactWayPartsSpec)

/-- ITS FALSE NEIGHBOUR: 'it returns false'. Refute it at one input. -/
def fnExactWayPartsWrong : ChangeSpec := { name := "fnExactWayParts", fn := fun _ => fun
  | [d] => { results := [.lit (.bool false)], args := [d] }
  | _ => none }
def FnExactWayPartsWrongFalsely : Prop := fnExactWayPartsRow.holds Try.pinned (OpenSpec.ofChange fnExactWayPartsWrong)

/-- 'laws.FnExactWaySources': WHATEVER THE INPUT: true; the input reads as it did. -/
def fnExactWaySourcesSpec : ChangeSpec := { name := "fnExactWaySources", fn := fun _ => fun
  | [d1, d2] => { results := [.lit (.bool true)], args := [d1, d2] }
  | _ => none }
def fnExactWaySourcesRow : OpenClaim := { program := "ytaoalmgcdmoohaa", sum := "26689c830480c36663250cca639bccf1a6ca646700d78a9797957cf12d38dae7", func := "loop.example/graphways/laws.FnExactWaySources", spec := "fnExactWaySources", apart := false }
def FnExactWaySourcesSaid : Prop := fnExactWaySourcesRow.holds Try.pinned (OpenSpec.ofChange fnExactWaySourcesSpec)

/-- ITS FALSE NEIGHBOUR: 'it returns false'. Refute it at one input. -/
def fnExactWaySourcesWrong : ChangeSpec := { name := "fnExactWaySources", fn := fun _ => fun
  | [d1, d2] => { results := [.lit (.bool false)], args := [d1, d2] }
  | _ => none }
def FnExactWaySourcesWrongFalsely : Prop := fnExactWaySourcesRow.holds Try.pinned (OpenSpec.ofChange fnExactWaySourcesWrong)

/-- 'laws.FnGraph': WHATEVER THE INPUT: true; the input reads as it did. -/
def fnGraphSpec : ChangeSpec := { name := "fnGraph", fn := fun _ => fun
  | [d] => { results := [.lit (.bool true)], args := [d] }
  | _ => none }
def fnGraphRow : OpenClaim := { program := "ytaoalmgcdmoohaa", sum := "26689c830480c36663250cca639bccf1a6ca646700d78a9797957cf12d38dae7", func := "loop.example/graphways/laws.FnGraph", spec := "fnGraph", apart := false }
def FnGraphSaid : Prop := fnGraphRow.holds Try.pinned (OpenSpec.ofChange fnGraphSpec)

/-- ITS FALSE NEIGHBOUR: 'it returns false'. Refute it at one input. -/
def fnGraphWrong : ChangeSpec := { name := "fnGraph", fn := fun _ => fun
  | [d] => { results := [.lit (.bool false)], args := [d] }
  | _ => none }
def FnGraphWrongFalsely : Prop := fnGraphRow.holds Try.pinned (OpenSpec.ofChange fnGraphWrong)

/-- 'laws.FnTurned': WHATEVER THE INPUT: true; the input reads as it did. -/
def fnTurnedSpec : ChangeSpec := { name := "fnTurned", fn := fun _ => fun
  | [d] => { results := [.lit (.bool true)], args := [d] }
  | _ => none }
def fnTurnedRow : OpenClaim := { program := "ytaoalmgcdmoohaa", sum := "26689c830480c36663250cca639bccf1a6ca646700d78a9797957cf12d38dae7", func := "loop.example/graphways/laws.FnTurned", spec := "fnTurned", apart := false }
def FnTurnedSaid : Prop := fnTurnedRow.holds Try.pinned (OpenSpec.ofChange fnTurnedSpec)

/-- ITS FALSE NEIGHBOUR: 'it returns false'. Refute it at one input. -/
def fnTurnedWrong : ChangeSpec := { name := "fnTurned", fn := fun _ => fun
  | [d] => { results := [.lit (.bool false)], args := [d] }
  | _ => none }
def FnTurnedWrongFalsely : Prop := fnTurnedRow.holds Try.pinned (OpenSpec.ofChange fnTurnedWrong)

/-- 'laws.FnParts': WHATEVER THE INPUT: true; the input reads as it did. -/
def fnPartsSpec : ChangeSpec := { name := "fnParts", fn := fun _ => fun
  | [d] => { results := [.lit (.bool true)], args := [d] }
  | _ => none }
def fnPartsRow : OpenClaim := { program := "ytaoalmgcdmoohaa", sum := "26689c830480c36663250cca639bccf1a6ca646700d78a9797957cf12d38dae7", func := "loop.example/graphways/laws.FnParts", spec := "fnParts", apart := false }
def FnPartsSaid : Prop := fnPartsRow.holds Try.pinned (OpenSpec.ofChange fnPartsSpec)

/-- ITS FALSE NEIGHBOUR: 'it returns false'. Refute it at one input. -/
def fnPartsWrong : ChangeSpec := { name := "fnParts", fn := fun _ => fun
  | [d] => { results := [.lit (.bool false)], args := [d] }
  | _ => none }
def FnPartsWrongFalsely : Prop := fnPartsRow.holds Try.pinned (OpenSpec.ofChange fnPartsWrong)

/- THE SECOND FORM. 'bulk': how many values and letters a reading holds, each counted each time it is reached (what is shared counts as often as it is met; a slice's spare places count too). A statement '..UptoSaid' is the law's where the arguments, and the package variables that the reading takes, are together of bulk at most 1048576: NARROWER than '..Said'. Prove '..Said' where nothing that the law and all that it calls make is longer than what came in: it says more and counts as full. Else prove '..UptoSaid'. A law counts once. -/
mutual
def uptoBulk {H : Type} : DataW H → Nat
  | .lit (.string bytes) => bytes.length + 1
  | .lit _ => 1
  | .nil => 1
  | .ptr d => uptoBulk d + 1
  | .slice elems spare => uptoBulkAll elems + uptoBulkAll spare + 1
  | .agg parts => uptoBulkAll parts + 1
  | .iface _ d => uptoBulk d + 1
  | .map entries => uptoBulkEntries entries + 1
  | .held _ => 1
def uptoBulkAll {H : Type} : List (DataW H) → Nat
  | [] => 0
  | d :: r => uptoBulk d + uptoBulkAll r
def uptoBulkEntries {H : Type} : List (Lit × DataW H) → Nat
  | [] => 0
  | x :: r => uptoBulkEntry x + uptoBulkEntries r
def uptoBulkEntry {H : Type} : Lit × DataW H → Nat
  | (.string bytes, d) => bytes.length + uptoBulk d + 1
  | (_, d) => uptoBulk d + 1
 end
def uptoSmall : (H : Type) → List (DataW H) → Bool := fun _ ds => decide (uptoBulkAll ds ≤ 1048576)
def OpenSpec.upto (s : _root_.Go.ChangeSpec) : _root_.Go.OpenSpec := { _root_.Go.OpenSpec.ofChange s with cond := some uptoSmall }

/-- 'laws.FnExactConstants', WHERE WHAT IT READS IS OF BULK AT MOST 1048576: true; the input reads as it did. -/
def fnExactConstantsUptoRow : OpenClaim := { program := "ytaoalmgcdmoohaa", sum := "26689c830480c36663250cca639bccf1a6ca646700d78a9797957cf12d38dae7", func := "loop.example/graphways/laws.FnExactConstants", spec := "fnExactConstants", apart := false, narrowed := true }
def FnExactConstantsUptoSaid : Prop := fnExactConstantsUptoRow.holds Try.pinned (OpenSpec.upto fnExactConstantsSpec)

/-- 'laws.FnExactWayGraph', WHERE WHAT IT READS IS OF BULK AT MOST 1048576: true; the input reads as it did. -/
def fnExactWayGraphUptoRow : OpenClaim := { program := "ytaoalmgcdmoohaa", sum := "26689c830480c36663250cca639bccf1a6ca646700d78a9797957cf12d38dae7", func := "loop.example/graphways/laws.FnExactWayGraph", spec := "fnExactWayGraph", apart := false, narrowed := true }
def FnExactWayGraphUptoSaid : Prop := fnExactWayGraphUptoRow.holds Try.pinned (OpenSpec.upto fnExactWayGraphSpec)

/-- 'laws.FnExactWayIn', WHERE WHAT IT READS IS OF BULK AT MOST 1048576: true; the input reads as it did. -/
def fnExactWayInUptoRow : OpenClaim := { program := "ytaoalmgcdmoohaa", sum := "26689c830480c36663250cca639bccf1a6ca646700d78a9797957cf12d38dae7", func := "loop.example/graphways/laws.FnExactWayIn", spec := "fnExactWayIn", apart := false, narrowed := true }
def FnExactWayInUptoSaid : Prop := fnExactWayInUptoRow.holds Try.pinned (OpenSpec.upto fnExactWayInSpec)

/-- 'laws.FnExactWayFlip', WHERE WHAT IT READS IS OF BULK AT MOST 1048576: true; the input reads as it did. -/
def fnExactWayFlipUptoRow : OpenClaim := { program := "ytaoalmgcdmoohaa", sum := "26689c830480c36663250cca639bccf1a6ca646700d78a9797957cf12d38dae7", func := "loop.example/graphways/laws.FnExactWayFlip", spec := "fnExactWayFlip", apart := false, narrowed := true }
def FnExactWayFlipUptoSaid : Prop := fnExactWayFlipUptoRow.holds Try.pinned (OpenSpec.upto fnExactWayFlipSpec)

/-- 'laws.FnExactWayTurned', WHERE WHAT IT READS IS OF BULK AT MOST 1048576: true; the input reads as it did. -/
def fnExactWayTurnedUptoRow : OpenClaim := { program := "ytaoalmgcdmoohaa", sum := "26689c830480c36663250cca639bccf1a6ca646700d78a9797957cf12d38dae7", func := "loop.example/graphways/laws.FnExactWayTurned", spec := "fnExactWayTurned", apart := false, narrowed := true }
def FnExactWayTurnedUptoSaid : Prop := fnExactWayTurnedUptoRow.holds Try.pinned (OpenSpec.upto fnExactWayTurnedSpec)

/-- 'laws.FnExactWayReach', WHERE WHAT IT READS IS OF BULK AT MOST 1048576: true; the input reads as it did. -/
def fnExactWayReachUptoRow : OpenClaim := { program := "ytaoalmgcdmoohaa", sum := "26689c830480c36663250cca639bccf1a6ca646700d78a9797957cf12d38dae7", func := "loop.example/graphways/laws.FnExactWayReach", spec := "fnExactWayReach", apart := false, narrowed := true }
def FnExactWayReachUptoSaid : Prop := fnExactWayReachUptoRow.holds Try.pinned (OpenSpec.upto fnExactWayReachSpec)

/-- 'laws.FnExactWaySinks', WHERE WHAT IT READS IS OF BULK AT MOST 1048576: true; the input reads as it did. -/
def fnExactWaySinksUptoRow : OpenClaim := { program := "ytaoalmgcdmoohaa", sum := "26689c830480c36663250cca639bccf1a6ca646700d78a9797957cf12d38dae7", func := "loop.example/graphways/laws.FnExactWaySinks", spec := "fnExactWaySinks", apart := false, narrowed := true }
def FnExactWaySinksUptoSaid : Prop := fnExactWaySinksUptoRow.holds Try.pinned (OpenSpec.upto fnExactWaySinksSpec)

/-- 'laws.FnExactWayParts', WHERE WHAT IT READS IS OF BULK AT MOST 1048576: true; the input reads as it did. -/
def fnExactWayPartsUptoRow : OpenClaim := { program := "ytaoalmgcdmoohaa", sum := "26689c830480c36663250cca639bccf1a6ca646700d78a9797957cf12d38dae7", func := "loop.example/graphways/laws.FnExactWayParts", spec := "fnExactWayParts", apart := false, narrowed := true }
def FnExactWayPartsUptoSaid : Prop := fnExactWayPartsUptoRow.holds Try.pinned (OpenSpec.upto fnExactWayPartsSpec)

/-- 'laws.FnExactWaySources', WHERE WHAT IT READS IS OF BULK AT MOST 1048576: true; the input reads as it did. -/
def fnExactWaySourcesUptoRow : OpenClaim := { program := "ytaoalmgcdmoohaa", sum := "26689c830480c36663250cca639bccf1a6ca646700d78a9797957cf12d38dae7", func := "loop.example/graphways/laws.FnExactWaySources", spec := "fnExactWaySources", apart := false, narrowed := true }
def FnExactWaySourcesUptoSaid : Prop := fnExactWaySourcesUptoRow.holds Try.pinned (OpenSpec.upto fnExactWaySourcesSpec)

/-- 'laws.FnGraph', WHERE WHAT IT READS IS OF BULK AT MOST 1048576: true; the input reads as it did. -/
def fnGraphUptoRow : OpenClaim := { program := "ytaoalmgcdmoohaa", sum := "26689c830480c36663250cca639bccf1a6ca646700d78a9797957cf12d38dae7", func := "loop.example/graphways/laws.FnGraph", spec := "fnGraph", apart := false, narrowed := true }
def FnGraphUptoSaid : Prop := fnGraphUptoRow.holds Try.pinned (OpenSpec.upto fnGraphSpec)

/-- 'laws.FnTurned', WHERE WHAT IT READS IS OF BULK AT MOST 1048576: true; the input reads as it did. -/
def fnTurnedUptoRow : OpenClaim := { program := "ytaoalmgcdmoohaa", sum := "26689c830480c36663250cca639bccf1a6ca646700d78a9797957cf12d38dae7", func := "loop.example/graphways/laws.FnTurned", spec := "fnTurned", apart := false, narrowed := true }
def FnTurnedUptoSaid : Prop := fnTurnedUptoRow.holds Try.pinned (OpenSpec.upto fnTurnedSpec)

/-- 'laws.FnParts', WHERE WHAT IT READS IS OF BULK AT MOST 1048576: true; the input reads as it did. -/
def fnPartsUptoRow : OpenClaim := { program := "ytaoalmgcdmoohaa", sum := "26689c830480c36663250cca639bccf1a6ca646700d78a9797957cf12d38dae7", func := "loop.example/graphways/laws.FnParts", spec := "fnParts", apart := false, narrowed := true }
def FnPartsUptoSaid : Prop := fnPartsUptoRow.holds Try.pinned (OpenSpec.upto fnPartsSpec)

end Rows
end Go.Proofs.Ytaoalmgcdmoohaa
