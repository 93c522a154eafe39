/-
  No cell of these rows narrows 'for every input' (looked for: loops, veiled, ifaces, maps, wideKeys, modest, calm, conditions, laid).
  DERIVED. THE GIVEN ROWS OF THIS SEAT. 12 by the template 'for every input the law returns true; each argument reads behind the call as it read before'; 0 by the template 'total and deterministic' (their statements: YtljaalhocjobeaaTotals.lean).
  GIVEN WITH THE SEED: the statements are not yours to turn. If you find one false, say at which input.
  Laid BY PROGRAM, IN A SANDBOX (cutbox-rows.mjs): the forced cells as the released guide's own fill.sh prints them over the translation 62859686d2823954… (all of the seat's roots in one cut). By AI agents, Wed Nov 11 2026. No macro, syntax, notation, axiom, sorry.
-/
import Derived.Test.YtljaalhocjobeaaChecked
import GoSem.Claim
import GoSem.ClaimJoined
import GoSem.ClaimMapViews
import Derived.JoinedTies
import Derived.KernelRfl
namespace Go.Proofs.Ytljaalhocjobeaa
/- THE CELL 'sum', in the pinned program and in every row, IS THE sha256 OF THE DUMP (.gsa) THAT YtljaalhocjobeaaProg.lean LOADS. Nothing in Lean hashes anything: it is a label: what it is worth is what the hold of that sum in a sandbox is worth. -/
noncomputable def Try.pinned : Pinned := { name := "ytljaalhocjobeaa", sum := "62859686d282395427277cd978eff133b58175d6797b5c6a77d49032f9dd7e55", checked := Try.checked }
namespace Rows
def none {H : Type} : Left H := { results := [], args := [] }

/-- 'laws.FnExactScoreIs': WHATEVER THE INPUT: true; the input reads as it did. -/
def fnExactScoreIsSpec : ChangeSpec := { name := "fnExactScoreIs", fn := fun _ => fun
  | [d1, d2] => { results := [.lit (.bool true)], args := [d1, d2] }
  | _ => none }
def fnExactScoreIsRow : OpenClaim := { program := "ytljaalhocjobeaa", sum := "62859686d282395427277cd978eff133b58175d6797b5c6a77d49032f9dd7e55", func := "loop.example/graphways/laws.FnExactScoreIs", spec := "fnExactScoreIs", apart := false }
def FnExactScoreIsSaid : Prop := fnExactScoreIsRow.holds Try.pinned (OpenSpec.ofChange fnExactScoreIsSpec)

/-- ITS FALSE NEIGHBOUR: 'it returns false'. Refute it at one input. -/
def fnExactScoreIsWrong : ChangeSpec := { name := "fnExactScoreIs", fn := fun _ => fun
  | [d1, d2] => { results := [.lit (.bool false)], args := [d1, d2] }
  | _ => none }
def FnExactScoreIsWrongFalsely : Prop := fnExactScoreIsRow.holds Try.pinned (OpenSpec.ofChange fnExactScoreIsWrong)

/-- 'laws.FnExactPlainIn': WHATEVER THE INPUT: true; the input reads as it did. -/
def fnExactPlainInSpec : ChangeSpec := { name := "fnExactPlainIn", fn := fun _ => fun
  | [d1, d2] => { results := [.lit (.bool true)], args := [d1, d2] }
  | _ => none }
def fnExactPlainInRow : OpenClaim := { program := "ytljaalhocjobeaa", sum := "62859686d282395427277cd978eff133b58175d6797b5c6a77d49032f9dd7e55", func := "loop.example/graphways/laws.FnExactPlainIn", spec := "fnExactPlainIn", apart := false }
def FnExactPlainInSaid : Prop := fnExactPlainInRow.holds Try.pinned (OpenSpec.ofChange fnExactPlainInSpec)

/-- ITS FALSE NEIGHBOUR: 'it returns false'. Refute it at one input. -/
def fnExactPlainInWrong : ChangeSpec := { name := "fnExactPlainIn", fn := fun _ => fun
  | [d1, d2] => { results := [.lit (.bool false)], args := [d1, d2] }
  | _ => none }
def FnExactPlainInWrongFalsely : Prop := fnExactPlainInRow.holds Try.pinned (OpenSpec.ofChange fnExactPlainInWrong)

/-- 'laws.FnExactStrongIn': WHATEVER THE INPUT: true; the input reads as it did. -/
def fnExactStrongInSpec : ChangeSpec := { name := "fnExactStrongIn", fn := fun _ => fun
  | [d1, d2] => { results := [.lit (.bool true)], args := [d1, d2] }
  | _ => none }
def fnExactStrongInRow : OpenClaim := { program := "ytljaalhocjobeaa", sum := "62859686d282395427277cd978eff133b58175d6797b5c6a77d49032f9dd7e55", func := "loop.example/graphways/laws.FnExactStrongIn", spec := "fnExactStrongIn", apart := false }
def FnExactStrongInSaid : Prop := fnExactStrongInRow.holds Try.pinned (OpenSpec.ofChange fnExactStrongInSpec)

/-- ITS FALSE NEIGHBOUR: 'it returns false'. Refute it at one input. -/
def fnExactStrongInWrong : ChangeSpec := { name := "fnExactStrongIn", fn := fun _ => fun
  | [d1, d2] => { results := [.lit (.bool false)], args := [d1, d2] }
  | _ => none }
def FnExactStrongInWrongFalsely : Prop := fnExactStrongInRow.holds Try.pinned (OpenSpec.ofChange fnExactStrongInWrong)

/-- 'laws.FnExactStrongFull': WHATEVER THE INPUT: true; the input reads as it did. -/
def fnExactStrongFullSpec : ChangeSpec := { name := "fnExactStrongFull", fn := fun _ => fun
  | [d1, d2] => { results := [.lit (.bool true)], args := [d1, d2] }
  | _ => none }
def fnExactStrongFullRow : OpenClaim := { program := "ytljaalhocjobeaa", sum := "62859686d282395427277cd978eff133b58175d6797b5c6a77d49032f9dd7e55", func := "loop.example/graphways/laws.FnExactStrongFull", spec := "fnExactStrongFull", apart := false }
def FnExactStrongFullSaid : Prop := fnExactStrongFullRow.holds Try.pinned (OpenSpec.ofChange fnExactStrongFullSpec)

/-- ITS FALSE NEIGHBOUR: 'it returns false'. Refute it at one input. -/
def fnExactStrongFullWrong : ChangeSpec := { name := "fnExactStrongFull", fn := fun _ => fun
  | [d1, d2] => { results := [.lit (.bool false)], args := [d1, d2] }
  | _ => none }
def FnExactStrongFullWrongFalsely : Prop := fnExactStrongFullRow.holds Try.pinned (OpenSpec.ofChange fnExactStrongFullWrong)

/-- 'laws.FnExactStrongFirst': WHATEVER THE INPUT: true; the input reads as it did. -/
def fnExactStrongFirstSpec : ChangeSpec := { name := "fnExactStrongFirst", fn := fun _ => fun
  | [d] => { results := [.lit (.bool true)], args := [d] }
  | _ => none }
def fnExactStrongFirstRow : OpenClaim := { program := "ytljaalhocjobeaa", sum := "62859686d282395427277cd978eff133b58175d6797b5c6a77d49032f9dd7e55", func := "loop.example/graphways/laws.FnExactStrongFirst", spec := "fnExactStrongFirst", apart := false }
def FnExactStrongFirstSaid : Prop := fnExactStrongFirstRow.holds Try.pinned (OpenSpec.ofChange fnExactStrongFirstSpec)

/-- ITS FALSE NEIGHBOUR: 'it returns false'. Refute it at one input. -/
def fnExactStrongFirstWrong : ChangeSpec := { name := "fnExactStrongFirst", fn := fun _ => fun
  | [d] => { results := [.lit (.bool false)], args := [d] }
  | _ => none }
def FnExactStrongFirstWrongFalsely : Prop := fnExactStrongFirstRow.holds Try.pinned (OpenSpec.ofChange fnExactStrongFirstWrong)

/-- 'laws.FnExactPlainPush': WHATEVER THE INPUT: true; the input reads as it did. -/
def fnExactPlainPushSpec : ChangeSpec := { name := "fnExactPlainPush", fn := fun _ => fun
  | [d1, d2, d3] => { results := [.lit (.bool true)], args := [d1, d2, d3] }
  | _ => none }
def fnExactPlainPushRow : OpenClaim := { program := "ytljaalhocjobeaa", sum := "62859686d282395427277cd978eff133b58175d6797b5c6a77d49032f9dd7e55", func := "loop.example/graphways/laws.FnExactPlainPush", spec := "fnExactPlainPush", apart := false }
def FnExactPlainPushSaid : Prop := fnExactPlainPushRow.holds Try.pinned (OpenSpec.ofChange fnExactPlainPushSpec)

/-- ITS FALSE NEIGHBOUR: 'it returns false'. Refute it at one input. -/
def fnExactPlainPushWrong : ChangeSpec := { name := "fnExactPlainPush", fn := fun _ => fun
  | [d1, d2, d3] => { results := [.lit (.bool false)], args := [d1, d2, d3] }
  | _ => none }
def FnExactPlainPushWrongFalsely : Prop := fnExactPlainPushRow.holds Try.pinned (OpenSpec.ofChange fnExactPlainPushWrong)

/-- 'laws.FnExactPlainOrder': WHATEVER THE INPUT: true; the input reads as it did. -/
def fnExactPlainOrderSpec : ChangeSpec := { name := "fnExactPlainOrder", fn := fun _ => fun
  | [d1, d2] => { results := [.lit (.bool true)], args := [d1, d2] }
  | _ => none }
def fnExactPlainOrderRow : OpenClaim := { program := "ytljaalhocjobeaa", sum := "62859686d282395427277cd978eff133b58175d6797b5c6a77d49032f9dd7e55", func := "loop.example/graphways/laws.FnExactPlainOrder", spec := "fnExactPlainOrder", apart := false }
def FnExactPlainOrderSaid : Prop := fnExactPlainOrderRow.holds Try.pinned (OpenSpec.ofChange fnExactPlainOrderSpec)

/-- ITS FALSE NEIGHBOUR: 'it returns false'. Refute it at one input. -/
def fnExactPlainOrderWrong : ChangeSpec := { name := "fnExactPlainOrder", fn := fun _ => fun
  | [d1, d2] => { results := [.lit (.bool false)], args := [d1, d2] }
  | _ => none }
def FnExactPlainOrderWrongFalsely : Prop := fnExactPlainOrderRow.holds Try.pinned (OpenSpec.ofChange fnExactPlainOrderWrong)

/-- 'laws.FnExactStrongBlocks': WHATEVER THE INPUT: true; the input reads as it did. -/
def fnExactStrongBlocksSpec : ChangeSpec := { name := "fnExactStrongBlocks", fn := fun _ => fun
  | [d1, d2] => { results := [.lit (.bool true)], args := [d1, d2] }
  | _ => none }
def fnExactStrongBlocksRow : OpenClaim := { program := "ytljaalhocjobeaa", sum := "62859686d282395427277cd978eff133b58175d6797b5c6a77d49032f9dd7e55", func := "loop.example/graphways/laws.FnExactStrongBlocks", spec := "fnExactStrongBlocks", apart := false }
def FnExactStrongBlocksSaid : Prop := fnExactStrongBlocksRow.holds Try.pinned (OpenSpec.ofChange fnExactStrongBlocksSpec)

/-- ITS FALSE NEIGHBOUR: 'it returns false'. Refute it at one input. -/
def fnExactStrongBlocksWrong : ChangeSpec := { name := "fnExactStrongBlocks", fn := fun _ => fun
  | [d1, d2] => { results := [.lit (.bool false)], args := [d1, d2] }
  | _ => none }
def FnExactStrongBlocksWrongFalsely : Prop := fnExactStrongBlocksRow.holds Try.pinned (OpenSpec.ofChange fnExactStrongBlocksWrong)

/-- 'laws.FnExactStrongBridges': WHATEVER THE INPUT: true; the input reads as it did. -/
def fnExactStrongBridgesSpec : ChangeSpec := { name := "fnExactStrongBridges", fn := fun _ => fun
  | [d] => { results := [.lit (.bool true)], args := [d] }
  | _ => none }
def fnExactStrongBridgesRow : OpenClaim := { program := "ytljaalhocjobeaa", sum := "62859686d282395427277cd978eff133b58175d6797b5c6a77d49032f9dd7e55", func := "loop.example/graphways/laws.FnExactStrongBridges", spec := "fnExactStrongBridges", apart := false }
def FnExactStrongBridgesSaid : Prop := fnExactStrongBridgesRow.holds Try.pinned (OpenSpec.ofChange fnExactStrongBridgesSpec)

/-- ITS FALSE NEIGHBOUR: 'it returns false'. Refute it at one input. -/
def fnExactStrongBridgesWrong : ChangeSpec := { name := "fnExactStrongBridges", fn := fun _ => fun
  | [d] => { results := [.lit (.bool false)], args := [d] }
  | _ => none }
def FnExactStrongBridgesWrongFalsely : Prop := fnExactStrongBridgesRow.holds Try.pinned (OpenSpec.ofChange fnExactStrongBridgesWrong)

/-- 'laws.FnExactWayOut': WHATEVER THE INPUT: true; the input reads as it did. -/
def fnExactWayOutSpec : ChangeSpec := { name := "fnExactWayOut", fn := fun _ => fun
  | [d1, d2] => { results := [.lit (.bool true)], args := [d1, d2] }
  | _ => none }
def fnExactWayOutRow : OpenClaim := { program := "ytljaalhocjobeaa", sum := "62859686d282395427277cd978eff133b58175d6797b5c6a77d49032f9dd7e55", func := "loop.example/graphways/laws.FnExactWayOut", spec := "fnExactWayOut", apart := false }
def FnExactWayOutSaid : Prop := fnExactWayOutRow.holds Try.pinned (OpenSpec.ofChange fnExactWayOutSpec)

/-- ITS FALSE NEIGHBOUR: 'it returns false'. Refute it at one input. -/
def fnExactWayOutWrong : ChangeSpec := { name := "fnExactWayOut", fn := fun _ => fun
  | [d1, d2] => { results := [.lit (.bool false)], args := [d1, d2] }
  | _ => none }
def FnExactWayOutWrongFalsely : Prop := fnExactWayOutRow.holds Try.pinned (OpenSpec.ofChange fnExactWayOutWrong)

/-- 'laws.FnExactWayInto': WHATEVER THE INPUT: true; the input reads as it did. -/
def fnExactWayIntoSpec : ChangeSpec := { name := "fnExactWayInto", fn := fun _ => fun
  | [d1, d2] => { results := [.lit (.bool true)], args := [d1, d2] }
  | _ => none }
def fnExactWayIntoRow : OpenClaim := { program := "ytljaalhocjobeaa", sum := "62859686d282395427277cd978eff133b58175d6797b5c6a77d49032f9dd7e55", func := "loop.example/graphways/laws.FnExactWayInto", spec := "fnExactWayInto", apart := false }
def FnExactWayIntoSaid : Prop := fnExactWayIntoRow.holds Try.pinned (OpenSpec.ofChange fnExactWayIntoSpec)

/-- ITS FALSE NEIGHBOUR: 'it returns false'. Refute it at one input. -/
def fnExactWayIntoWrong : ChangeSpec := { name := "fnExactWayInto", fn := fun _ => fun
  | [d1, d2] => { results := [.lit (.bool false)], args := [d1, d2] }
  | _ => none }
def FnExactWayIntoWrongFalsely : Prop := fnExactWayIntoRow.holds Try.pinned (OpenSpec.ofChange fnExactWayIntoWrong)

/-- 'laws.FnExactScoreEven': WHATEVER THE INPUT: true; the input reads as it did. -/
def fnExactScoreEvenSpec : ChangeSpec := { name := "fnExactScoreEven", fn := fun _ => fun
  | [d1, d2] => { results := [.lit (.bool true)], args := [d1, d2] }
  | _ => none }
def fnExactScoreEvenRow : OpenClaim := { program := "ytljaalhocjobeaa", sum := "62859686d282395427277cd978eff133b58175d6797b5c6a77d49032f9dd7e55", func := "loop.example/graphways/laws.FnExactScoreEven", spec := "fnExactScoreEven", apart := false }
def FnExactScoreEvenSaid : Prop := fnExactScoreEvenRow.holds Try.pinned (OpenSpec.ofChange fnExactScoreEvenSpec)

/-- ITS FALSE NEIGHBOUR: 'it returns false'. Refute it at one input. -/
def fnExactScoreEvenWrong : ChangeSpec := { name := "fnExactScoreEven", fn := fun _ => fun
  | [d1, d2] => { results := [.lit (.bool false)], args := [d1, d2] }
  | _ => none }
def FnExactScoreEvenWrongFalsely : Prop := fnExactScoreEvenRow.holds Try.pinned (OpenSpec.ofChange fnExactScoreEvenWrong)

/- THE SECOND FORM. 'bulk': how many values and letters a reading holds, each counted each time it is reached (what is shared counts as often as it is met; a slice's spare places count too). A statement '..UptoSaid' is the law's where the arguments, and the package variables that the reading takes, are together of bulk at most 1048576: NARROWER than '..Said'. Prove '..Said' where nothing that the law and all that it calls make is longer than what came in: it says more and counts as full. Else prove '..UptoSaid'. A law counts once. -/
mutual
def uptoBulk {H : Type} : DataW H → Nat
  | .lit (.string bytes) => bytes.length + 1
  | .lit _ => 1
  | .nil => 1
  | .ptr d => uptoBulk d + 1
  | .slice elems spare => uptoBulkAll elems + uptoBulkAll spare + 1
  | .agg parts => uptoBulkAll parts + 1
  | .iface _ d => uptoBulk d + 1
  | .map entries => uptoBulkEntries entries + 1
  | .held _ => 1
def uptoBulkAll {H : Type} : List (DataW H) → Nat
  | [] => 0
  | d :: r => uptoBulk d + uptoBulkAll r
def uptoBulkEntries {H : Type} : List (Lit × DataW H) → Nat
  | [] => 0
  | x :: r => uptoBulkEntry x + uptoBulkEntries r
def uptoBulkEntry {H : Type} : Lit × DataW H → Nat
  | (.string bytes, d) => bytes.length + uptoBulk d + 1
  | (_, d) => uptoBulk d + 1
 end
def uptoSmall : (H : Type) → List (DataW H) → Bool := fun _ ds => decide (uptoBulkAll ds ≤ 1048576)
def OpenSpec.upto (s : _root_.Go.ChangeSpec) : _root_.Go.OpenSpec := { _root_.Go.OpenSpec.ofChange s with cond := some uptoSmall }

/-- 'laws.FnExactScoreIs', WHERE WHAT IT READS IS OF BULK AT MOST 1048576: true; the input reads as it did. -/
def fnExactScoreIsUptoRow : OpenClaim := { program := "ytljaalhocjobeaa", sum := "62859686d282395427277cd978eff133b58175d6797b5c6a77d49032f9dd7e55", func := "loop.example/graphways/laws.FnExactScoreIs", spec := "fnExactScoreIs", apart := false, narrowed := true }
def FnExactScoreIsUptoSaid : Prop := fnExactScoreIsUptoRow.holds Try.pinned (OpenSpec.upto fnExactScoreIsSpec)

/-- 'laws.FnExactPlainIn', WHERE WHAT IT READS IS OF BULK AT MOST 1048576: true; the input reads as it did. -/
def fnExactPlainInUptoRow : OpenClaim := { program := "ytljaalhocjobeaa", sum := "62859686d282395427277cd978eff133b58175d6797b5c6a77d49032f9dd7e55", func := "loop.example/graphways/laws.FnExactPlainIn", spec := "fnExactPlainIn", apart := false, narrowed := true }
def FnExactPlainInUptoSaid : Prop := fnExactPlainInUptoRow.holds Try.pinned (OpenSpec.upto fnExactPlainInSpec)

/-- 'laws.FnExactStrongIn', WHERE WHAT IT READS IS OF BULK AT MOST 1048576: true; the input reads as it did. -/
def fnExactStrongInUptoRow : OpenClaim := { program := "ytljaalhocjobeaa", sum := "62859686d282395427277cd978eff133b58175d6797b5c6a77d49032f9dd7e55", func := "loop.example/graphways/laws.FnExactStrongIn", spec := "fnExactStrongIn", apart := false, narrowed := true }
def FnExactStrongInUptoSaid : Prop := fnExactStrongInUptoRow.holds Try.pinned (OpenSpec.upto fnExactStrongInSpec)

/-- 'laws.FnExactStrongFull', WHERE WHAT IT READS IS OF BULK AT MOST 1048576: true; the input reads as it did. -/
def fnExactStrongFullUptoRow : OpenClaim := { program := "ytljaalhocjobeaa", sum := "62859686d282395427277cd978eff133b58175d6797b5c6a77d49032f9dd7e55", func := "loop.example/graphways/laws.FnExactStrongFull", spec := "fnExactStrongFull", apart := false, narrowed := true }
def FnExactStrongFullUptoSaid : Prop := fnExactStrongFullUptoRow.holds Try.pinned (OpenSpec.upto fnExactStrongFullSpec)

/-- 'laws.FnExactStrongFirst', WHERE WHAT IT READS IS OF BULK AT MOST 1048576: true; the input reads as it did. -/
def fnExactStrongFirstUptoRow : OpenClaim := { program := "ytljaalhocjobeaa", sum := "62859686d282395427277cd978eff133b58175d6797b5c6a77d49032f9dd7e55", func := "loop.example/graphways/laws.FnExactStrongFirst", spec := "fnExactStrongFirst", apart := false, narrowed := true }
def FnExactStrongFirstUptoSaid : Prop := fnExactStrongFirstUptoRow.holds Try.pinned (OpenSpec.upto fnExactStrongFirstSpec)

/-- 'laws.FnExactPlainPush', WHERE WHAT IT READS IS OF BULK AT MOST 1048576: true; the input reads as it did. -/
def fnExactPlainPushUptoRow : OpenClaim := { program := "ytljaalhocjobeaa", sum := "62859686d282395427277cd978eff133b58175d6797b5c6a77d49032f9dd7e55", func := "loop.example/graphways/laws.FnExactPlainPush", spec := "fnExactPlainPush", apart := false, narrowed := true }
def FnExactPlainPushUptoSaid : Prop := fnExactPlainPushUptoRow.holds Try.pinned (OpenSpec.upto fnExactPlainPushSpec)

/-- 'laws.FnExactPlainOrder', WHERE WHAT IT READS IS OF BULK AT MOST 1048576: true; the input reads as it did. -/
def fnExactPlainOrderUptoRow : OpenClaim := { program := "ytljaalhocjobeaa", sum := "62859686d282395427277cd978eff133b58175d6797b5c6a77d49032f9dd7e55", func := "loop.example/graphways/laws.FnExactPlainOrder", spec := "fnExactPlainOrder", apart := false, narrowed := true }
def FnExactPlainOrderUptoSaid : Prop := fnExactPlainOrderUptoRow.holds Try.pinned (OpenSpec.upto fnExactPlainOrderSpec)

/-- 'laws.FnExactStrongBlocks', WHERE WHAT IT READS IS OF BULK AT MOST 1048576: true; the input reads as it did. -/
def fnExactStrongBlocksUptoRow : OpenClaim := { program := "ytljaalhocjobeaa", sum := "62859686d282395427277cd978eff133b58175d6797b5c6a77d49032f9dd7e55", func := "loop.example/graphways/laws.FnExactStrongBlocks", spec := "fnExactStrongBlocks", apart := false, narrowed := true }
def FnExactStrongBlocksUptoSaid : Prop := fnExactStrongBlocksUptoRow.holds Try.pinned (OpenSpec.upto fnExactStrongBlocksSpec)

/-- 'laws.FnExactStrongBridges', WHERE WHAT IT READS IS OF BULK AT MOST 1048576: true; the input reads as it did. -/
def fnExactStrongBridgesUptoRow : OpenClaim := { program := "ytljaalhocjobeaa", sum := "62859686d282395427277cd978eff133b58175d6797b5c6a77d49032f9dd7e55", func := "loop.example/graphways/laws.FnExactStrongBridges", spec := "fnExactStrongBridges", apart := false, narrowed := true }
def FnExactStrongBridgesUptoSaid : Prop := fnExactStrongBridgesUptoRow.holds Try.pinned (OpenSpec.upto fnExactStrongBridgesSpec)

/-- 'laws.FnExactWayOut', WHERE WHAT IT READS IS OF BULK AT MOST 1048576: true; the input reads as it did. -/
def fnExactWayOutUptoRow : OpenClaim := { program := "ytljaalhocjobeaa", sum := "62859686d282395427277cd978eff133b58175d6797b5c6a77d49032f9dd7e55", func := "loop.example/graphways/laws.FnExactWayOut", spec := "fnExactWayOut", apart := false, narrowed := true }
def FnExactWayOutUptoSaid : Prop := fnExactWayOutUptoRow.holds Try.pinned (OpenSpec.upto fnExactWayOutSpec)

/-- 'laws.FnExactWayInto', WHERE WHAT IT READS IS OF BULK AT MOST 1048576: true; the input reads as it did. -/
def fnExactWayIntoUptoRow : OpenClaim := { program := "ytljaalhocjobeaa", sum := "62859686d282395427277cd978eff133b58175d6797b5c6a77d49032f9dd7e55", func := "loop.example/graphways/laws.FnExactWayInto", spec := "fnExactWayInto", apart := false, narrowed := true }
def FnExactWayIntoUptoSaid : Prop := fnExactWayIntoUptoRow.holds Try.pinned (OpenSpec.upto fnExactWayIntoSpec)

/-- 'laws.FnExactScoreEven', WHERE WHAT IT READS IS OF BULK AT MOST 1048576: true; the input reads as it did. -/
def fnExactScoreEvenUptoRow : OpenClaim := { program := "ytljaalhocjobeaa", sum := "62859686d282395427277cd978eff133b58175d6797b5c6a77d49032f9dd7e55", func := "loop.example/graphways/laws.FnExactScoreEven", spec := "fnExactScoreEven", apart := false, narrowed := true }
def FnExactScoreEvenUptoSaid : Prop := fnExactScoreEvenUptoRow.holds Try.pinned (OpenSpec.upto fnExactScoreEvenSpec)

end Rows
end Go.Proofs.Ytljaalhocjobeaa
