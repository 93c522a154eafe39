/-
  No cell of these rows narrows 'for every input' (looked for: loops, veiled, ifaces, maps, wideKeys, modest, calm, conditions, laid).
  DERIVED. THE GIVEN ROWS OF THIS SEAT. 12 by the template 'for every input the law returns true; each argument reads behind the call as it read before'; 0 by the template 'total and deterministic' (their statements: YtomaibajmlfhhaaTotals.lean).
  GIVEN WITH THE SEED: the statements are not yours to turn. If you find one false, say at which input.
  Laid BY PROGRAM, IN A SANDBOX (cutbox-rows.mjs): the forced cells as the released guide's own fill.sh prints them over the translation 69b9d4468007bff0… (all of the seat's roots in one cut). By AI agents, Wed Nov 11 2026. No macro, syntax, notation, axiom, sorry.
-/
import Derived.Test.YtomaibajmlfhhaaChecked
import GoSem.Claim
import GoSem.ClaimJoined
import GoSem.ClaimMapViews
import Derived.JoinedTies
import Derived.KernelRfl
namespace Go.Proofs.Ytomaibajmlfhhaa
/- THE CELL 'sum', in the pinned program and in every row, IS THE sha256 OF THE DUMP (.gsa) THAT YtomaibajmlfhhaaProg.lean LOADS. Nothing in Lean hashes anything: it is a label: what it is worth is what the hold of that sum in a sandbox is worth. -/
noncomputable def Try.pinned : Pinned := { name := "ytomaibajmlfhhaa", sum := "69b9d4468007bff05e2c8bbdba23d13312aa9f5ee7d7c413c5d63a7811cc615d", checked := Try.checked }
namespace Rows
def none {H : Type} : Left H := { results := [], args := [] }

/-- 'laws.FnFlip': WHATEVER THE INPUT: true; the input reads as it did. -/
def fnFlipSpec : ChangeSpec := { name := "fnFlip", fn := fun _ => fun
  | [d] => { results := [.lit (.bool true)], args := [d] }
  | _ => none }
def fnFlipRow : OpenClaim := { program := "ytomaibajmlfhhaa", sum := "69b9d4468007bff05e2c8bbdba23d13312aa9f5ee7d7c413c5d63a7811cc615d", func := "loop.example/graphways/laws.FnFlip", spec := "fnFlip", apart := false }
def FnFlipSaid : Prop := fnFlipRow.holds Try.pinned (OpenSpec.ofChange fnFlipSpec)

/-- ITS FALSE NEIGHBOUR: 'it returns false'. Refute it at one input. -/
def fnFlipWrong : ChangeSpec := { name := "fnFlip", fn := fun _ => fun
  | [d] => { results := [.lit (.bool false)], args := [d] }
  | _ => none }
def FnFlipWrongFalsely : Prop := fnFlipRow.holds Try.pinned (OpenSpec.ofChange fnFlipWrong)

/-- 'laws.FnReach': WHATEVER THE INPUT: true; the input reads as it did. -/
def fnReachSpec : ChangeSpec := { name := "fnReach", fn := fun _ => fun
  | [d] => { results := [.lit (.bool true)], args := [d] }
  | _ => none }
def fnReachRow : OpenClaim := { program := "ytomaibajmlfhhaa", sum := "69b9d4468007bff05e2c8bbdba23d13312aa9f5ee7d7c413c5d63a7811cc615d", func := "loop.example/graphways/laws.FnReach", spec := "fnReach", apart := false }
def FnReachSaid : Prop := fnReachRow.holds Try.pinned (OpenSpec.ofChange fnReachSpec)

/-- ITS FALSE NEIGHBOUR: 'it returns false'. Refute it at one input. -/
def fnReachWrong : ChangeSpec := { name := "fnReach", fn := fun _ => fun
  | [d] => { results := [.lit (.bool false)], args := [d] }
  | _ => none }
def FnReachWrongFalsely : Prop := fnReachRow.holds Try.pinned (OpenSpec.ofChange fnReachWrong)

/-- 'laws.FnStrongFirst': WHATEVER THE INPUT: true; the input reads as it did. -/
def fnStrongFirstSpec : ChangeSpec := { name := "fnStrongFirst", fn := fun _ => fun
  | [d] => { results := [.lit (.bool true)], args := [d] }
  | _ => none }
def fnStrongFirstRow : OpenClaim := { program := "ytomaibajmlfhhaa", sum := "69b9d4468007bff05e2c8bbdba23d13312aa9f5ee7d7c413c5d63a7811cc615d", func := "loop.example/graphways/laws.FnStrongFirst", spec := "fnStrongFirst", apart := false }
def FnStrongFirstSaid : Prop := fnStrongFirstRow.holds Try.pinned (OpenSpec.ofChange fnStrongFirstSpec)

/-- ITS FALSE NEIGHBOUR: 'it returns false'. Refute it at one input. -/
def fnStrongFirstWrong : ChangeSpec := { name := "fnStrongFirst", fn := fun _ => fun
  | [d] => { results := [.lit (.bool false)], args := [d] }
  | _ => none }
def FnStrongFirstWrongFalsely : Prop := fnStrongFirstRow.holds Try.pinned (OpenSpec.ofChange fnStrongFirstWrong)

/-- 'laws.FnWay': WHATEVER THE INPUT: true; the input reads as it did. -/
def fnWaySpec : ChangeSpec := { name := "fnWay", fn := fun _ => fun
  | [d] => { results := [.lit (.bool true)], args := [d] }
  | _ => none }
def fnWayRow : OpenClaim := { program := "ytomaibajmlfhhaa", sum := "69b9d4468007bff05e2c8bbdba23d13312aa9f5ee7d7c413c5d63a7811cc615d", func := "loop.example/graphways/laws.FnWay", spec := "fnWay", apart := false }
def FnWaySaid : Prop := fnWayRow.holds Try.pinned (OpenSpec.ofChange fnWaySpec)

/-- ITS FALSE NEIGHBOUR: 'it returns false'. Refute it at one input. -/
def fnWayWrong : ChangeSpec := { name := "fnWay", fn := fun _ => fun
  | [d] => { results := [.lit (.bool false)], args := [d] }
  | _ => none }
def FnWayWrongFalsely : Prop := fnWayRow.holds Try.pinned (OpenSpec.ofChange fnWayWrong)

/-- 'laws.FnFirstStrong': WHATEVER THE INPUT: true; the input reads as it did. -/
def fnFirstStrongSpec : ChangeSpec := { name := "fnFirstStrong", fn := fun _ => fun
  | [d] => { results := [.lit (.bool true)], args := [d] }
  | _ => none }
def fnFirstStrongRow : OpenClaim := { program := "ytomaibajmlfhhaa", sum := "69b9d4468007bff05e2c8bbdba23d13312aa9f5ee7d7c413c5d63a7811cc615d", func := "loop.example/graphways/laws.FnFirstStrong", spec := "fnFirstStrong", apart := false }
def FnFirstStrongSaid : Prop := fnFirstStrongRow.holds Try.pinned (OpenSpec.ofChange fnFirstStrongSpec)

/-- ITS FALSE NEIGHBOUR: 'it returns false'. Refute it at one input. -/
def fnFirstStrongWrong : ChangeSpec := { name := "fnFirstStrong", fn := fun _ => fun
  | [d] => { results := [.lit (.bool false)], args := [d] }
  | _ => none }
def FnFirstStrongWrongFalsely : Prop := fnFirstStrongRow.holds Try.pinned (OpenSpec.ofChange fnFirstStrongWrong)

/-- 'laws.FnSources': WHATEVER THE INPUT: true; the input reads as it did. -/
def fnSourcesSpec : ChangeSpec := { name := "fnSources", fn := fun _ => fun
  | [d] => { results := [.lit (.bool true)], args := [d] }
  | _ => none }
def fnSourcesRow : OpenClaim := { program := "ytomaibajmlfhhaa", sum := "69b9d4468007bff05e2c8bbdba23d13312aa9f5ee7d7c413c5d63a7811cc615d", func := "loop.example/graphways/laws.FnSources", spec := "fnSources", apart := false }
def FnSourcesSaid : Prop := fnSourcesRow.holds Try.pinned (OpenSpec.ofChange fnSourcesSpec)

/-- ITS FALSE NEIGHBOUR: 'it returns false'. Refute it at one input. -/
def fnSourcesWrong : ChangeSpec := { name := "fnSources", fn := fun _ => fun
  | [d] => { results := [.lit (.bool false)], args := [d] }
  | _ => none }
def FnSourcesWrongFalsely : Prop := fnSourcesRow.holds Try.pinned (OpenSpec.ofChange fnSourcesWrong)

/-- 'laws.FnSinks': WHATEVER THE INPUT: true; the input reads as it did. -/
def fnSinksSpec : ChangeSpec := { name := "fnSinks", fn := fun _ => fun
  | [d] => { results := [.lit (.bool true)], args := [d] }
  | _ => none }
def fnSinksRow : OpenClaim := { program := "ytomaibajmlfhhaa", sum := "69b9d4468007bff05e2c8bbdba23d13312aa9f5ee7d7c413c5d63a7811cc615d", func := "loop.example/graphways/laws.FnSinks", spec := "fnSinks", apart := false }
def FnSinksSaid : Prop := fnSinksRow.holds Try.pinned (OpenSpec.ofChange fnSinksSpec)

/-- ITS FALSE NEIGHBOUR: 'it returns false'. Refute it at one input. -/
def fnSinksWrong : ChangeSpec := { name := "fnSinks", fn := fun _ => fun
  | [d] => { results := [.lit (.bool false)], args := [d] }
  | _ => none }
def FnSinksWrongFalsely : Prop := fnSinksRow.holds Try.pinned (OpenSpec.ofChange fnSinksWrong)

/-- 'laws.FnOut': WHATEVER THE INPUT: true; the input reads as it did. -/
def fnOutSpec : ChangeSpec := { name := "fnOut", fn := fun _ => fun
  | [d] => { results := [.lit (.bool true)], args := [d] }
  | _ => none }
def fnOutRow : OpenClaim := { program := "ytomaibajmlfhhaa", sum := "69b9d4468007bff05e2c8bbdba23d13312aa9f5ee7d7c413c5d63a7811cc615d", func := "loop.example/graphways/laws.FnOut", spec := "fnOut", apart := false }
def FnOutSaid : Prop := fnOutRow.holds Try.pinned (OpenSpec.ofChange fnOutSpec)

/-- ITS FALSE NEIGHBOUR: 'it returns false'. Refute it at one input. -/
def fnOutWrong : ChangeSpec := { name := "fnOut", fn := fun _ => fun
  | [d] => { results := [.lit (.bool false)], args := [d] }
  | _ => none }
def FnOutWrongFalsely : Prop := fnOutRow.holds Try.pinned (OpenSpec.ofChange fnOutWrong)

/-- 'laws.FnInto': WHATEVER THE INPUT: true; the input reads as it did. -/
def fnIntoSpec : ChangeSpec := { name := "fnInto", fn := fun _ => fun
  | [d] => { results := [.lit (.bool true)], args := [d] }
  | _ => none }
def fnIntoRow : OpenClaim := { program := "ytomaibajmlfhhaa", sum := "69b9d4468007bff05e2c8bbdba23d13312aa9f5ee7d7c413c5d63a7811cc615d", func := "loop.example/graphways/laws.FnInto", spec := "fnInto", apart := false }
def FnIntoSaid : Prop := fnIntoRow.holds Try.pinned (OpenSpec.ofChange fnIntoSpec)

/-- ITS FALSE NEIGHBOUR: 'it returns false'. Refute it at one input. -/
def fnIntoWrong : ChangeSpec := { name := "fnInto", fn := fun _ => fun
  | [d] => { results := [.lit (.bool false)], args := [d] }
  | _ => none }
def FnIntoWrongFalsely : Prop := fnIntoRow.holds Try.pinned (OpenSpec.ofChange fnIntoWrong)

/-- 'laws.FnPlain': WHATEVER THE INPUT: true; the input reads as it did. -/
def fnPlainSpec : ChangeSpec := { name := "fnPlain", fn := fun _ => fun
  | [d] => { results := [.lit (.bool true)], args := [d] }
  | _ => none }
def fnPlainRow : OpenClaim := { program := "ytomaibajmlfhhaa", sum := "69b9d4468007bff05e2c8bbdba23d13312aa9f5ee7d7c413c5d63a7811cc615d", func := "loop.example/graphways/laws.FnPlain", spec := "fnPlain", apart := false }
def FnPlainSaid : Prop := fnPlainRow.holds Try.pinned (OpenSpec.ofChange fnPlainSpec)

/-- ITS FALSE NEIGHBOUR: 'it returns false'. Refute it at one input. -/
def fnPlainWrong : ChangeSpec := { name := "fnPlain", fn := fun _ => fun
  | [d] => { results := [.lit (.bool false)], args := [d] }
  | _ => none }
def FnPlainWrongFalsely : Prop := fnPlainRow.holds Try.pinned (OpenSpec.ofChange fnPlainWrong)

/-- 'laws.FnStrong': WHATEVER THE INPUT: true; the input reads as it did. -/
def fnStrongSpec : ChangeSpec := { name := "fnStrong", fn := fun _ => fun
  | [d] => { results := [.lit (.bool true)], args := [d] }
  | _ => none }
def fnStrongRow : OpenClaim := { program := "ytomaibajmlfhhaa", sum := "69b9d4468007bff05e2c8bbdba23d13312aa9f5ee7d7c413c5d63a7811cc615d", func := "loop.example/graphways/laws.FnStrong", spec := "fnStrong", apart := false }
def FnStrongSaid : Prop := fnStrongRow.holds Try.pinned (OpenSpec.ofChange fnStrongSpec)

/-- ITS FALSE NEIGHBOUR: 'it returns false'. Refute it at one input. -/
def fnStrongWrong : ChangeSpec := { name := "fnStrong", fn := fun _ => fun
  | [d] => { results := [.lit (.bool false)], args := [d] }
  | _ => none }
def FnStrongWrongFalsely : Prop := fnStrongRow.holds Try.pinned (OpenSpec.ofChange fnStrongWrong)

/-- 'laws.FnBlocks': WHATEVER THE INPUT: true; the input reads as it did. -/
def fnBlocksSpec : ChangeSpec := { name := "fnBlocks", fn := fun _ => fun
  | [d] => { results := [.lit (.bool true)], args := [d] }
  | _ => none }
def fnBlocksRow : OpenClaim := { program := "ytomaibajmlfhhaa", sum := "69b9d4468007bff05e2c8bbdba23d13312aa9f5ee7d7c413c5d63a7811cc615d", func := "loop.example/graphways/laws.FnBlocks", spec := "fnBlocks", apart := false }
def FnBlocksSaid : Prop := fnBlocksRow.holds Try.pinned (OpenSpec.ofChange fnBlocksSpec)

/-- ITS FALSE NEIGHBOUR: 'it returns false'. Refute it at one input. -/
def fnBlocksWrong : ChangeSpec := { name := "fnBlocks", fn := fun _ => fun
  | [d] => { results := [.lit (.bool false)], args := [d] }
  | _ => none }
def FnBlocksWrongFalsely : Prop := fnBlocksRow.holds Try.pinned (OpenSpec.ofChange fnBlocksWrong)

/- THE SECOND FORM. 'bulk': how many values and letters a reading holds, each counted each time it is reached (what is shared counts as often as it is met; a slice's spare places count too). A statement '..UptoSaid' is the law's where the arguments, and the package variables that the reading takes, are together of bulk at most 1048576: NARROWER than '..Said'. Prove '..Said' where nothing that the law and all that it calls make is longer than what came in: it says more and counts as full. Else prove '..UptoSaid'. A law counts once. -/
mutual
def uptoBulk {H : Type} : DataW H → Nat
  | .lit (.string bytes) => bytes.length + 1
  | .lit _ => 1
  | .nil => 1
  | .ptr d => uptoBulk d + 1
  | .slice elems spare => uptoBulkAll elems + uptoBulkAll spare + 1
  | .agg parts => uptoBulkAll parts + 1
  | .iface _ d => uptoBulk d + 1
  | .map entries => uptoBulkEntries entries + 1
  | .held _ => 1
def uptoBulkAll {H : Type} : List (DataW H) → Nat
  | [] => 0
  | d :: r => uptoBulk d + uptoBulkAll r
def uptoBulkEntries {H : Type} : List (Lit × DataW H) → Nat
  | [] => 0
  | x :: r => uptoBulkEntry x + uptoBulkEntries r
def uptoBulkEntry {H : Type} : Lit × DataW H → Nat
  | (.string bytes, d) => bytes.length + uptoBulk d + 1
  | (_, d) => uptoBulk d + 1
 end
def uptoSmall : (H : Type) → List (DataW H) → Bool := fun _ ds => decide (uptoBulkAll ds ≤ 1048576)
def OpenSpec.upto (s : _root_.Go.ChangeSpec) : _root_.Go.OpenSpec := { _root_.Go.OpenSpec.ofChange s with cond := some uptoSmall }

/-- 'laws.FnFlip', WHERE WHAT IT READS IS OF BULK AT MOST 1048576: true; the input reads as it did. -/
def fnFlipUptoRow : OpenClaim := { program := "ytomaibajmlfhhaa", sum := "69b9d4468007bff05e2c8bbdba23d13312aa9f5ee7d7c413c5d63a7811cc615d", func := "loop.example/graphways/laws.FnFlip", spec := "fnFlip", apart := false, narrowed := true }
def FnFlipUptoSaid : Prop := fnFlipUptoRow.holds Try.pinned (OpenSpec.upto fnFlipSpec)

/-- 'laws.FnReach', WHERE WHAT IT READS IS OF BULK AT MOST 1048576: true; the input reads as it did. -/
def fnReachUptoRow : OpenClaim := { program := "ytomaibajmlfhhaa", sum := "69b9d4468007bff05e2c8bbdba23d13312aa9f5ee7d7c413c5d63a7811cc615d", func := "loop.example/graphways/laws.FnReach", spec := "fnReach", apart := false, narrowed := true }
def FnReachUptoSaid : Prop := fnReachUptoRow.holds Try.pinned (OpenSpec.upto fnReachSpec)

/-- 'laws.FnStrongFirst', WHERE WHAT IT READS IS OF BULK AT MOST 1048576: true; the input reads as it did. -/
def fnStrongFirstUptoRow : OpenClaim := { program := "ytomaibajmlfhhaa", sum := "69b9d4468007bff05e2c8bbdba23d13312aa9f5ee7d7c413c5d63a7811cc615d", func := "loop.example/graphways/laws.FnStrongFirst", spec := "fnStrongFirst", apart := false, narrowed := true }
def FnStrongFirstUptoSaid : Prop := fnStrongFirstUptoRow.holds Try.pinned (OpenSpec.upto fnStrongFirstSpec)

/-- 'laws.FnWay', WHERE WHAT IT READS IS OF BULK AT MOST 1048576: true; the input reads as it did. -/
def fnWayUptoRow : OpenClaim := { program := "ytomaibajmlfhhaa", sum := "69b9d4468007bff05e2c8bbdba23d13312aa9f5ee7d7c413c5d63a7811cc615d", func := "loop.example/graphways/laws.FnWay", spec := "fnWay", apart := false, narrowed := true }
def FnWayUptoSaid : Prop := fnWayUptoRow.holds Try.pinned (OpenSpec.upto fnWaySpec)

/-- 'laws.FnFirstStrong', WHERE WHAT IT READS IS OF BULK AT MOST 1048576: true; the input reads as it did. -/
def fnFirstStrongUptoRow : OpenClaim := { program := "ytomaibajmlfhhaa", sum := "69b9d4468007bff05e2c8bbdba23d13312aa9f5ee7d7c413c5d63a7811cc615d", func := "loop.example/graphways/laws.FnFirstStrong", spec := "fnFirstStrong", apart := false, narrowed := true }
def FnFirstStrongUptoSaid : Prop := fnFirstStrongUptoRow.holds Try.pinned (OpenSpec.upto fnFirstStrongSpec)

/-- 'laws.FnSources', WHERE WHAT IT READS IS OF BULK AT MOST 1048576: true; the input reads as it did. -/
def fnSourcesUptoRow : OpenClaim := { program := "ytomaibajmlfhhaa", sum := "69b9d4468007bff05e2c8bbdba23d13312aa9f5ee7d7c413c5d63a7811cc615d", func := "loop.example/graphways/laws.FnSources", spec := "fnSources", apart := false, narrowed := true }
def FnSourcesUptoSaid : Prop := fnSourcesUptoRow.holds Try.pinned (OpenSpec.upto fnSourcesSpec)

/-- 'laws.FnSinks', WHERE WHAT IT READS IS OF BULK AT MOST 1048576: true; the input reads as it did. -/
def fnSinksUptoRow : OpenClaim := { program := "ytomaibajmlfhhaa", sum := "69b9d4468007bff05e2c8bbdba23d13312aa9f5ee7d7c413c5d63a7811cc615d", func := "loop.example/graphways/laws.FnSinks", spec := "fnSinks", apart := false, narrowed := true }
def FnSinksUptoSaid : Prop := fnSinksUptoRow.holds Try.pinned (OpenSpec.upto fnSinksSpec)

/-- 'laws.FnOut', WHERE WHAT IT READS IS OF BULK AT MOST 1048576: true; the input reads as it did. -/
def fnOutUptoRow : OpenClaim := { program := "ytomaibajmlfhhaa", sum := "69b9d4468007bff05e2c8bbdba23d13312aa9f5ee7d7c413c5d63a7811cc615d", func := "loop.example/graphways/laws.FnOut", spec := "fnOut", apart := false, narrowed := true }
def FnOutUptoSaid : Prop := fnOutUptoRow.holds Try.pinned (OpenSpec.upto fnOutSpec)

/-- 'laws.FnInto', WHERE WHAT IT READS IS OF BULK AT MOST 1048576: true; the input reads as it did. -/
def fnIntoUptoRow : OpenClaim := { program := "ytomaibajmlfhhaa", sum := "69b9d4468007bff05e2c8bbdba23d13312aa9f5ee7d7c413c5d63a7811cc615d", func := "loop.example/graphways/laws.FnInto", spec := "fnInto", apart := false, narrowed := true }
def FnIntoUptoSaid : Prop := fnIntoUptoRow.holds Try.pinned (OpenSpec.upto fnIntoSpec)

/-- 'laws.FnPlain', WHERE WHAT IT READS IS OF BULK AT MOST 1048576: true; the input reads as it did. -/
def fnPlainUptoRow : OpenClaim := { program := "ytomaibajmlfhhaa", sum := "69b9d4468007bff05e2c8bbdba23d13312aa9f5ee7d7c413c5d63a7811cc615d", func := "loop.example/graphways/laws.FnPlain", spec := "fnPlain", apart := false, narrowed := true }
def FnPlainUptoSaid : Prop := fnPlainUptoRow.holds Try.pinned (OpenSpec.upto fnPlainSpec)

/-- 'laws.FnStrong', WHERE WHAT IT READS IS OF BULK AT MOST 1048576: true; the input reads as it did. -/
def fnStrongUptoRow : OpenClaim := { program := "ytomaibajmlfhhaa", sum := "69b9d4468007bff05e2c8bbdba23d13312aa9f5ee7d7c413c5d63a7811cc615d", func := "loop.example/graphways/laws.FnStrong", spec := "fnStrong", apart := false, narrowed := true }
def FnStrongUptoSaid : Prop := fnStrongUptoRow.holds Try.pinned (OpenSpec.upto fnStrongSpec)

/-- 'laws.FnBlocks', WHERE WHAT IT READS IS OF BULK AT MOST 1048576: true; the input reads as it did. -/
def fnBlocksUptoRow : OpenClaim := { program := "ytomaibajmlfhhaa", sum := "69b9d4468007bff05e2c8bbdba23d13312aa9f5ee7d7c413c5d63a7811cc615d", func := "loop.example/graphways/laws.FnBlocks", spec := "fnBlocks", apart := false, narrowed := true }
def FnBlocksUptoSaid : Prop := fnBlocksUptoRow.holds Try.pinned (OpenSpec.upto fnBlocksSpec)

end Rows
end Go.Proofs.Ytomaibajmlfhhaa
