/-
  No cell of these rows narrows 'for every input' (looked for: loops, veiled, ifaces, maps, wideKeys, modest, calm, conditions, laid).
  DERIVED. THE GIVEN ROWS OF THIS SEAT. 10 by the template 'for every input the law returns true; each argument reads behind the call as it read before'; 0 by the template 'total and deterministic' (their statements: YtjhedhpippppeaaTotals.lean).
  GIVEN WITH THE SEED: the statements are not yours to turn. If you find one false, say at which input.
  Laid BY PROGRAM, IN A SANDBOX (cutbox-rows.mjs): the forced cells as the released guide's own fill.sh prints them over the translation d8e6d80e310f8fe3… (all of the seat's roots in one cut). By AI agents, Wed Nov 11 2026. No macro, syntax, notation, axiom, sorry.
-/
import Derived.Test.YtjhedhpippppeaaChecked
import GoSem.Claim
import GoSem.ClaimJoined
import GoSem.ClaimMapViews
import Derived.JoinedTies
import Derived.KernelRfl
namespace Go.Proofs.Ytjhedhpippppeaa
/- THE CELL 'sum', in the pinned program and in every row, IS THE sha256 OF THE DUMP (.gsa) THAT YtjhedhpippppeaaProg.lean LOADS. Nothing in Lean hashes anything: it is a label: what it is worth is what the hold of that sum in a sandbox is worth. -/
noncomputable def Try.pinned : Pinned := { name := "ytjhedhpippppeaa", sum := "d8e6d80e310f8fe3b57bb35400e13d2f7fa33e9969457147658ec075ce731f19", checked := Try.checked }
namespace Rows
def none {H : Type} : Left H := { results := [], args := [] }

/-- 'laws.FnOrder': WHATEVER THE INPUT: true; the input reads as it did. -/
def fnOrderSpec : ChangeSpec := { name := "fnOrder", fn := fun _ => fun
  | [d] => { results := [.lit (.bool true)], args := [d] }
  | _ => none }
def fnOrderRow : OpenClaim := { program := "ytjhedhpippppeaa", sum := "d8e6d80e310f8fe3b57bb35400e13d2f7fa33e9969457147658ec075ce731f19", func := "loop.example/graphways/laws.FnOrder", spec := "fnOrder", plainKeys := false, apart := false }
def FnOrderSaid : Prop := fnOrderRow.holds Try.pinned (OpenSpec.ofChange fnOrderSpec)

/-- ITS FALSE NEIGHBOUR: 'it returns false'. Refute it at one input. -/
def fnOrderWrong : ChangeSpec := { name := "fnOrder", fn := fun _ => fun
  | [d] => { results := [.lit (.bool false)], args := [d] }
  | _ => none }
def FnOrderWrongFalsely : Prop := fnOrderRow.holds Try.pinned (OpenSpec.ofChange fnOrderWrong)

/-- 'laws.FnPoly': WHATEVER THE INPUT: true; the input reads as it did. -/
def fnPolySpec : ChangeSpec := { name := "fnPoly", fn := fun _ => fun
  | [d] => { results := [.lit (.bool true)], args := [d] }
  | _ => none }
def fnPolyRow : OpenClaim := { program := "ytjhedhpippppeaa", sum := "d8e6d80e310f8fe3b57bb35400e13d2f7fa33e9969457147658ec075ce731f19", func := "loop.example/graphways/laws.FnPoly", spec := "fnPoly", plainKeys := false, apart := false }
def FnPolySaid : Prop := fnPolyRow.holds Try.pinned (OpenSpec.ofChange fnPolySpec)

/-- ITS FALSE NEIGHBOUR: 'it returns false'. Refute it at one input. -/
def fnPolyWrong : ChangeSpec := { name := "fnPoly", fn := fun _ => fun
  | [d] => { results := [.lit (.bool false)], args := [d] }
  | _ => none }
def FnPolyWrongFalsely : Prop := fnPolyRow.holds Try.pinned (OpenSpec.ofChange fnPolyWrong)

/-- 'laws.FnColours': WHATEVER THE INPUT: true; the input reads as it did. -/
def fnColoursSpec : ChangeSpec := { name := "fnColours", fn := fun _ => fun
  | [d] => { results := [.lit (.bool true)], args := [d] }
  | _ => none }
def fnColoursRow : OpenClaim := { program := "ytjhedhpippppeaa", sum := "d8e6d80e310f8fe3b57bb35400e13d2f7fa33e9969457147658ec075ce731f19", func := "loop.example/graphways/laws.FnColours", spec := "fnColours", plainKeys := false, apart := false }
def FnColoursSaid : Prop := fnColoursRow.holds Try.pinned (OpenSpec.ofChange fnColoursSpec)

/-- ITS FALSE NEIGHBOUR: 'it returns false'. Refute it at one input. -/
def fnColoursWrong : ChangeSpec := { name := "fnColours", fn := fun _ => fun
  | [d] => { results := [.lit (.bool false)], args := [d] }
  | _ => none }
def FnColoursWrongFalsely : Prop := fnColoursRow.holds Try.pinned (OpenSpec.ofChange fnColoursWrong)

/-- 'laws.FnPush': WHATEVER THE INPUT: true; the input reads as it did. -/
def fnPushSpec : ChangeSpec := { name := "fnPush", fn := fun _ => fun
  | [d] => { results := [.lit (.bool true)], args := [d] }
  | _ => none }
def fnPushRow : OpenClaim := { program := "ytjhedhpippppeaa", sum := "d8e6d80e310f8fe3b57bb35400e13d2f7fa33e9969457147658ec075ce731f19", func := "loop.example/graphways/laws.FnPush", spec := "fnPush", plainKeys := false, apart := false }
def FnPushSaid : Prop := fnPushRow.holds Try.pinned (OpenSpec.ofChange fnPushSpec)

/-- ITS FALSE NEIGHBOUR: 'it returns false'. Refute it at one input. -/
def fnPushWrong : ChangeSpec := { name := "fnPush", fn := fun _ => fun
  | [d] => { results := [.lit (.bool false)], args := [d] }
  | _ => none }
def FnPushWrongFalsely : Prop := fnPushRow.holds Try.pinned (OpenSpec.ofChange fnPushWrong)

/-- 'laws.FnLeast': WHATEVER THE INPUT: true; the input reads as it did. -/
def fnLeastSpec : ChangeSpec := { name := "fnLeast", fn := fun _ => fun
  | [d] => { results := [.lit (.bool true)], args := [d] }
  | _ => none }
def fnLeastRow : OpenClaim := { program := "ytjhedhpippppeaa", sum := "d8e6d80e310f8fe3b57bb35400e13d2f7fa33e9969457147658ec075ce731f19", func := "loop.example/graphways/laws.FnLeast", spec := "fnLeast", plainKeys := false, apart := false }
def FnLeastSaid : Prop := fnLeastRow.holds Try.pinned (OpenSpec.ofChange fnLeastSpec)

/-- ITS FALSE NEIGHBOUR: 'it returns false'. Refute it at one input. -/
def fnLeastWrong : ChangeSpec := { name := "fnLeast", fn := fun _ => fun
  | [d] => { results := [.lit (.bool false)], args := [d] }
  | _ => none }
def FnLeastWrongFalsely : Prop := fnLeastRow.holds Try.pinned (OpenSpec.ofChange fnLeastWrong)

/-- 'laws.FnFull': WHATEVER THE INPUT: true; the input reads as it did. -/
def fnFullSpec : ChangeSpec := { name := "fnFull", fn := fun _ => fun
  | [d] => { results := [.lit (.bool true)], args := [d] }
  | _ => none }
def fnFullRow : OpenClaim := { program := "ytjhedhpippppeaa", sum := "d8e6d80e310f8fe3b57bb35400e13d2f7fa33e9969457147658ec075ce731f19", func := "loop.example/graphways/laws.FnFull", spec := "fnFull", plainKeys := false, apart := false }
def FnFullSaid : Prop := fnFullRow.holds Try.pinned (OpenSpec.ofChange fnFullSpec)

/-- ITS FALSE NEIGHBOUR: 'it returns false'. Refute it at one input. -/
def fnFullWrong : ChangeSpec := { name := "fnFull", fn := fun _ => fun
  | [d] => { results := [.lit (.bool false)], args := [d] }
  | _ => none }
def FnFullWrongFalsely : Prop := fnFullRow.holds Try.pinned (OpenSpec.ofChange fnFullWrong)

/-- 'laws.FnExactPlainColours': WHATEVER THE INPUT: true; the input reads as it did. -/
def fnExactPlainColoursSpec : ChangeSpec := { name := "fnExactPlainColours", fn := fun _ => fun
  | [d1, d2] => { results := [.lit (.bool true)], args := [d1, d2] }
  | _ => none }
def fnExactPlainColoursRow : OpenClaim := { program := "ytjhedhpippppeaa", sum := "d8e6d80e310f8fe3b57bb35400e13d2f7fa33e9969457147658ec075ce731f19", func := "loop.example/graphways/laws.FnExactPlainColours", spec := "fnExactPlainColours", plainKeys := false, apart := false }
def FnExactPlainColoursSaid : Prop := fnExactPlainColoursRow.holds Try.pinned (OpenSpec.ofChange fnExactPlainColoursSpec)

/-- ITS FALSE NEIGHBOUR: 'it returns false'. Refute it at one input. -/
def fnExactPlainColoursWrong : ChangeSpec := { name := "fnExactPlainColours", fn := fun _ => fun
  | [d1, d2] => { results := [.lit (.bool false)], args := [d1, d2] }
  | _ => none }
def FnExactPlainColoursWrongFalsely : Prop := fnExactPlainColoursRow.holds Try.pinned (OpenSpec.ofChange fnExactPlainColoursWrong)

/-- 'laws.FnExactPlainLeast': WHATEVER THE INPUT: true; the input reads as it did. -/
def fnExactPlainLeastSpec : ChangeSpec := { name := "fnExactPlainLeast", fn := fun _ => fun
  | [d] => { results := [.lit (.bool true)], args := [d] }
  | _ => none }
def fnExactPlainLeastRow : OpenClaim := { program := "ytjhedhpippppeaa", sum := "d8e6d80e310f8fe3b57bb35400e13d2f7fa33e9969457147658ec075ce731f19", func := "loop.example/graphways/laws.FnExactPlainLeast", spec := "fnExactPlainLeast", plainKeys := false, apart := false }
def FnExactPlainLeastSaid : Prop := fnExactPlainLeastRow.holds Try.pinned (OpenSpec.ofChange fnExactPlainLeastSpec)

/-- ITS FALSE NEIGHBOUR: 'it returns false'. Refute it at one input. -/
def fnExactPlainLeastWrong : ChangeSpec := { name := "fnExactPlainLeast", fn := fun _ => fun
  | [d] => { results := [.lit (.bool false)], args := [d] }
  | _ => none }
def FnExactPlainLeastWrongFalsely : Prop := fnExactPlainLeastRow.holds Try.pinned (OpenSpec.ofChange fnExactPlainLeastWrong)

/-- 'laws.FnExactPlainPoly': WHATEVER THE INPUT: true; the input reads as it did. -/
def fnExactPlainPolySpec : ChangeSpec := { name := "fnExactPlainPoly", fn := fun _ => fun
  | [d] => { results := [.lit (.bool true)], args := [d] }
  | _ => none }
def fnExactPlainPolyRow : OpenClaim := { program := "ytjhedhpippppeaa", sum := "d8e6d80e310f8fe3b57bb35400e13d2f7fa33e9969457147658ec075ce731f19", func := "loop.example/graphways/laws.FnExactPlainPoly", spec := "fnExactPlainPoly", plainKeys := false, apart := false }
def FnExactPlainPolySaid : Prop := fnExactPlainPolyRow.holds Try.pinned (OpenSpec.ofChange fnExactPlainPolySpec)

/-- ITS FALSE NEIGHBOUR: 'it returns false'. Refute it at one input. -/
def fnExactPlainPolyWrong : ChangeSpec := { name := "fnExactPlainPoly", fn := fun _ => fun
  | [d] => { results := [.lit (.bool false)], args := [d] }
  | _ => none }
def FnExactPlainPolyWrongFalsely : Prop := fnExactPlainPolyRow.holds Try.pinned (OpenSpec.ofChange fnExactPlainPolyWrong)

/-- 'laws.FnExactScoreRows': WHATEVER THE INPUT: true; the input reads as it did. -/
def fnExactScoreRowsSpec : ChangeSpec := { name := "fnExactScoreRows", fn := fun _ => fun
  | [d] => { results := [.lit (.bool true)], args := [d] }
  | _ => none }
def fnExactScoreRowsRow : OpenClaim := { program := "ytjhedhpippppeaa", sum := "d8e6d80e310f8fe3b57bb35400e13d2f7fa33e9969457147658ec075ce731f19", func := "loop.example/graphways/laws.FnExactScoreRows", spec := "fnExactScoreRows", plainKeys := false, apart := false }
def FnExactScoreRowsSaid : Prop := fnExactScoreRowsRow.holds Try.pinned (OpenSpec.ofChange fnExactScoreRowsSpec)

/-- ITS FALSE NEIGHBOUR: 'it returns false'. Refute it at one input. -/
def fnExactScoreRowsWrong : ChangeSpec := { name := "fnExactScoreRows", fn := fun _ => fun
  | [d] => { results := [.lit (.bool false)], args := [d] }
  | _ => none }
def FnExactScoreRowsWrongFalsely : Prop := fnExactScoreRowsRow.holds Try.pinned (OpenSpec.ofChange fnExactScoreRowsWrong)

/- THE SECOND FORM. 'bulk': how many values and letters a reading holds, each counted each time it is reached (what is shared counts as often as it is met; a slice's spare places count too). A statement '..UptoSaid' is the law's where the arguments, and the package variables that the reading takes, are together of bulk at most 1048576: NARROWER than '..Said'. Prove '..Said' where nothing that the law and all that it calls make is longer than what came in: it says more and counts as full. Else prove '..UptoSaid'. A law counts once. -/
mutual
def uptoBulk {H : Type} : DataW H → Nat
  | .lit (.string bytes) => bytes.length + 1
  | .lit _ => 1
  | .nil => 1
  | .ptr d => uptoBulk d + 1
  | .slice elems spare => uptoBulkAll elems + uptoBulkAll spare + 1
  | .agg parts => uptoBulkAll parts + 1
  | .iface _ d => uptoBulk d + 1
  | .map entries => uptoBulkEntries entries + 1
  | .held _ => 1
def uptoBulkAll {H : Type} : List (DataW H) → Nat
  | [] => 0
  | d :: r => uptoBulk d + uptoBulkAll r
def uptoBulkEntries {H : Type} : List (Lit × DataW H) → Nat
  | [] => 0
  | x :: r => uptoBulkEntry x + uptoBulkEntries r
def uptoBulkEntry {H : Type} : Lit × DataW H → Nat
  | (.string bytes, d) => bytes.length + uptoBulk d + 1
  | (_, d) => uptoBulk d + 1
 end
def uptoSmall : (H : Type) → List (DataW H) → Bool := fun _ ds => decide (uptoBulkAll ds ≤ 1048576)
def OpenSpec.upto (s : _root_.Go.ChangeSpec) : _root_.Go.OpenSpec := { _root_.Go.OpenSpec.ofChange s with cond := some uptoSmall }

/-- 'laws.FnOrder', WHERE WHAT IT READS IS OF BULK AT MOST 1048576: true; the input reads as it did. -/
def fnOrderUptoRow : OpenClaim := { program := "ytjhedhpippppeaa", sum := "d8e6d80e310f8fe3b57bb35400e13d2f7fa33e9969457147658ec075ce731f19", func := "loop.example/graphways/laws.FnOrder", spec := "fnOrder", plainKeys := false, apart := false, narrowed := true }
def FnOrderUptoSaid : Prop := fnOrderUptoRow.holds Try.pinned (OpenSpec.upto fnOrderSpec)

/-- 'laws.FnPoly', WHERE WHAT IT READS IS OF BULK AT MOST 1048576: true; the input reads as it did. -/
def fnPolyUptoRow : OpenClaim := { program := "ytjhedhpippppeaa", sum := "d8e6d80e310f8fe3b57bb35400e13d2f7fa33e9969457147658ec075ce731f19", func := "loop.example/graphways/laws.FnPoly", spec := "fnPoly", plainKeys := false, apart := false, narrowed := true }
def FnPolyUptoSaid : Prop := fnPolyUptoRow.holds Try.pinned (OpenSpec.upto fnPolySpec)

/-- 'laws.FnColours', WHERE WHAT IT READS IS OF BULK AT MOST 1048576: true; the input reads as it did. -/
def fnColoursUptoRow : OpenClaim := { program := "ytjhedhpippppeaa", sum := "d8e6d80e310f8fe3b57bb35400e13d2f7fa33e9969457147658ec075ce731f19", func := "loop.example/graphways/laws.FnColours", spec := "fnColours", plainKeys := false, apart := false, narrowed := true }
def FnColoursUptoSaid : Prop := fnColoursUptoRow.holds Try.pinned (OpenSpec.upto fnColoursSpec)

/-- 'laws.FnPush', WHERE WHAT IT READS IS OF BULK AT MOST 1048576: true; the input reads as it did. -/
def fnPushUptoRow : OpenClaim := { program := "ytjhedhpippppeaa", sum := "d8e6d80e310f8fe3b57bb35400e13d2f7fa33e9969457147658ec075ce731f19", func := "loop.example/graphways/laws.FnPush", spec := "fnPush", plainKeys := false, apart := false, narrowed := true }
def FnPushUptoSaid : Prop := fnPushUptoRow.holds Try.pinned (OpenSpec.upto fnPushSpec)

/-- 'laws.FnLeast', WHERE WHAT IT READS IS OF BULK AT MOST 1048576: true; the input reads as it did. -/
def fnLeastUptoRow : OpenClaim := { program := "ytjhedhpippppeaa", sum := "d8e6d80e310f8fe3b57bb35400e13d2f7fa33e9969457147658ec075ce731f19", func := "loop.example/graphways/laws.FnLeast", spec := "fnLeast", plainKeys := false, apart := false, narrowed := true }
def FnLeastUptoSaid : Prop := fnLeastUptoRow.holds Try.pinned (OpenSpec.upto fnLeastSpec)

/-- 'laws.FnFull', WHERE WHAT IT READS IS OF BULK AT MOST 1048576: true; the input reads as it did. -/
def fnFullUptoRow : OpenClaim := { program := "ytjhedhpippppeaa", sum := "d8e6d80e310f8fe3b57bb35400e13d2f7fa33e9969457147658ec075ce731f19", func := "loop.example/graphways/laws.FnFull", spec := "fnFull", plainKeys := false, apart := false, narrowed := true }
def FnFullUptoSaid : Prop := fnFullUptoRow.holds Try.pinned (OpenSpec.upto fnFullSpec)

/-- 'laws.FnExactPlainColours', WHERE WHAT IT READS IS OF BULK AT MOST 1048576: true; the input reads as it did. -/
def fnExactPlainColoursUptoRow : OpenClaim := { program := "ytjhedhpippppeaa", sum := "d8e6d80e310f8fe3b57bb35400e13d2f7fa33e9969457147658ec075ce731f19", func := "loop.example/graphways/laws.FnExactPlainColours", spec := "fnExactPlainColours", plainKeys := false, apart := false, narrowed := true }
def FnExactPlainColoursUptoSaid : Prop := fnExactPlainColoursUptoRow.holds Try.pinned (OpenSpec.upto fnExactPlainColoursSpec)

/-- 'laws.FnExactPlainLeast', WHERE WHAT IT READS IS OF BULK AT MOST 1048576: true; the input reads as it did. -/
def fnExactPlainLeastUptoRow : OpenClaim := { program := "ytjhedhpippppeaa", sum := "d8e6d80e310f8fe3b57bb35400e13d2f7fa33e9969457147658ec075ce731f19", func := "loop.example/graphways/laws.FnExactPlainLeast", spec := "fnExactPlainLeast", plainKeys := false, apart := false, narrowed := true }
def FnExactPlainLeastUptoSaid : Prop := fnExactPlainLeastUptoRow.holds Try.pinned (OpenSpec.upto fnExactPlainLeastSpec)

/-- 'laws.FnExactPlainPoly', WHERE WHAT IT READS IS OF BULK AT MOST 1048576: true; the input reads as it did. -/
def fnExactPlainPolyUptoRow : OpenClaim := { program := "ytjhedhpippppeaa", sum := "d8e6d80e310f8fe3b57bb35400e13d2f7fa33e9969457147658ec075ce731f19", func := "loop.example/graphways/laws.FnExactPlainPoly", spec := "fnExactPlainPoly", plainKeys := false, apart := false, narrowed := true }
def FnExactPlainPolyUptoSaid : Prop := fnExactPlainPolyUptoRow.holds Try.pinned (OpenSpec.upto fnExactPlainPolySpec)

/-- 'laws.FnExactScoreRows', WHERE WHAT IT READS IS OF BULK AT MOST 1048576: true; the input reads as it did. -/
def fnExactScoreRowsUptoRow : OpenClaim := { program := "ytjhedhpippppeaa", sum := "d8e6d80e310f8fe3b57bb35400e13d2f7fa33e9969457147658ec075ce731f19", func := "loop.example/graphways/laws.FnExactScoreRows", spec := "fnExactScoreRows", plainKeys := false, apart := false, narrowed := true }
def FnExactScoreRowsUptoSaid : Prop := fnExactScoreRowsUptoRow.holds Try.pinned (OpenSpec.upto fnExactScoreRowsSpec)

end Rows
end Go.Proofs.Ytjhedhpippppeaa
