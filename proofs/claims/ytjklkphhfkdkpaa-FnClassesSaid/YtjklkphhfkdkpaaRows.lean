/-
  No cell of these rows narrows 'for every input' (looked for: loops, veiled, ifaces, maps, wideKeys, modest, calm, conditions, laid).
  DERIVED. THE GIVEN ROWS OF THIS SEAT. 12 by the template 'for every input the law returns true; each argument reads behind the call as it read before'; 0 by the template 'total and deterministic' (their statements: YtjklkphhfkdkpaaTotals.lean).
  GIVEN WITH THE SEED: the statements are not yours to turn. If you find one false, say at which input.
  Laid BY PROGRAM, IN A SANDBOX (cutbox-rows.mjs): the forced cells as the released guide's own fill.sh prints them over the translation 865754247e21f375… (all of the seat's roots in one cut). By AI agents, Wed Nov 11 2026. No macro, syntax, notation, axiom, sorry.
-/
import Derived.Test.YtjklkphhfkdkpaaChecked
import GoSem.Claim
import GoSem.ClaimJoined
import GoSem.ClaimMapViews
import Derived.JoinedTies
import Derived.KernelRfl
namespace Go.Proofs.Ytjklkphhfkdkpaa
/- THE CELL 'sum', in the pinned program and in every row, IS THE sha256 OF THE DUMP (.gsa) THAT YtjklkphhfkdkpaaProg.lean LOADS. Nothing in Lean hashes anything: it is a label: what it is worth is what the hold of that sum in a sandbox is worth. -/
noncomputable def Try.pinned : Pinned := { name := "ytjklkphhfkdkpaa", sum := "865754247e21f3754e2eace99e29ed8cf6a5b3bd1a1a3ed1ed8275337ce23e53", checked := Try.checked }
namespace Rows
def none {H : Type} : Left H := { results := [], args := [] }

/-- 'laws.FnRoot': WHATEVER THE INPUT: true; the input reads as it did. -/
def fnRootSpec : ChangeSpec := { name := "fnRoot", fn := fun _ => fun
  | [d] => { results := [.lit (.bool true)], args := [d] }
  | _ => none }
def fnRootRow : OpenClaim := { program := "ytjklkphhfkdkpaa", sum := "865754247e21f3754e2eace99e29ed8cf6a5b3bd1a1a3ed1ed8275337ce23e53", func := "loop.example/graphways/laws.FnRoot", spec := "fnRoot", unfollowed := true, recurses := true, apart := false }
def FnRootSaid : Prop := fnRootRow.holds Try.pinned (OpenSpec.ofChange fnRootSpec)

/-- ITS FALSE NEIGHBOUR: 'it returns false'. Refute it at one input. -/
def fnRootWrong : ChangeSpec := { name := "fnRoot", fn := fun _ => fun
  | [d] => { results := [.lit (.bool false)], args := [d] }
  | _ => none }
def FnRootWrongFalsely : Prop := fnRootRow.holds Try.pinned (OpenSpec.ofChange fnRootWrong)

/-- 'laws.FnClasses': WHATEVER THE INPUT: true; the input reads as it did. -/
def fnClassesSpec : ChangeSpec := { name := "fnClasses", fn := fun _ => fun
  | [d] => { results := [.lit (.bool true)], args := [d] }
  | _ => none }
def fnClassesRow : OpenClaim := { program := "ytjklkphhfkdkpaa", sum := "865754247e21f3754e2eace99e29ed8cf6a5b3bd1a1a3ed1ed8275337ce23e53", func := "loop.example/graphways/laws.FnClasses", spec := "fnClasses", unfollowed := true, recurses := true, apart := false }
def FnClassesSaid : Prop := fnClassesRow.holds Try.pinned (OpenSpec.ofChange fnClassesSpec)

/-- ITS FALSE NEIGHBOUR: 'it returns false'. Refute it at one input. -/
def fnClassesWrong : ChangeSpec := { name := "fnClasses", fn := fun _ => fun
  | [d] => { results := [.lit (.bool false)], args := [d] }
  | _ => none }
def FnClassesWrongFalsely : Prop := fnClassesRow.holds Try.pinned (OpenSpec.ofChange fnClassesWrong)

/-- 'laws.FnCount': WHATEVER THE INPUT: true; the input reads as it did. -/
def fnCountSpec : ChangeSpec := { name := "fnCount", fn := fun _ => fun
  | [d] => { results := [.lit (.bool true)], args := [d] }
  | _ => none }
def fnCountRow : OpenClaim := { program := "ytjklkphhfkdkpaa", sum := "865754247e21f3754e2eace99e29ed8cf6a5b3bd1a1a3ed1ed8275337ce23e53", func := "loop.example/graphways/laws.FnCount", spec := "fnCount", unfollowed := true, recurses := true, apart := false }
def FnCountSaid : Prop := fnCountRow.holds Try.pinned (OpenSpec.ofChange fnCountSpec)

/-- ITS FALSE NEIGHBOUR: 'it returns false'. Refute it at one input. -/
def fnCountWrong : ChangeSpec := { name := "fnCount", fn := fun _ => fun
  | [d] => { results := [.lit (.bool false)], args := [d] }
  | _ => none }
def FnCountWrongFalsely : Prop := fnCountRow.holds Try.pinned (OpenSpec.ofChange fnCountWrong)

/-- 'laws.FnStrongCount': WHATEVER THE INPUT: true; the input reads as it did. -/
def fnStrongCountSpec : ChangeSpec := { name := "fnStrongCount", fn := fun _ => fun
  | [d] => { results := [.lit (.bool true)], args := [d] }
  | _ => none }
def fnStrongCountRow : OpenClaim := { program := "ytjklkphhfkdkpaa", sum := "865754247e21f3754e2eace99e29ed8cf6a5b3bd1a1a3ed1ed8275337ce23e53", func := "loop.example/graphways/laws.FnStrongCount", spec := "fnStrongCount", unfollowed := true, recurses := true, apart := false }
def FnStrongCountSaid : Prop := fnStrongCountRow.holds Try.pinned (OpenSpec.ofChange fnStrongCountSpec)

/-- ITS FALSE NEIGHBOUR: 'it returns false'. Refute it at one input. -/
def fnStrongCountWrong : ChangeSpec := { name := "fnStrongCount", fn := fun _ => fun
  | [d] => { results := [.lit (.bool false)], args := [d] }
  | _ => none }
def FnStrongCountWrongFalsely : Prop := fnStrongCountRow.holds Try.pinned (OpenSpec.ofChange fnStrongCountWrong)

/-- 'laws.FnFulls': WHATEVER THE INPUT: true; the input reads as it did. -/
def fnFullsSpec : ChangeSpec := { name := "fnFulls", fn := fun _ => fun
  | [d] => { results := [.lit (.bool true)], args := [d] }
  | _ => none }
def fnFullsRow : OpenClaim := { program := "ytjklkphhfkdkpaa", sum := "865754247e21f3754e2eace99e29ed8cf6a5b3bd1a1a3ed1ed8275337ce23e53", func := "loop.example/graphways/laws.FnFulls", spec := "fnFulls", unfollowed := true, recurses := true, apart := false }
def FnFullsSaid : Prop := fnFullsRow.holds Try.pinned (OpenSpec.ofChange fnFullsSpec)

/-- ITS FALSE NEIGHBOUR: 'it returns false'. Refute it at one input. -/
def fnFullsWrong : ChangeSpec := { name := "fnFulls", fn := fun _ => fun
  | [d] => { results := [.lit (.bool false)], args := [d] }
  | _ => none }
def FnFullsWrongFalsely : Prop := fnFullsRow.holds Try.pinned (OpenSpec.ofChange fnFullsWrong)

/-- 'laws.FnEvens': WHATEVER THE INPUT: true; the input reads as it did. -/
def fnEvensSpec : ChangeSpec := { name := "fnEvens", fn := fun _ => fun
  | [d] => { results := [.lit (.bool true)], args := [d] }
  | _ => none }
def fnEvensRow : OpenClaim := { program := "ytjklkphhfkdkpaa", sum := "865754247e21f3754e2eace99e29ed8cf6a5b3bd1a1a3ed1ed8275337ce23e53", func := "loop.example/graphways/laws.FnEvens", spec := "fnEvens", unfollowed := true, recurses := true, apart := false }
def FnEvensSaid : Prop := fnEvensRow.holds Try.pinned (OpenSpec.ofChange fnEvensSpec)

/-- ITS FALSE NEIGHBOUR: 'it returns false'. Refute it at one input. -/
def fnEvensWrong : ChangeSpec := { name := "fnEvens", fn := fun _ => fun
  | [d] => { results := [.lit (.bool false)], args := [d] }
  | _ => none }
def FnEvensWrongFalsely : Prop := fnEvensRow.holds Try.pinned (OpenSpec.ofChange fnEvensWrong)

/-- 'laws.FnTrees': WHATEVER THE INPUT: true; the input reads as it did. -/
def fnTreesSpec : ChangeSpec := { name := "fnTrees", fn := fun _ => fun
  | [d] => { results := [.lit (.bool true)], args := [d] }
  | _ => none }
def fnTreesRow : OpenClaim := { program := "ytjklkphhfkdkpaa", sum := "865754247e21f3754e2eace99e29ed8cf6a5b3bd1a1a3ed1ed8275337ce23e53", func := "loop.example/graphways/laws.FnTrees", spec := "fnTrees", unfollowed := true, recurses := true, apart := false }
def FnTreesSaid : Prop := fnTreesRow.holds Try.pinned (OpenSpec.ofChange fnTreesSpec)

/-- ITS FALSE NEIGHBOUR: 'it returns false'. Refute it at one input. -/
def fnTreesWrong : ChangeSpec := { name := "fnTrees", fn := fun _ => fun
  | [d] => { results := [.lit (.bool false)], args := [d] }
  | _ => none }
def FnTreesWrongFalsely : Prop := fnTreesRow.holds Try.pinned (OpenSpec.ofChange fnTreesWrong)

/-- 'laws.FnExactPlainRoot': WHATEVER THE INPUT: true; the input reads as it did. -/
def fnExactPlainRootSpec : ChangeSpec := { name := "fnExactPlainRoot", fn := fun _ => fun
  | [d1, d2] => { results := [.lit (.bool true)], args := [d1, d2] }
  | _ => none }
def fnExactPlainRootRow : OpenClaim := { program := "ytjklkphhfkdkpaa", sum := "865754247e21f3754e2eace99e29ed8cf6a5b3bd1a1a3ed1ed8275337ce23e53", func := "loop.example/graphways/laws.FnExactPlainRoot", spec := "fnExactPlainRoot", unfollowed := true, recurses := true, apart := false }
def FnExactPlainRootSaid : Prop := fnExactPlainRootRow.holds Try.pinned (OpenSpec.ofChange fnExactPlainRootSpec)

/-- ITS FALSE NEIGHBOUR: 'it returns false'. Refute it at one input. -/
def fnExactPlainRootWrong : ChangeSpec := { name := "fnExactPlainRoot", fn := fun _ => fun
  | [d1, d2] => { results := [.lit (.bool false)], args := [d1, d2] }
  | _ => none }
def FnExactPlainRootWrongFalsely : Prop := fnExactPlainRootRow.holds Try.pinned (OpenSpec.ofChange fnExactPlainRootWrong)

/-- 'laws.FnExactPlainClasses': WHATEVER THE INPUT: true; the input reads as it did. -/
def fnExactPlainClassesSpec : ChangeSpec := { name := "fnExactPlainClasses", fn := fun _ => fun
  | [d] => { results := [.lit (.bool true)], args := [d] }
  | _ => none }
def fnExactPlainClassesRow : OpenClaim := { program := "ytjklkphhfkdkpaa", sum := "865754247e21f3754e2eace99e29ed8cf6a5b3bd1a1a3ed1ed8275337ce23e53", func := "loop.example/graphways/laws.FnExactPlainClasses", spec := "fnExactPlainClasses", unfollowed := true, recurses := true, apart := false }
def FnExactPlainClassesSaid : Prop := fnExactPlainClassesRow.holds Try.pinned (OpenSpec.ofChange fnExactPlainClassesSpec)

/-- ITS FALSE NEIGHBOUR: 'it returns false'. Refute it at one input. -/
def fnExactPlainClassesWrong : ChangeSpec := { name := "fnExactPlainClasses", fn := fun _ => fun
  | [d] => { results := [.lit (.bool false)], args := [d] }
  | _ => none }
def FnExactPlainClassesWrongFalsely : Prop := fnExactPlainClassesRow.holds Try.pinned (OpenSpec.ofChange fnExactPlainClassesWrong)

/-- 'laws.FnExactPlainCount': WHATEVER THE INPUT: true; the input reads as it did. -/
def fnExactPlainCountSpec : ChangeSpec := { name := "fnExactPlainCount", fn := fun _ => fun
  | [d] => { results := [.lit (.bool true)], args := [d] }
  | _ => none }
def fnExactPlainCountRow : OpenClaim := { program := "ytjklkphhfkdkpaa", sum := "865754247e21f3754e2eace99e29ed8cf6a5b3bd1a1a3ed1ed8275337ce23e53", func := "loop.example/graphways/laws.FnExactPlainCount", spec := "fnExactPlainCount", unfollowed := true, recurses := true, apart := false }
def FnExactPlainCountSaid : Prop := fnExactPlainCountRow.holds Try.pinned (OpenSpec.ofChange fnExactPlainCountSpec)

/-- ITS FALSE NEIGHBOUR: 'it returns false'. Refute it at one input. -/
def fnExactPlainCountWrong : ChangeSpec := { name := "fnExactPlainCount", fn := fun _ => fun
  | [d] => { results := [.lit (.bool false)], args := [d] }
  | _ => none }
def FnExactPlainCountWrongFalsely : Prop := fnExactPlainCountRow.holds Try.pinned (OpenSpec.ofChange fnExactPlainCountWrong)

/-- 'laws.FnExactStrongCount': WHATEVER THE INPUT: true; the input reads as it did. -/
def fnExactStrongCountSpec : ChangeSpec := { name := "fnExactStrongCount", fn := fun _ => fun
  | [d] => { results := [.lit (.bool true)], args := [d] }
  | _ => none }
def fnExactStrongCountRow : OpenClaim := { program := "ytjklkphhfkdkpaa", sum := "865754247e21f3754e2eace99e29ed8cf6a5b3bd1a1a3ed1ed8275337ce23e53", func := "loop.example/graphways/laws.FnExactStrongCount", spec := "fnExactStrongCount", unfollowed := true, recurses := true, apart := false }
def FnExactStrongCountSaid : Prop := fnExactStrongCountRow.holds Try.pinned (OpenSpec.ofChange fnExactStrongCountSpec)

/-- ITS FALSE NEIGHBOUR: 'it returns false'. Refute it at one input. -/
def fnExactStrongCountWrong : ChangeSpec := { name := "fnExactStrongCount", fn := fun _ => fun
  | [d] => { results := [.lit (.bool false)], args := [d] }
  | _ => none }
def FnExactStrongCountWrongFalsely : Prop := fnExactStrongCountRow.holds Try.pinned (OpenSpec.ofChange fnExactStrongCountWrong)

/-- 'laws.FnExactStrongFulls': WHATEVER THE INPUT: true; the input reads as it did. -/
def fnExactStrongFullsSpec : ChangeSpec := { name := "fnExactStrongFulls", fn := fun _ => fun
  | [d] => { results := [.lit (.bool true)], args := [d] }
  | _ => none }
def fnExactStrongFullsRow : OpenClaim := { program := "ytjklkphhfkdkpaa", sum := "865754247e21f3754e2eace99e29ed8cf6a5b3bd1a1a3ed1ed8275337ce23e53", func := "loop.example/graphways/laws.FnExactStrongFulls", spec := "fnExactStrongFulls", unfollowed := true, recurses := true, apart := false }
def FnExactStrongFullsSaid : Prop := fnExactStrongFullsRow.holds Try.pinned (OpenSpec.ofChange fnExactStrongFullsSpec)

/-- ITS FALSE NEIGHBOUR: 'it returns false'. Refute it at one input. -/
def fnExactStrongFullsWrong : ChangeSpec := { name := "fnExactStrongFulls", fn := fun _ => fun
  | [d] => { results := [.lit (.bool false)], args := [d] }
  | _ => none }
def FnExactStrongFullsWrongFalsely : Prop := fnExactStrongFullsRow.holds Try.pinned (OpenSpec.ofChange fnExactStrongFullsWrong)

/- THE SECOND FORM. 'bulk': how many values and letters a reading holds, each counted each time it is reached (what is shared counts as often as it is met; a slice's spare places count too). A statement '..UptoSaid' is the law's where the arguments, and the package variables that the reading takes, are together of bulk at most 1048576: NARROWER than '..Said'. Prove '..Said' where nothing that the law and all that it calls make is longer than what came in: it says more and counts as full. Else prove '..UptoSaid'. A law counts once. -/
mutual
def uptoBulk {H : Type} : DataW H → Nat
  | .lit (.string bytes) => bytes.length + 1
  | .lit _ => 1
  | .nil => 1
  | .ptr d => uptoBulk d + 1
  | .slice elems spare => uptoBulkAll elems + uptoBulkAll spare + 1
  | .agg parts => uptoBulkAll parts + 1
  | .iface _ d => uptoBulk d + 1
  | .map entries => uptoBulkEntries entries + 1
  | .held _ => 1
def uptoBulkAll {H : Type} : List (DataW H) → Nat
  | [] => 0
  | d :: r => uptoBulk d + uptoBulkAll r
def uptoBulkEntries {H : Type} : List (Lit × DataW H) → Nat
  | [] => 0
  | x :: r => uptoBulkEntry x + uptoBulkEntries r
def uptoBulkEntry {H : Type} : Lit × DataW H → Nat
  | (.string bytes, d) => bytes.length + uptoBulk d + 1
  | (_, d) => uptoBulk d + 1
 end
def uptoSmall : (H : Type) → List (DataW H) → Bool := fun _ ds => decide (uptoBulkAll ds ≤ 1048576)
def OpenSpec.upto (s : _root_.Go.ChangeSpec) : _root_.Go.OpenSpec := { _root_.Go.OpenSpec.ofChange s with cond := some uptoSmall }

/-- 'laws.FnRoot', WHERE WHAT IT READS IS OF BULK AT MOST 1048576: true; the input reads as it did. -/
def fnRootUptoRow : OpenClaim := { program := "ytjklkphhfkdkpaa", sum := "865754247e21f3754e2eace99e29ed8cf6a5b3bd1a1a3ed1ed8275337ce23e53", func := "loop.example/graphways/laws.FnRoot", spec := "fnRoot", unfollowed := true, recurses := true, apart := false, narrowed := true }
def FnRootUptoSaid : Prop := fnRootUptoRow.holds Try.pinned (OpenSpec.upto fnRootSpec)

/-- 'laws.FnClasses', WHERE WHAT IT READS IS OF BULK AT MOST 1048576: true; the input reads as it did. -/
def fnClassesUptoRow : OpenClaim := { program := "ytjklkphhfkdkpaa", sum := "865754247e21f3754e2eace99e29ed8cf6a5b3bd1a1a3ed1ed8275337ce23e53", func := "loop.example/graphways/laws.FnClasses", spec := "fnClasses", unfollowed := true, recurses := true, apart := false, narrowed := true }
def FnClassesUptoSaid : Prop := fnClassesUptoRow.holds Try.pinned (OpenSpec.upto fnClassesSpec)

/-- 'laws.FnCount', WHERE WHAT IT READS IS OF BULK AT MOST 1048576: true; the input reads as it did. -/
def fnCountUptoRow : OpenClaim := { program := "ytjklkphhfkdkpaa", sum := "865754247e21f3754e2eace99e29ed8cf6a5b3bd1a1a3ed1ed8275337ce23e53", func := "loop.example/graphways/laws.FnCount", spec := "fnCount", unfollowed := true, recurses := true, apart := false, narrowed := true }
def FnCountUptoSaid : Prop := fnCountUptoRow.holds Try.pinned (OpenSpec.upto fnCountSpec)

/-- 'laws.FnStrongCount', WHERE WHAT IT READS IS OF BULK AT MOST 1048576: true; the input reads as it did. -/
def fnStrongCountUptoRow : OpenClaim := { program := "ytjklkphhfkdkpaa", sum := "865754247e21f3754e2eace99e29ed8cf6a5b3bd1a1a3ed1ed8275337ce23e53", func := "loop.example/graphways/laws.FnStrongCount", spec := "fnStrongCount", unfollowed := true, recurses := true, apart := false, narrowed := true }
def FnStrongCountUptoSaid : Prop := fnStrongCountUptoRow.holds Try.pinned (OpenSpec.upto fnStrongCountSpec)

/-- 'laws.FnFulls', WHERE WHAT IT READS IS OF BULK AT MOST 1048576: true; the input reads as it did. -/
def fnFullsUptoRow : OpenClaim := { program := "ytjklkphhfkdkpaa", sum := "865754247e21f3754e2eace99e29ed8cf6a5b3bd1a1a3ed1ed8275337ce23e53", func := "loop.example/graphways/laws.FnFulls", spec := "fnFulls", unfollowed := true, recurses := true, apart := false, narrowed := true }
def FnFullsUptoSaid : Prop := fnFullsUptoRow.holds Try.pinned (OpenSpec.upto fnFullsSpec)

/-- 'laws.FnEvens', WHERE WHAT IT READS IS OF BULK AT MOST 1048576: true; the input reads as it did. -/
def fnEvensUptoRow : OpenClaim := { program := "ytjklkphhfkdkpaa", sum := "865754247e21f3754e2eace99e29ed8cf6a5b3bd1a1a3ed1ed8275337ce23e53", func := "loop.example/graphways/laws.FnEvens", spec := "fnEvens", unfollowed := true, recurses := true, apart := false, narrowed := true }
def FnEvensUptoSaid : Prop := fnEvensUptoRow.holds Try.pinned (OpenSpec.upto fnEvensSpec)

/-- 'laws.FnTrees', WHERE WHAT IT READS IS OF BULK AT MOST 1048576: true; the input reads as it did. -/
def fnTreesUptoRow : OpenClaim := { program := "ytjklkphhfkdkpaa", sum := "865754247e21f3754e2eace99e29ed8cf6a5b3bd1a1a3ed1ed8275337ce23e53", func := "loop.example/graphways/laws.FnTrees", spec := "fnTrees", unfollowed := true, recurses := true, apart := false, narrowed := true }
def FnTreesUptoSaid : Prop := fnTreesUptoRow.holds Try.pinned (OpenSpec.upto fnTreesSpec)

/-- 'laws.FnExactPlainRoot', WHERE WHAT IT READS IS OF BULK AT MOST 1048576: true; the input reads as it did. -/
def fnExactPlainRootUptoRow : OpenClaim := { program := "ytjklkphhfkdkpaa", sum := "865754247e21f3754e2eace99e29ed8cf6a5b3bd1a1a3ed1ed8275337ce23e53", func := "loop.example/graphways/laws.FnExactPlainRoot", spec := "fnExactPlainRoot", unfollowed := true, recurses := true, apart := false, narrowed := true }
def FnExactPlainRootUptoSaid : Prop := fnExactPlainRootUptoRow.holds Try.pinned (OpenSpec.upto fnExactPlainRootSpec)

/-- 'laws.FnExactPlainClasses', WHERE WHAT IT READS IS OF BULK AT MOST 1048576: true; the input reads as it did. -/
def fnExactPlainClassesUptoRow : OpenClaim := { program := "ytjklkphhfkdkpaa", sum := "865754247e21f3754e2eace99e29ed8cf6a5b3bd1a1a3ed1ed8275337ce23e53", func := "loop.example/graphways/laws.FnExactPlainClasses", spec := "fnExactPlainClasses", unfollowed := true, recurses := true, apart := false, narrowed := true }
def FnExactPlainClassesUptoSaid : Prop := fnExactPlainClassesUptoRow.holds Try.pinned (OpenSpec.upto fnExactPlainClassesSpec)

/-- 'laws.FnExactPlainCount', WHERE WHAT IT READS IS OF BULK AT MOST 1048576: true; the input reads as it did. -/
def fnExactPlainCountUptoRow : OpenClaim := { program := "ytjklkphhfkdkpaa", sum := "865754247e21f3754e2eace99e29ed8cf6a5b3bd1a1a3ed1ed8275337ce23e53", func := "loop.example/graphways/laws.FnExactPlainCount", spec := "fnExactPlainCount", unfollowed := true, recurses := true, apart := false, narrowed := true }
def FnExactPlainCountUptoSaid : Prop := fnExactPlainCountUptoRow.holds Try.pinned (OpenSpec.upto fnExactPlainCountSpec)

/-- 'laws.FnExactStrongCount', WHERE WHAT IT READS IS OF BULK AT MOST 1048576: true; the input reads as it did. -/
def fnExactStrongCountUptoRow : OpenClaim := { program := "ytjklkphhfkdkpaa", sum := "865754247e21f3754e2eace99e29ed8cf6a5b3bd1a1a3ed1ed8275337ce23e53", func := "loop.example/graphways/laws.FnExactStrongCount", spec := "fnExactStrongCount", unfollowed := true, recurses := true, apart := false, narrowed := true }
def FnExactStrongCountUptoSaid : Prop := fnExactStrongCountUptoRow.holds Try.pinned (OpenSpec.upto fnExactStrongCountSpec)

/-- 'laws.FnExactStrongFulls', WHERE WHAT IT READS IS OF BULK AT MOST 1048576: true; the input reads as it did. -/
def fnExactStrongFullsUptoRow : OpenClaim := { program := "ytjklkphhfkdkpaa", sum := "865754247e21f3754e2eace99e29ed8cf6a5b3bd1a1a3ed1ed8275337ce23e53", func := "loop.example/graphways/laws.FnExactStrongFulls", spec := "fnExactStrongFulls", unfollowed := true, recurses := true, apart := false, narrowed := true }
def FnExactStrongFullsUptoSaid : Prop := fnExactStrongFullsUptoRow.holds Try.pinned (OpenSpec.upto fnExactStrongFullsSpec)

end Rows
end Go.Proofs.Ytjklkphhfkdkpaa
