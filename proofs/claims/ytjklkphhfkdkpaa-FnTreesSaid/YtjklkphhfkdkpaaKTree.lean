/-
  Reckoned for all graphs: trees.
-/
import Derived.Test.YtjklkphhfkdkpaaCoreT
section
namespace Go.Proofs.Ytjklkphhfkdkpaa.Gw
def popT (s : Nat) : Nat := s % 2 + s / 2 % 2 + s / 4 % 2 + s / 8 % 2 + s / 16 % 2 + s / 32 % 2 + s / 64 % 2 + s / 128 % 2 + s / 256 % 2 + s / 512 % 2
def treeQ (m : Nat) (es : Ed) (u s : Nat) : Bool := bif Nat.beq (u + popT s) m then Nat.beq (ufF m (sel es s)) u else false
def chkTree (m : Nat) (es : Ed) : Bool := force (ufF m es) fun u => force (cntP (treeQ m es u) (2 ^ es.length)) fun c => Nat.ble 1 c && (bif Nat.beq (2 * es.length) (m * (m - 1)) then Nat.beq c (m ^ (m - 2)) else true)
set_option maxRecDepth 100000
theorem tree1 : allSub (pairs 1) (chkTree 1) = true := by decide +kernel
theorem tree2 : allSub (pairs 2) (chkTree 2) = true := by decide +kernel
theorem tree3 : allSub (pairs 3) (chkTree 3) = true := by decide +kernel
theorem tree4 : allSub (pairs 4) (chkTree 4) = true := by decide +kernel
theorem tree5 : allSub (pairs 5) (chkTree 5) = true := by decide +kernel
theorem pairs_two : ∀ m, m < 6 → 2 * (pairs m).length = m * (m - 1) := by decide
end Go.Proofs.Ytjklkphhfkdkpaa.Gw
end
