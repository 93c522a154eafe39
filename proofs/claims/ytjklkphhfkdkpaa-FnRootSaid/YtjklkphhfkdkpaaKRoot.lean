/-
  Reckoned for all graphs: acyclic directions by their only sources.
-/
import Derived.Test.YtjklkphhfkdkpaaCoreF
section
namespace Go.Proofs.Ytjklkphhfkdkpaa.Gw
/-- acyclic directions by their sources: 32 and the sources, or 0 -/
def codeQ (m : Nat) (es rs : Ed) (o : Nat) : Nat := force (adjA es o) fun A => bif plainQ A (2 ^ m - 1) then force (adjA rs o) fun R => 32 + sinksA R m else 0
def chkRootQT (m : Nat) (es : Ed) (T : Nat) : Bool :=
  force (cntP (fun o => Nat.beq (dig 64 T o) (32 + 1)) (2 ^ es.length)) fun c =>
    ((List.range m).all fun v => Nat.beq (cntP (fun o => Nat.beq (dig 64 T o) (32 + 2 ^ v)) (2 ^ es.length)) c) && (Nat.beq c 0) == Nat.ble 2 (ufF m es)
def chkRootQ (m : Nat) (es : Ed) : Bool := force (pack 64 (codeQ m es (rev es)) (2 ^ es.length)) (chkRootQT m es)
set_option maxRecDepth 100000
theorem root1 : allSub (pairs 1) (chkRootQ 1) = true := by decide +kernel
theorem root2 : allSub (pairs 2) (chkRootQ 2) = true := by decide +kernel
theorem root3 : allSub (pairs 3) (chkRootQ 3) = true := by decide +kernel
theorem root4 : allSub (pairs 4) (chkRootQ 4) = true := by decide +kernel
theorem root5 : allSub (pairs 5) (chkRootQ 5) = true := by decide +kernel
end Go.Proofs.Ytjklkphhfkdkpaa.Gw
end
