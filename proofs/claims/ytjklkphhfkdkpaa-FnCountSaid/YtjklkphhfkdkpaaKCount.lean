/-
  Reckoned for all graphs: acyclic directions and the polynomial at -1.
-/
import Derived.Test.YtjklkphhfkdkpaaCoreF
section
namespace Go.Proofs.Ytjklkphhfkdkpaa.Gw
/-- sums with changing signs -/
def altP (P Q : Nat → Nat) : Nat → Nat
  | 0 => 0
  | n + 1 => altP P Q n + (bif Nat.beq (n % 2) 0 then P n else Q n)
def plain1 (m : Nat) (es : Ed) (o : Nat) : Bool := force (adjA es o) fun A => plainQ A (2 ^ m - 1)
def chkCountC (m : Nat) (es : Ed) (T c : Nat) : Bool :=
  force (altP (pT T) (nT T) (m + 1)) fun a => force (altP (nT T) (pT T) (m + 1)) fun b =>
    (Nat.beq a (b + c) || Nat.beq b (a + c)) && (Nat.beq es.length 0 || Nat.beq (c % 2) 0)
def chkCount (m : Nat) (es : Ed) : Bool := force (polyT m es) fun T => force (cntP (plain1 m es) (2 ^ es.length)) fun c => chkCountC m es T c
set_option maxRecDepth 100000
theorem count1 : allSub (pairs 1) (chkCount 1) = true := by decide +kernel
theorem count2 : allSub (pairs 2) (chkCount 2) = true := by decide +kernel
theorem count3 : allSub (pairs 3) (chkCount 3) = true := by decide +kernel
theorem count4 : allSub (pairs 4) (chkCount 4) = true := by decide +kernel
theorem count5 : allSub (pairs 5) (chkCount 5) = true := by decide +kernel
end Go.Proofs.Ytjklkphhfkdkpaa.Gw
end
