/-
  Reckoned for all graphs: even directions.
-/
import Derived.Test.YtjklkphhfkdkpaaCoreF
section
namespace Go.Proofs.Ytjklkphhfkdkpaa.Gw
/-- out-degrees packed into one number -/
def outA : Ed → Nat → Nat
  | [], _ => 0
  | e :: es, o => (bif Nat.beq (o % 2) 1 then 64 ^ e.2 else 64 ^ e.1) + outA es (o / 2)
def totA : Ed → Nat
  | [] => 0
  | e :: es => 64 ^ e.1 + 64 ^ e.2 + totA es
def atNode (v : Nat) (e : Nat × Nat) : Bool := Nat.beq e.1 v || Nat.beq e.2 v
def oddQ (m : Nat) (es : Ed) : Bool := (List.range m).any fun v => Nat.beq (es.countP (atNode v) % 2) 1
def evQ (es : Ed) (t o : Nat) : Bool := Nat.beq (2 * outA es o) t
def chkEvenC (m : Nat) (es : Ed) (c : Nat) : Bool := (Nat.beq c 0 == oddQ m es) && (bif Nat.beq es.length 0 then Nat.beq c 1 else Nat.beq (c % 2) 0)
def chkEven (m : Nat) (es : Ed) : Bool := force (totA es) fun t => force (cntP (evQ es t) (2 ^ es.length)) fun c => chkEvenC m es c
set_option maxRecDepth 100000
theorem even1 : allSub (pairs 1) (chkEven 1) = true := by decide +kernel
theorem even2 : allSub (pairs 2) (chkEven 2) = true := by decide +kernel
theorem even3 : allSub (pairs 3) (chkEven 3) = true := by decide +kernel
theorem even4 : allSub (pairs 4) (chkEven 4) = true := by decide +kernel
theorem even5 : allSub (pairs 5) (chkEven 5) = true := by decide +kernel
end Go.Proofs.Ytjklkphhfkdkpaa.Gw
end
