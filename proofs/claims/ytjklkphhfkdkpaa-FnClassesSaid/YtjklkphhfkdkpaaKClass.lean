/-
  Reckoned for all graphs: classes by pushes.
-/
import Derived.Test.YtjklkphhfkdkpaaCoreF
section
namespace Go.Proofs.Ytjklkphhfkdkpaa.Gw
/-! classes by pushes, fast: edges at a node and edges into it as numbers -/
def maskM (v : Nat) : Ed → Nat
  | [] => 0
  | e :: es => (bif Nat.beq e.1 v || Nat.beq e.2 v then 1 else 0) + 2 * maskM v es
def maskT (v : Nat) : Ed → Nat
  | [] => 0
  | e :: es => (bif Nat.beq e.2 v then 1 else 0) + 2 * maskT v es
/-- the masks of the nodes below one, in front of a list -/
def masksQ {α : Type} (es : Ed) : Nat → List (Nat × Nat) → (List (Nat × Nat) → α) → α
  | 0, l, k => k l
  | v + 1, l, k => force (maskM v es) fun M => force (maskT v es) fun T => masksQ es v ((M, T) :: l) k
def bitQ (S x : Nat) : Bool := Nat.beq (Nat.land (Nat.shiftRight S x) 1) 1
def nodesQ (o : Nat) : List (Nat × Nat) → List Nat → Nat → (List Nat → Nat → Nat) → Nat
  | [], q, S, k => k q S
  | (M, T) :: ns, q, S, k => bif Nat.beq (Nat.land o M) T then force (Nat.xor o M) (fun x => bif bitQ S x then nodesQ o ns q S k else force (Nat.lor S (Nat.pow 2 x)) fun S' => nodesQ o ns (q ++ [x]) S' k) else nodesQ o ns q S k
def bfsQ (ns : List (Nat × Nat)) : Nat → List Nat → Nat → Nat
  | 0, _, S => S
  | _ + 1, [], S => S
  | f + 1, o :: q, S => nodesQ o ns q S (bfsQ ns f)
def clsQ (ns : List (Nat × Nat)) (es : Ed) (full p : Nat) : Nat → Nat → Nat → Nat → Nat
  | 0, _, n, _ => n
  | d + 1, o, n, S => force (o + 1) fun o' => bif bitQ S o then clsQ ns es full p d o' n S else bif force (adjA es o) (fun A => plainQ A full) then force (Nat.lor S (Nat.pow 2 o)) (fun S1 => force (bfsQ ns p [o] S1) fun S' => force (n + 1) fun n' => clsQ ns es full p d o' n' S') else clsQ ns es full p d o' n S
/-- node 0 as the only source, of the nodes told -/
def onlyQ (ns : List (Nat × Nat)) (o : Nat) : Bool :=
  match ns with
  | [] => false
  | (M, T) :: ns => Nat.beq (Nat.land o M) T && ns.all fun p => !(Nat.beq (Nat.land o p.1) p.2)
def rootQ (ns : List (Nat × Nat)) (es : Ed) (full o : Nat) : Bool := onlyQ ns o && force (adjA es o) (fun A => plainQ A full)
def chkClassQ (m : Nat) (es : Ed) : Bool :=
  force (2 ^ m - 1) fun full => force (2 ^ es.length) fun p => masksQ es m [] fun ns => force (clsQ ns es full p p 0 0 0) fun c =>
    Nat.ble 1 c && (bif Nat.ble 2 (ufF m es) then true else Nat.beq (cntP (rootQ ns es full) p) c)
set_option maxRecDepth 100000
theorem class1 : allSub (pairs 1) (chkClassQ 1) = true := by decide +kernel
theorem class2 : allSub (pairs 2) (chkClassQ 2) = true := by decide +kernel
theorem class3 : allSub (pairs 3) (chkClassQ 3) = true := by decide +kernel
theorem class4 : allSub (pairs 4) (chkClassQ 4) = true := by decide +kernel
theorem class5 : allSub (pairs 5) (chkClassQ 5) = true := by decide +kernel
end Go.Proofs.Ytjklkphhfkdkpaa.Gw
end
