/-
  Tables packed into numbers; the numbers of sets of edges by their parts, reckoned for all graphs.
-/
import Derived.Test.YtjklkphhfkdkpaaCore
section
namespace Go.Proofs.Ytjklkphhfkdkpaa.Gw
/-! tables: numbers packed to a base -/
def pack (B : Nat) (f : Nat → Nat) : Nat → Nat
  | 0 => 0
  | k + 1 => f k * B ^ k + pack B f k
theorem pack_lt {B : Nat} (hB : 0 < B) {f : Nat → Nat} (hf : ∀ o, f o < B) : ∀ k, pack B f k < B ^ k
  | 0 => by simp [pack]
  | k + 1 => by
      have h1 := pack_lt hB hf k
      have h2 := hf k
      rw [pack, Nat.pow_succ]
      have : f k * B ^ k + B ^ k ≤ B * B ^ k := by
        rw [← Nat.succ_mul]; exact Nat.mul_le_mul_right _ h2
      rw [Nat.mul_comm (B ^ k) B]; omega
def dig (B T o : Nat) : Nat := T / B ^ o % B
theorem dig_pack {B : Nat} (hB : 0 < B) {f : Nat → Nat} (hf : ∀ o, f o < B) : ∀ k o, o < k → dig B (pack B f k) o = f o
  | 0, o, h => by omega
  | k + 1, o, h => by
      have hlt := pack_lt hB hf k
      unfold dig
      by_cases e : o = k
      · subst e
        rw [pack, Nat.add_comm, Nat.add_mul_div_right _ _ (Nat.pow_pos hB), Nat.div_eq_of_lt hlt, Nat.zero_add, Nat.mod_eq_of_lt (hf o)]
      · have ho : o < k := by omega
        have ih := dig_pack hB hf k o ho
        unfold dig at ih
        have hk : B ^ k = B ^ o * (B * B ^ (k - o - 1)) := by
          rw [← Nat.pow_succ', ← Nat.pow_add]; congr 1; omega
        rw [pack, hk, ← Nat.mul_assoc, Nat.mul_comm (f k) (B ^ o), Nat.mul_assoc, Nat.add_comm, Nat.add_mul_div_left _ _ (Nat.pow_pos hB)]
        rw [Nat.mul_comm (f k), Nat.mul_assoc, Nat.add_mul_mod_self_left]
        exact ih
/-- how many numbers below one do -/
def cntP (p : Nat → Bool) : Nat → Nat
  | 0 => 0
  | k + 1 => (bif p k then 1 else 0) + cntP p k
theorem cntP_congr {p q : Nat → Bool} : ∀ k, (∀ o, o < k → p o = q o) → cntP p k = cntP q k
  | 0, _ => rfl
  | k + 1, h => by rw [cntP, cntP, h k (by omega), cntP_congr k fun o ho => h o (by omega)]
/-- a number is reckoned before it is handed on -/
def force {α : Type} (x : Nat) (f : Nat → α) : α := Nat.rec (f 0) (fun n _ => f (n + 1)) x
theorem force_eq {α : Type} (x : Nat) (f : Nat → α) : force x f = f x := by cases x <;> rfl

/-! rows packed into one number, five bits each -/
def adjA : Ed → Nat → Nat
  | [], _ => 0
  | e :: es, o => (bif Nat.beq (o % 2) 1 then 2 ^ (5 * e.2 + e.1) else 2 ^ (5 * e.1 + e.2)) ||| adjA es (o / 2)
def rowA (A v : Nat) : Nat := (A >>> (5 * v)) &&& 31
def sinksA (A : Nat) : Nat → Nat
  | 0 => 0
  | n + 1 => (bif Nat.beq (rowA A n) 0 then 2 ^ n else 0) ||| sinksA A n
end Go.Proofs.Ytjklkphhfkdkpaa.Gw
end
section
namespace Go.Proofs.Ytjklkphhfkdkpaa.Gw
/-! sums of powers, and their digits -/
def sumP (B : Nat) (f : Nat → Nat) : Nat → Nat
  | 0 => 0
  | n + 1 => B ^ f n + sumP B f n
theorem sumP_congr {B : Nat} {f g : Nat → Nat} : ∀ n, (∀ s, s < n → f s = g s) → sumP B f n = sumP B g n
  | 0, _ => rfl
  | n + 1, h => by rw [sumP, sumP, h n (by omega), sumP_congr n fun s hs => h s (by omega)]
theorem sumP_double (B : Nat) (f : Nat → Nat) : ∀ n, sumP B f (2 * n) = sumP B (fun s => f (2 * s)) n + sumP B (fun s => f (2 * s + 1)) n
  | 0 => rfl
  | n + 1 => by
      have ih := sumP_double B f n
      rw [show 2 * (n + 1) = 2 * n + 1 + 1 by omega, sumP, sumP, sumP, sumP, ih]; omega
theorem pack_congr {B : Nat} {f g : Nat → Nat} : ∀ k, (∀ j, j < k → f j = g j) → pack B f k = pack B g k
  | 0, _ => rfl
  | k + 1, h => by rw [pack, pack, h k (by omega), pack_congr k fun s hs => h s (by omega)]
theorem pack_add1 (B : Nat) (c : Nat → Nat) (x : Nat) : ∀ k, pack B (fun j => (bif x == j then 1 else 0) + c j) k = (bif Nat.ble (x + 1) k then B ^ x else 0) + pack B c k
  | 0 => rfl
  | k + 1 => by
      have ih := pack_add1 B c x k
      rw [pack, pack, ih]
      by_cases h1 : x = k
      · subst h1
        have e1 : Nat.ble (x + 1) x = false := by rw [Bool.eq_false_iff]; intro h; rw [Nat.ble_eq] at h; omega
        have e2 : Nat.ble (x + 1) (x + 1) = true := by rw [Nat.ble_eq]; omega
        rw [e1, e2]; simp [Nat.add_mul]; omega
      · have e0 : (x == k) = false := by simpa using h1
        by_cases h2 : x < k
        · have e1 : Nat.ble (x + 1) k = true := by rw [Nat.ble_eq]; omega
          have e2 : Nat.ble (x + 1) (k + 1) = true := by rw [Nat.ble_eq]; omega
          rw [e0, e1, e2]; simp; omega
        · have e1 : Nat.ble (x + 1) k = false := by rw [Bool.eq_false_iff]; intro h; rw [Nat.ble_eq] at h; omega
          have e2 : Nat.ble (x + 1) (k + 1) = false := by rw [Bool.eq_false_iff]; intro h; rw [Nat.ble_eq] at h; omega
          rw [e0, e1, e2]; simp
theorem cntP_le (p : Nat → Bool) : ∀ n, cntP p n ≤ n
  | 0 => Nat.le_refl _
  | n + 1 => by have := cntP_le p n; rw [cntP]; cases p n <;> simp <;> omega
theorem sumP_pack {B K : Nat} {f : Nat → Nat} (hf : ∀ s, f s < K) : ∀ n, sumP B f n = pack B (fun j => cntP (fun s => f s == j) n) K
  | 0 => by
      have : ∀ k, pack B (fun j => cntP (fun s => f s == j) 0) k = 0 := by
        intro k; induction k with
        | zero => rfl
        | succ k ih => rw [pack, ih]; simp [cntP]
      rw [this]; rfl
  | n + 1 => by
      have h := pack_add1 B (fun j => cntP (fun s => f s == j) n) (f n) K
      have e : Nat.ble (f n + 1) K = true := by rw [Nat.ble_eq]; exact hf n
      rw [e] at h
      rw [sumP, sumP_pack hf n]
      exact h.symm
/-- a digit of the sum: how many numbers have that value -/
theorem dig_sumP {B K n j : Nat} {f : Nat → Nat} (hf : ∀ s, f s < K) (hn : n < B) (hj : j < K) : dig B (sumP B f n) j = cntP (fun s => f s == j) n := by
  rw [sumP_pack hf n]
  exact dig_pack (by omega) (fun o => Nat.lt_of_le_of_lt (cntP_le _ n) hn) K j hj

/-! sets of edges by parts and parity -/
def parL : Nat → Nat → Bool
  | 0, _ => false
  | l + 1, s => (s.testBit 0) ^^ (parL l (s / 2))
def treeG (B : Nat) : Ed → Nat × List Nat → Nat → Nat
  | [], st, p => B ^ (st.1 + p)
  | e :: es, st, p => treeG B es st p + treeG B es (ufStep st e) (8 - p)
theorem treeG_eq (B : Nat) : ∀ (es : Ed) (st : Nat × List Nat) (q : Bool),
    treeG B es st (bif q then 8 else 0) = sumP B (fun s => ((sel es s).foldl ufStep st).1 + (bif (q ^^ parL es.length s) then 8 else 0)) (2 ^ es.length)
  | [], st, q => by
      simp [treeG, sumP, sel, parL]
  | e :: es, st, q => by
      have h1 := treeG_eq B es st q
      have h2 := treeG_eq B es (ufStep st e) (!q)
      rw [treeG, h1, show (8 - (bif q then 8 else 0)) = (bif (!q) then 8 else 0) by cases q <;> rfl, h2, List.length_cons, Nat.pow_succ, Nat.mul_comm, sumP_double]
      congr 1
      · apply sumP_congr; intro s _
        have a : (2 * s).testBit 0 = false := by simp
        have b : 2 * s / 2 = s := by omega
        simp only [sel, parL, a, b, cond_false, Bool.false_xor]
      · apply sumP_congr; intro s _
        have a : (2 * s + 1).testBit 0 = true := by simp
        have b : (2 * s + 1) / 2 = s := by omega
        simp only [sel, parL, a, b, cond_true, List.foldl_cons]
        cases q <;> cases parL es.length s <;> rfl

/-- how many sets of edges of a parity have a number of parts -/
def nSets (m : Nat) (es : Ed) (odd : Bool) (k : Nat) : Nat := cntP (fun s => ufF m (sel es s) == k && parL es.length s == odd) (2 ^ es.length)
def polyT (m : Nat) (es : Ed) : Nat := treeG 4096 es (m, List.range m) 0
theorem cntP_ext {p q : Nat → Bool} (h : ∀ s, p s = q s) (n : Nat) : cntP p n = cntP q n := cntP_congr n fun s _ => h s
theorem polyT_dig {m : Nat} {es : Ed} (hl : es.length ≤ 10) (hu : ∀ s, ufF m (sel es s) < 8) (odd : Bool) {k : Nat} (hk : k < 8) :
    dig 4096 (polyT m es) (k + (bif odd then 8 else 0)) = nSets m es odd k := by
  have h := treeG_eq 4096 es (m, List.range m) false
  have hp : 2 ^ es.length ≤ 1024 := Nat.pow_le_pow_right (n := 2) (j := 10) (by omega) hl
  have hf : ∀ s, (fun s => ((sel es s).foldl ufStep (m, List.range m)).1 + (bif (false ^^ parL es.length s) then 8 else 0)) s < 16 := by
    intro s
    have : ((sel es s).foldl ufStep (m, List.range m)).1 < 8 := hu s
    simp only
    cases parL es.length s <;> simp <;> omega
  rw [polyT, show (0 : Nat) = (bif false then 8 else 0) from rfl, h, dig_sumP hf (by omega) (by cases odd <;> simp <;> omega), nSets]
  apply cntP_ext
  intro s
  have hus : ((sel es s).foldl ufStep (m, List.range m)).1 = ufF m (sel es s) := rfl
  have := hu s
  simp only [hus, Bool.false_xor]
  cases hpar : parL es.length s <;> cases odd
  · simp
  · have : ¬ (ufF m (sel es s) = k + 8) := by omega
    simp [this]
  · have : ¬ (ufF m (sel es s) + 8 = k) := by omega
    simp [this]
  · simp

/-! the polynomial's numbers: P of even sets, N of odd ones -/
def pT (T k : Nat) : Nat := dig 4096 T k
def nT (T k : Nat) : Nat := dig 4096 T (k + 8)
/-- the value at x of the numbers from place k on, of even and odd sets -/
def valP (f : Nat → Nat) (x : Nat) : Nat → Nat
  | 0 => 0
  | k + 1 => valP f x k + f k * x ^ k
def chkC (m : Nat) (es : Ed) (T x : Nat) : Bool :=
  force (valP (pT T) x (m + 1)) fun a => force (valP (nT T) x (m + 1)) fun b =>
    Nat.ble b a && (bif Nat.beq x 0 then Nat.beq a b else Nat.ble a (b + x ^ m) && Nat.beq ((a - b) % x) 0 && (bif Nat.beq es.length 0 then Nat.beq a (b + x ^ m) else true))
def chkPolyT (m : Nat) (es : Ed) (T : Nat) : Bool :=
  ((List.range (ufF m es)).all fun k => Nat.beq (pT T k) (nT T k)) && !(Nat.beq (pT T (ufF m es)) (nT T (ufF m es))) &&
  Nat.beq (pT T m) (nT T m + 1) && Nat.beq (pT T (m - 1) + es.length) (nT T (m - 1)) &&
  ((List.range 11).all fun x => chkC m es T x) && !(Nat.beq (valP (pT T) m (m + 1)) (valP (nT T) m (m + 1)))
def chkPoly (m : Nat) (es : Ed) : Bool := force (polyT m es) (chkPolyT m es)
set_option maxRecDepth 100000
theorem poly1 : allSub (pairs 1) (chkPoly 1) = true := by decide +kernel
theorem poly2 : allSub (pairs 2) (chkPoly 2) = true := by decide +kernel
theorem poly3 : allSub (pairs 3) (chkPoly 3) = true := by decide +kernel
theorem poly4 : allSub (pairs 4) (chkPoly 4) = true := by decide +kernel
theorem poly5 : allSub (pairs 5) (chkPoly 5) = true := by decide +kernel
end Go.Proofs.Ytjklkphhfkdkpaa.Gw
end
