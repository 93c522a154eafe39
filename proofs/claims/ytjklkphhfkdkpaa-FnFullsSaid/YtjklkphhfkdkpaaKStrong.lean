/-
  Reckoned for all graphs: which have strong directions.
-/
import Derived.Test.YtjklkphhfkdkpaaCoreF
section
namespace Go.Proofs.Ytjklkphhfkdkpaa.Gw
def anyP (p : Nat → Bool) : Nat → Bool
  | 0 => false
  | n + 1 => anyP p n || p n
theorem anyP_iff (p : Nat → Bool) : ∀ n, anyP p n = true ↔ ∃ o, o < n ∧ p o = true
  | 0 => by simp [anyP]
  | n + 1 => by
      rw [anyP, Bool.or_eq_true, anyP_iff p n]
      constructor
      · rintro (⟨o, h1, h2⟩ | h)
        · exact ⟨o, by omega, h2⟩
        · exact ⟨n, by omega, h⟩
      · rintro ⟨o, h1, h2⟩
        by_cases e : o = n
        · subst e; exact .inr h2
        · exact .inl ⟨o, by omega, h2⟩
/-- no bridge -/
def noBr (m : Nat) (es : Ed) : Bool := (List.range es.length).all fun i => !(Nat.ble (ufF m es + 1) (ufF m (sel es (andn (2 ^ es.length - 1) (2 ^ i)))))
def stQ (m : Nat) (es rs : Ed) (o : Nat) : Bool := force (adjA es o) fun A => force (adjA rs o) fun R => strongQ A R m
def fuQ (es rs : Ed) (o : Nat) : Bool := force (adjA es o) fun A => force (adjA rs o) fun R => fullQ A R
def chkStrong (m : Nat) (es : Ed) : Bool := anyP (stQ m es (rev es)) (2 ^ es.length) == (Nat.beq (ufF m es) 1 && noBr m es)
def chkFull (m : Nat) (es : Ed) : Bool := anyP (fuQ es (rev es)) (2 ^ es.length) == noBr m es
set_option maxRecDepth 100000
theorem strong1 : allSub (pairs 1) (chkStrong 1) = true := by decide +kernel
theorem strong2 : allSub (pairs 2) (chkStrong 2) = true := by decide +kernel
theorem strong3 : allSub (pairs 3) (chkStrong 3) = true := by decide +kernel
theorem strong4 : allSub (pairs 4) (chkStrong 4) = true := by decide +kernel
theorem strong5 : allSub (pairs 5) (chkStrong 5) = true := by decide +kernel
end Go.Proofs.Ytjklkphhfkdkpaa.Gw
end
