/-
  The value of a polynomial, reckoned from its last number on, at small numbers.
-/
import Derived.Test.YtjhedhpippppeaaLkPol
namespace Go.Proofs.Ytjhedhpippppeaa.Lk
open Go Go.RowKit Go.Proofs.YtjhedhpippppeaaW.PrintWords Go.Proofs.YtjhedhpippppeaaW.PrintLast Go.Proofs.YtjhedhpippppeaaW.PrintMore Go.Proofs.Ytjhedhpippppeaa.P Go.Proofs.Ytjhedhpippppeaa.Gw
set_option linter.unusedVariables false
set_option linter.unusedSimpArgs false
/-- what is reckoned from the end down to place j, d numbers -/
def hv (l : List Int) (x : Int) : Nat → Nat → Int
  | 0, _ => 0
  | d + 1, j => hv l x d (j + 1) * x + l.getD j 0
def valI (l : List Int) (x : Nat) : Nat → Int
  | 0 => 0
  | n + 1 => valI l x n + l.getD n 0 * ((x ^ n : Nat) : Int)
theorem hv_val (l : List Int) (x : Nat) (n : Nat) : ∀ d j, j + d = n → valI l x n = valI l x j + hv l (x : Int) d j * ((x ^ j : Nat) : Int)
  | 0, j, h => by
      obtain rfl : j = n := by omega
      simp [hv]
  | d + 1, j, h => by
      have ih := hv_val l x n d (j + 1) (by omega)
      rw [ih, valI, hv, Nat.pow_succ, Int.add_mul, Int.natCast_mul]
      have : hv l (x : Int) d (j + 1) * (((x ^ j : Nat) : Int) * (x : Int)) = hv l (x : Int) d (j + 1) * (x : Int) * ((x ^ j : Nat) : Int) := by
        rw [Int.mul_assoc]; congr 1; rw [Int.mul_comm]
      rw [this]; omega
theorem hv_bd {l : List Int} (hl : ∀ k, -1024 ≤ l.getD k 0 ∧ l.getD k 0 ≤ 1024) {x : Int} (h0 : 0 ≤ x) (h1 : x ≤ 10) : ∀ d j, -((1024 * 11 ^ d : Nat) : Int) ≤ hv l x d j ∧ hv l x d j ≤ ((1024 * 11 ^ d : Nat) : Int)
  | 0, j => by simp [hv]
  | d + 1, j => by
      have ih := hv_bd hl h0 h1 d (j + 1)
      have hj := hl j
      have hp : 0 < 11 ^ d := Nat.pow_pos (by omega)
      rw [hv]
      have e : (1024 * 11 ^ (d + 1) : Nat) = 11 * (1024 * 11 ^ d) := by rw [Nat.pow_succ]; omega
      rw [e]
      generalize hB : 1024 * 11 ^ d = B at ih
      have hB1 : 1024 ≤ B := by omega
      generalize hv l x d (j + 1) = y at ih
      have a1 : y * x ≤ (B : Int) * 10 := by
        by_cases hy : 0 ≤ y
        · exact Int.mul_le_mul ih.2 h1 h0 (by omega)
        · have : y * x ≤ 0 := Int.mul_nonpos_of_nonpos_of_nonneg (by omega) h0
          omega
      have a2 : -((B : Int) * 10) ≤ y * x := by
        by_cases hy : 0 ≤ y
        · have : 0 ≤ y * x := Int.mul_nonneg hy h0
          omega
        · have h3 : (-y) * x ≤ (B : Int) * 10 := Int.mul_le_mul (by omega) h1 h0 (by omega)
          rw [Int.neg_mul] at h3; omega
      omega
/-- the value is what was reckoned of even and odd sets -/
theorem valI_valP {l : List Int} {P Q : Nat → Nat} (x : Nat) : ∀ n, (∀ k, k < n → l.getD k 0 = (P k : Int) - (Q k : Int)) → valI l x n = (valP P x n : Int) - (valP Q x n : Int)
  | 0, _ => rfl
  | n + 1, h => by
      rw [valI, valI_valP x n (fun k hk => h k (by omega)), h n (by omega), valP, valP, Int.sub_mul]
      push_cast
      omega
def colV (m : Nat) (es : Ed) (x : Nat) : Int := valI (polyL m es) x (m + 1)
theorem colV_eq {m : Nat} {es : Ed} (hv : Valid m es) (x : Nat) : colV m es x = (valP (pT (polyT m es)) x (m + 1) : Int) - (valP (nT (polyT m es)) x (m + 1) : Int) :=
  valI_valP x (m + 1) fun k hk => polyL_dig hv (by have := hv.le; omega)
theorem colV_hv {m : Nat} (es : Ed) (x : Nat) : hv (polyL m es) (x : Int) (m + 1) 0 = colV m es x := by
  have := hv_val (polyL m es) x (m + 1) (m + 1) 0 (by omega)
  rw [valI] at this
  simp at this
  rw [colV, this]
/-- what was reckoned of the values at 0 to 10 -/
theorem col_chk {m : Nat} {es : Ed} (hv : Valid m es) {x : Nat} (hx : x ≤ 10) : 0 ≤ colV m es x ∧ (x = 0 → colV m es x = 0) ∧ (0 < x → colV m es x ≤ ((x ^ m : Nat) : Int) ∧ Int.tmod (colV m es x) (x : Int) = 0 ∧ (es.length = 0 → colV m es x = ((x ^ m : Nat) : Int))) := by
  have h := poly_chk hv
  unfold chkPolyT at h
  simp only [Bool.and_eq_true, List.all_eq_true, List.mem_range] at h
  have hc := h.1.2 x (by omega)
  unfold chkC at hc
  rw [force_eq, force_eq] at hc
  rw [colV_eq hv]
  generalize valP (pT (polyT m es)) x (m + 1) = a at hc
  generalize valP (nT (polyT m es)) x (m + 1) = c at hc
  simp only [Bool.and_eq_true, Nat.ble_eq] at hc
  obtain ⟨hle, hc⟩ := hc
  refine ⟨by omega, fun h0 => ?_, fun h0 => ?_⟩
  · subst h0
    simp only [show Nat.beq 0 0 = true from rfl, cond_true] at hc
    have : a = c := Nat.eq_of_beq_eq_true hc
    omega
  · have e : Nat.beq x 0 = false := by rw [Bool.eq_false_iff]; intro h; have := Nat.eq_of_beq_eq_true h; omega
    rw [e] at hc
    simp only [cond_false, Bool.and_eq_true, Nat.ble_eq] at hc
    obtain ⟨⟨h1, h2⟩, h3⟩ := hc
    have h2' : (a - c) % x = 0 := Nat.eq_of_beq_eq_true h2
    refine ⟨by omega, ?_, fun hl => ?_⟩
    · have e1 : ((a : Int) - (c : Int)) = ((a - c : Nat) : Int) := by omega
      rw [e1, Int.tmod_eq_emod_of_nonneg (by omega)]
      exact_mod_cast h2'
    · rw [hl] at h3
      simp only [show Nat.beq 0 0 = true from rfl, cond_true] at h3
      have := Nat.eq_of_beq_eq_true h3
      omega
theorem col_m {m : Nat} {es : Ed} (hv : Valid m es) : colV m es m ≠ 0 := by
  have h := poly_chk hv
  unfold chkPolyT at h
  simp only [Bool.and_eq_true, Bool.not_eq_true'] at h
  have := h.2
  rw [colV_eq hv]
  intro he
  have e : valP (pT (polyT m es)) m (m + 1) = valP (nT (polyT m es)) m (m + 1) := by omega
  rw [e] at this
  simp at this
end Go.Proofs.Ytjhedhpippppeaa.Lk
