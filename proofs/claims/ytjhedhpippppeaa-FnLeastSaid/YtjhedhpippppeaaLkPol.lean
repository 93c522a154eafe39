/-
  The polynomial's numbers as a list that grows set by set.
-/
import Derived.Test.YtjhedhpippppeaaLkSel
import Derived.Test.YtjhedhpippppeaaCoreT
namespace Go.Proofs.Ytjhedhpippppeaa.Lk
open Go Go.RowKit Go.Proofs.YtjhedhpippppeaaW.PrintWords Go.Proofs.YtjhedhpippppeaaW.PrintLast Go.Proofs.YtjhedhpippppeaaW.PrintMore Go.Proofs.Ytjhedhpippppeaa.P Go.Proofs.Ytjhedhpippppeaa.Gw
set_option linter.unusedVariables false
set_option linter.unusedSimpArgs false
theorem parL_succ : ∀ (i s : Nat), parL (i + 1) s = (parL i s ^^ s.testBit i)
  | 0, s => by simp [parL]
  | i + 1, s => by
      have ih := parL_succ i (s / 2)
      rw [parL, ih, parL, Nat.testBit_div_two]
      cases s.testBit 0 <;> cases parL i (s / 2) <;> cases s.testBit (i + 1) <;> rfl
def sgn (b : Bool) : Int := bif b then -1 else 1
def polyUpto (m : Nat) (es : Ed) : Nat → List Int
  | 0 => List.replicate (m + 1) 0
  | t + 1 => (polyUpto m es t).set (ufF m (sel es t)) ((polyUpto m es t).getD (ufF m (sel es t)) 0 + sgn (parL es.length t))
def polyL (m : Nat) (es : Ed) : List Int := polyUpto m es (2 ^ es.length)
theorem poly_len (m : Nat) (es : Ed) : ∀ t, (polyUpto m es t).length = m + 1
  | 0 => by simp [polyUpto]
  | t + 1 => by rw [polyUpto, List.length_set, poly_len m es t]
theorem uf_le {m : Nat} {es : Ed} (hv : Valid m es) (s : Nat) : 1 ≤ ufF m (sel es s) ∧ ufF m (sel es s) ≤ m := by
  have := parts_chk (hv.sel s); exact ⟨this.2.1, this.2.2.1⟩
theorem poly_get {m : Nat} {es : Ed} (hv : Valid m es) : ∀ t k, (polyUpto m es t).getD k 0 = (cntP (fun s => ufF m (sel es s) == k && parL es.length s == false) t : Int) - (cntP (fun s => ufF m (sel es s) == k && parL es.length s == true) t : Int)
  | 0, k => by
      simp only [polyUpto, cntP]
      rw [List.getD_eq_getElem?_getD, List.getElem?_replicate]; split <;> simp
  | t + 1, k => by
      have ih := poly_get hv t
      have hu := uf_le hv t
      have hl := poly_len m es t
      rw [polyUpto, cntP, cntP]
      by_cases e : ufF m (sel es t) = k
      · subst e
        rw [List.getD_eq_getElem?_getD, List.getElem?_set_self (by omega), Option.getD_some, ih]
        simp only [beq_self_eq_true, Bool.true_and]
        cases parL es.length t
        · simp [sgn]; omega
        · simp [sgn]; omega
      · have e2 : (ufF m (sel es t) == k) = false := by simpa using e
        rw [List.getD_eq_getElem?_getD, List.getElem?_set_ne e, ← List.getD_eq_getElem?_getD, ih]
        simp [e2]
theorem poly_bd {m : Nat} {es : Ed} (hv : Valid m es) (t k : Nat) : -(t : Int) ≤ (polyUpto m es t).getD k 0 ∧ (polyUpto m es t).getD k 0 ≤ (t : Int) := by
  rw [poly_get hv]
  have a := cntP_le (fun s => ufF m (sel es s) == k && parL es.length s == false) t
  have b := cntP_le (fun s => ufF m (sel es s) == k && parL es.length s == true) t
  omega
theorem polyL_get {m : Nat} {es : Ed} (hv : Valid m es) (k : Nat) : (polyL m es).getD k 0 = (nSets m es false k : Int) - (nSets m es true k : Int) := poly_get hv _ k
theorem polyL_dig {m : Nat} {es : Ed} (hv : Valid m es) {k : Nat} (hk : k < 8) : (polyL m es).getD k 0 = (pT (polyT m es) k : Int) - (nT (polyT m es) k : Int) := by
  have hu : ∀ s, ufF m (sel es s) < 8 := fun s => by have := uf_le hv s; have := hv.le; omega
  have h1 := polyT_dig hv.len hu false hk
  have h2 := polyT_dig hv.len hu true hk
  simp only [cond_false, cond_true, Nat.add_zero] at h1 h2
  rw [polyL_get hv, pT, nT, h1, h2]
theorem polyL_len (m : Nat) (es : Ed) : (polyL m es).length = m + 1 := poly_len m es _
theorem polyL_bd {m : Nat} {es : Ed} (hv : Valid m es) (k : Nat) : -1024 ≤ (polyL m es).getD k 0 ∧ (polyL m es).getD k 0 ≤ 1024 := by
  have := poly_bd hv (2 ^ es.length) k
  have hp := pow_le hv.len
  unfold polyL; omega
/-- what was reckoned of the polynomial, for every graph -/
theorem poly_chk {m : Nat} {es : Ed} (hv : Valid m es) : chkPolyT m es (polyT m es) = true := by
  have h : chkPoly m es = true := by
    have h1 := hv.pos; have h5 := hv.le
    rcases (show m = 1 ∨ m = 2 ∨ m = 3 ∨ m = 4 ∨ m = 5 by omega) with e | e | e | e | e <;> subst e
    · exact allSub_of _ _ poly1 _ hv.sub
    · exact allSub_of _ _ poly2 _ hv.sub
    · exact allSub_of _ _ poly3 _ hv.sub
    · exact allSub_of _ _ poly4 _ hv.sub
    · exact allSub_of _ _ poly5 _ hv.sub
  unfold chkPoly at h
  rwa [force_eq] at h
end Go.Proofs.Ytjhedhpippppeaa.Lk
