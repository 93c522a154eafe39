/-
  Plain facts on reach, sinks, acyclic, strong and full directions, for the laws.
-/
import Derived.Test.YtomaibajmlfhhaaLkDirs
namespace Go.Proofs.Ytomaibajmlfhhaa.Lk
open Go Go.RowKit Go.Proofs.YtomaibajmlfhhaaW.PrintWords Go.Proofs.YtomaibajmlfhhaaW.PrintLast Go.Proofs.YtomaibajmlfhhaaW.PrintMore Go.Proofs.Ytomaibajmlfhhaa.P Go.Proofs.Ytomaibajmlfhhaa.Gw
set_option linter.unusedVariables false
set_option linter.unusedSimpArgs false
theorem dirs_noloop {m : Nat} {es : Ed} (hv : Valid m es) (b : Nat) : ∀ e ∈ dirs es b, e.1 ≠ e.2 := by
  intro e he
  obtain ⟨i, hi⟩ := List.getElem?_of_mem he
  rw [dirs_get] at hi
  obtain ⟨x, hx, rfl⟩ := Option.map_eq_some_iff.mp hi
  have := hv.lt x (List.mem_of_getElem? hx)
  cases b.testBit i <;> simp <;> omega
theorem row0_iff {m : Nat} {ds : Ed} (hd : InR m ds) (v : Nat) : (rowsOf m ds).getD v 0 = 0 ↔ ∀ e ∈ ds, e.1 ≠ v := by
  constructor
  · rintro h ⟨a, b⟩ he rfl
    have := (rowsOf_bit hd a b).mpr he
    rw [h] at this; simp at this
  · intro h
    apply eq_zero_of_bits; intro b
    cases hb : ((rowsOf m ds).getD v 0).testBit b with
    | false => rfl
    | true => exact absurd rfl (h _ ((rowsOf_bit hd v b).mp hb))
/-- sinks reach themselves alone -/
theorem sink_close {m : Nat} (h5 : m ≤ 5) {ds : Ed} (hd : InR m ds) (hn : ∀ e ∈ ds, e.1 ≠ e.2) {v : Nat} (hv : v < m) : (close (rowsOf m ds) (2 ^ v) = 2 ^ v) ↔ (sinksF (rowsOf m ds)).testBit v = true := by
  rw [sinksF_bit, List.getElem?_eq_getElem (show v < (rowsOf m ds).length by rw [rowsOf_length]; exact hv)]
  have hr := row0_iff hd v
  rw [List.getD_eq_getElem?_getD, List.getElem?_eq_getElem (show v < (rowsOf m ds).length by rw [rowsOf_length]; exact hv)] at hr
  simp only [Option.getD_some] at hr
  rw [Option.some.injEq, hr]
  constructor
  · rintro h ⟨a, b⟩ he rfl
    have h1 := close_closed h5 hd hv _ he
    rw [h, Nat.testBit_two_pow, Nat.testBit_two_pow] at h1
    have := h1 (by simp)
    exact hn _ he (by simpa using this)
  · intro h
    apply Gw.Sub.antisymm
    · apply close_le hd (by simp)
      intro e he h1
      rw [Nat.testBit_two_pow] at h1
      exact absurd (by simpa using h1 : v = e.1).symm (h e he)
    · exact sub_close _ _
theorem plain_peel {m : Nat} (h5 : m ≤ 5) {ds : Ed} (hd : InR m ds) : plainF m (rowsOf m ds) = true ↔ Peel m ds 0 := by
  have hfull : 2 ^ m - 1 < 2 ^ m := Nat.sub_lt (Nat.two_pow_pos m) (by omega)
  have d1 : Peel m ds (dropN m (rowsOf m ds) m (2 ^ m - 1)) := dropN_peel hd m Peel.all
  have d2 := dropN_stuck h5 hd m (2 ^ m - 1) hfull (pc5_le_n m (by omega) _ hfull)
  have e1 : Peel m (rev ds) (dropN m (rowsOf m (rev ds)) m (2 ^ m - 1)) := dropN_peel hd.rev m Peel.all
  have e2 := dropN_stuck h5 hd.rev m (2 ^ m - 1) hfull (pc5_le_n m (by omega) _ hfull)
  rw [plainF, beq_iff_eq]
  constructor
  · intro h; rw [h] at d1; exact d1
  · intro h
    have h0 := peel_turn hd h e1 e2 rfl
    rw [h0] at e1
    exact peel_turn hd.rev e1 (by rw [rev_rev]; exact d1) (by rw [rev_rev]; exact d2) rfl
theorem plain_rev {m : Nat} (h5 : m ≤ 5) {ds : Ed} (hd : InR m ds) : plainF m (rowsOf m (rev ds)) = plainF m (rowsOf m ds) := by
  have hfull : 2 ^ m - 1 < 2 ^ m := Nat.sub_lt (Nat.two_pow_pos m) (by omega)
  have key : ∀ {ds : Ed}, InR m ds → plainF m (rowsOf m ds) = true → plainF m (rowsOf m (rev ds)) = true := by
    intro ds hd h
    have e1 : Peel m (rev ds) (dropN m (rowsOf m (rev ds)) m (2 ^ m - 1)) := dropN_peel hd.rev m Peel.all
    have e2 := dropN_stuck h5 hd.rev m (2 ^ m - 1) hfull (pc5_le_n m (by omega) _ hfull)
    rw [plainF, beq_iff_eq]
    exact peel_turn hd ((plain_peel h5 hd).mp h) e1 e2 rfl
  rw [Bool.eq_iff_iff]
  constructor
  · intro h; have := key hd.rev h; rwa [rev_rev] at this
  · exact key hd
/-- an acyclic direction has a source -/
theorem plain_source {m : Nat} (h5 : m ≤ 5) (h1 : 1 ≤ m) {ds : Ed} (hd : InR m ds) (h : plainF m (rowsOf m ds) = true) : 0 < sinksF (rowsOf m (rev ds)) := by
  have h0 := Nat.two_pow_pos m
  apply Classical.byContradiction
  intro hz
  have hz : sinksF (rowsOf m (rev ds)) = 0 := by omega
  have := Peel.none hd ((plain_peel h5 hd).mp h) (S := 2 ^ m - 1) (by omega) (fun v hv => by
    rw [full_bit] at hv
    have hvm : v < m := by simpa using hv
    apply Classical.byContradiction
    intro hno
    have hr : (rowsOf m (rev ds)).getD v 0 = 0 := (row0_iff hd.rev v).mpr (by
      rintro ⟨a, b⟩ he rfl
      have he' := mem_rev.mp he
      exact hno ⟨(b, a), he', rfl, by rw [full_bit]; simpa using (hd _ he').1⟩)
    have hb : (sinksF (rowsOf m (rev ds))).testBit v = true := by
      rw [sinksF_bit, List.getElem?_eq_getElem (show v < (rowsOf m (rev ds)).length by rw [rowsOf_length]; exact hvm)]
      rw [List.getD_eq_getElem?_getD, List.getElem?_eq_getElem (show v < (rowsOf m (rev ds)).length by rw [rowsOf_length]; exact hvm)] at hr
      simpa using hr
    rw [hz] at hb; simp at hb)
  have h2 : 2 ≤ 2 ^ m := Nat.pow_le_pow_right (n := 2) (i := 1) (by omega) h1
  omega
theorem plain_sink {m : Nat} (h5 : m ≤ 5) (h1 : 1 ≤ m) {ds : Ed} (hd : InR m ds) (h : plainF m (rowsOf m ds) = true) : 0 < sinksF (rowsOf m ds) := by
  have := plain_source h5 h1 hd.rev (by rw [plain_rev h5 hd]; exact h)
  rwa [rev_rev] at this
theorem blk_rev (m : Nat) (ds : Ed) (v : Nat) : blk m (rev ds) v = blk m ds v := by unfold blk; rw [rev_rev, Nat.and_comm]
/-- strong: each block has all -/
theorem strong_all {m : Nat} (h5 : m ≤ 5) {ds : Ed} (hd : InR m ds) (h : blk m ds 0 = 2 ^ m - 1) {v : Nat} (hv : v < m) : blk m ds v = 2 ^ m - 1 := by
  rw [← h]
  exact (blk_eq h5 hd (by omega) hv (by rw [h, full_bit]; simpa using hv)).symm
theorem strong_close {m : Nat} (h5 : m ≤ 5) {ds : Ed} (hd : InR m ds) (h : blk m ds 0 = 2 ^ m - 1) {v : Nat} (hv : v < m) : close (rowsOf m ds) (2 ^ v) = 2 ^ m - 1 := by
  have hb := strong_all h5 hd h hv
  apply Gw.Sub.antisymm
  · intro i hi
    rw [full_bit]; simpa using bit_lt (close_lt_n h5 hd hv) hi
  · intro i hi
    rw [← hb, blk, Nat.testBit_and] at hi
    simp only [Bool.and_eq_true] at hi; exact hi.1
theorem strong_full {m : Nat} (h5 : m ≤ 5) {ds : Ed} (hd : InR m ds) (h : blk m ds 0 = 2 ^ m - 1) : fullF m ds = true := by
  rw [fullF, List.all_eq_true]
  intro e he
  have := hd e he
  rw [strong_close h5 hd h this.2, full_bit]; simpa using this.1
end Go.Proofs.Ytomaibajmlfhhaa.Lk
