/-
  Blocks that are single nodes, and blocks of full directions: plain theory.
-/
import Derived.Test.YtjklkphhfkdkpaaCore
section
namespace Go.Proofs.Ytjklkphhfkdkpaa.Gw
/-! blocks that are single nodes: acyclic directions -/
theorem blocks_len_le (f : Nat → Nat) : ∀ k, (blocksUpto f k).1.length ≤ k
  | 0 => Nat.le_refl _
  | k + 1 => by
      have := blocks_len_le f k
      rw [blocksUpto, blkStep]
      cases (blocksUpto f k).2.testBit k <;> simp <;> omega
theorem blocks_len_eq (f : Nat → Nat) : ∀ k, (blocksUpto f k).1.length = k ↔ ∀ v, v < k → (blocksUpto f v).2.testBit v = false
  | 0 => by simp [blocksUpto]
  | k + 1 => by
      have ih := blocks_len_eq f k
      have hle := blocks_len_le f k
      rw [blocksUpto, blkStep]
      cases hs : (blocksUpto f k).2.testBit k with
      | true =>
        simp only [cond_true]
        constructor
        · intro h; omega
        · intro h; have := h k (by omega); rw [hs] at this; exact absurd this (by simp)
      | false =>
        simp only [cond_false, List.length_append, List.length_singleton]
        constructor
        · intro h v hv
          by_cases e : v = k
          · subst e; exact hs
          · exact ih.mp (by omega) v (by omega)
        · intro h
          have := ih.mpr fun v hv => h v (by omega)
          omega
def Singles (m : Nat) (ds : Ed) : Prop := ∀ u v, u < m → v < m → (blk m ds u).testBit v = true → u = v
theorem singles_iff {m : Nat} (h5 : m ≤ 5) {ds : Ed} (hd : InR m ds) : (blocksF m ds).length = m ↔ Singles m ds := by
  rw [blocksF, blocks_len_eq]
  constructor
  · intro h
    have key : ∀ u v, u < v → v < m → (blk m ds u).testBit v = true → False := by
      intro u v huv hv hb
      have h1 := h v hv
      have h2 := seen_all h5 hd v (by omega) u huv v hb
      rw [h1] at h2; exact absurd h2 (by simp)
    intro u v hu hv hb
    rcases Nat.lt_trichotomy u v with h1 | h1 | h1
    · exact (key u v h1 hv hb).elim
    · exact h1
    · exact (key v u h1 hu (by rw [blk_symm h5 hd hv hu] at hb; exact hb)).elim
  · intro h v hv
    cases hs : (blocksUpto (blk m ds) v).2.testBit v with
    | false => rfl
    | true =>
      obtain ⟨w, h1, h2⟩ := seen_bit v v hs
      have := h w v (by omega) hv h2; omega
theorem close_iff_blk {m : Nat} (h5 : m ≤ 5) {ds : Ed} (hd : InR m ds) {u v : Nat} (hu : u < m) (hv : v < m) (h : (blk m ds u).testBit v = true) :
    (close (rowsOf m ds) (2 ^ u)).testBit v = true ∧ (close (rowsOf m ds) (2 ^ v)).testBit u = true := by
  rw [blk_bit h5 hd hv hu] at h
  simpa using h
theorem plain_singles {m : Nat} (h5 : m ≤ 5) {ds : Ed} (hd : InR m ds) (hp : Peel m ds 0) : Singles m ds := by
  intro u v hu hv hb
  apply Classical.byContradiction
  intro hne
  have hlt := blk_lt h5 hd hu
  have h0 := Peel.none hd hp hlt (fun x hx => by
    have hxm := bit_lt hlt hx
    obtain ⟨y, hym, hyx, hy⟩ : ∃ y, y < m ∧ y ≠ x ∧ (blk m ds u).testBit y = true := by
      by_cases e : x = u
      · exact ⟨v, hv, fun h => hne (by omega), hb⟩
      · exact ⟨u, hu, fun h => e h.symm, blk_self m ds u⟩
    have hyxb : (blk m ds y).testBit x = true := by rw [← blk_eq h5 hd hu hym hy]; exact hx
    have hcl := close_iff_blk h5 hd hym hxm hyxb
    apply Classical.byContradiction
    intro hno
    have hclosed : Closed ds (andn (close (rowsOf m ds) (2 ^ y)) (2 ^ x)) := by
      intro e he h1
      rw [andn_bit] at h1 ⊢
      simp only [Bool.and_eq_true, Bool.not_eq_true'] at h1 ⊢
      have h2 := close_closed h5 hd hym e he h1.1
      refine ⟨h2, ?_⟩
      rw [Nat.testBit_two_pow]
      apply decide_eq_false
      intro hxe
      -- the edge's head is x: its tail lies in the block
      have hr := hd e he
      have t1 : (close (rowsOf m ds) (2 ^ e.1)).testBit x = true := by rw [hxe]; exact close_edge h5 hd he
      have t2 : (close (rowsOf m ds) (2 ^ e.1)).testBit y = true := close_trans h5 hd hr.1 t1 y hcl.2
      have t3 : (blk m ds y).testBit e.1 = true := by rw [blk_bit h5 hd hr.1 hym, h1.1, t2]; rfl
      have t4 : (blk m ds u).testBit e.1 = true := by rw [blk_eq h5 hd hu hym hy]; exact t3
      exact hno ⟨e, he, hxe.symm, t4⟩
    have hsub := close_le hd (v := y) (t := andn (close (rowsOf m ds) (2 ^ y)) (2 ^ x)) (by
      rw [andn_bit, close_self, Nat.testBit_two_pow]; simp; exact fun h => hyx h.symm) hclosed
    have := hsub x hcl.1
    rw [andn_bit, Nat.testBit_two_pow] at this
    simp at this)
  have := blk_self m ds u
  rw [h0] at this; simp at this
theorem singles_plain {m : Nat} (h5 : m ≤ 5) {ds : Ed} (hd : InR m ds) (hn : ∀ e ∈ ds, e.1 ≠ e.2) (h : Singles m ds) : plainF m (rowsOf m ds) = true := by
  have hfull : 2 ^ m - 1 < 2 ^ m := Nat.sub_lt (Nat.two_pow_pos m) (by omega)
  have d1 : Peel m ds (dropN m (rowsOf m ds) m (2 ^ m - 1)) := dropN_peel hd m Peel.all
  have d2 := dropN_stuck h5 hd m (2 ^ m - 1) hfull (pc5_le_n m (by omega) _ hfull)
  rw [plainF, beq_iff_eq]
  generalize dropN m (rowsOf m ds) m (2 ^ m - 1) = t at d1 d2
  have key : ∀ n v, t.testBit v = true → pc5 (close (rowsOf m ds) (2 ^ v)) ≤ n → False := by
    intro n
    induction n with
    | zero =>
      intro v hv hp
      have hvm := bit_lt d1.lt hv
      have hc := pow5 h5 (close_lt_n h5 hd hvm)
      have hz : pc5 (close (rowsOf m ds) (2 ^ v)) = 0 := by omega
      have : close (rowsOf m ds) (2 ^ v) = 0 := (pc5_zero _ hc).mp hz
      have h2 := close_self (rowsOf m ds) v
      rw [this] at h2; simp at h2
    | succ n ih =>
      intro v hv hp
      have hvm := bit_lt d1.lt hv
      obtain ⟨⟨a, w⟩, he, e1, e2⟩ := d2 v hv
      simp only at e1 e2
      subst e1
      have hwm := bit_lt d1.lt e2
      have hedge := close_edge h5 hd he
      have hsub := close_trans h5 hd hvm hedge
      have hc1 := pow5 h5 (close_lt_n h5 hd hvm)
      have hc2 := pow5 h5 (close_lt_n h5 hd hwm)
      by_cases e : close (rowsOf m ds) (2 ^ w) = close (rowsOf m ds) (2 ^ a)
      · have hb : (blk m ds a).testBit w = true := by
          rw [blk_bit h5 hd hwm hvm, hedge, e, close_self]; rfl
        exact hn _ he (h a w hvm hwm hb)
      · have := pc5_lt _ hc2 _ hc1 hsub.and e
        exact ih w e2 (by omega)
  apply Classical.byContradiction
  intro hz
  obtain ⟨v, hv⟩ := exists_bit hz
  exact key _ v hv (Nat.le_refl _)

/-! full directions: blocks are parts -/
theorem parts_blocks (rows : List Nat) (f : Nat → Nat) : ∀ k, (∀ v, v < k → f v = close rows (2 ^ v)) →
    (List.range k).foldl (partsStep rows) (0, 0) = ((blocksUpto f k).1.length, (blocksUpto f k).2)
  | 0, _ => rfl
  | k + 1, h => by
      rw [List.range_succ, List.foldl_append, parts_blocks rows f k fun v hv => h v (by omega)]
      simp only [List.foldl_cons, List.foldl_nil]
      rw [blocksUpto, blkStep, partsStep, h k (by omega)]
      cases (blocksUpto f k).2.testBit k <;> simp
theorem parts_of_blocks (m : Nat) (l : Ed) (f : Nat → Nat) (h : ∀ v, v < m → f v = close (rowsOf m (sym l)) (2 ^ v)) : (blocksUpto f m).1.length = partsF m l := by
  rw [partsF, parts_blocks _ f m h]
end Go.Proofs.Ytjklkphhfkdkpaa.Gw
end
