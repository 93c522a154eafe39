/-
  Acyclic, strong and full directions told by packed rows.
-/
import Derived.Test.YtjklkphhfkdkpaaCoreB
import Derived.Test.YtjklkphhfkdkpaaCoreT
section
namespace Go.Proofs.Ytjklkphhfkdkpaa.Gw
/-! rows packed into one number: the same sets -/
theorem adjA_bit : ∀ (es : Ed) (o k : Nat), (adjA es o).testBit k = true ↔ ∃ e ∈ dirs es o, 5 * e.1 + e.2 = k
  | [], o, k => by simp [adjA, dirs]
  | e :: es, o, k => by
      have hb : Nat.beq (o % 2) 1 = o.testBit 0 := by
        rw [Nat.testBit_zero]
        rcases Nat.mod_two_eq_zero_or_one o with h | h <;> rw [h] <;> rfl
      rw [adjA, Nat.testBit_or, Bool.or_eq_true, adjA_bit es (o / 2) k, dirs, hb]
      simp only [List.mem_cons, exists_eq_or_imp]
      cases o.testBit 0
      · simp only [cond_false, Nat.testBit_two_pow, decide_eq_true_eq]
      · simp only [cond_true, Nat.testBit_two_pow, decide_eq_true_eq]
theorem rowA_bit {es : Ed} {o m : Nat} (hm : m ≤ 5) (hd : InR m (dirs es o)) (v b : Nat) (hv : v < 5) : (rowA (adjA es o) v).testBit b = true ↔ (v, b) ∈ dirs es o := by
  unfold rowA
  rw [Nat.testBit_and, Nat.testBit_shiftRight, show (31 : Nat) = 2 ^ 5 - 1 from rfl, full_bit, Bool.and_eq_true, adjA_bit, decide_eq_true_eq]
  constructor
  · rintro ⟨⟨⟨x, y⟩, he, hk⟩, hb⟩
    have hr := hd _ he
    simp only at hk hr
    have : x = v := by omega
    subst this
    have : y = b := by omega
    subst this; exact he
  · intro he
    have hr := hd _ he
    exact ⟨⟨_, he, rfl⟩, by simp only at hr; omega⟩
theorem rowA_eq {es : Ed} {o m : Nat} (hm : m ≤ 5) (hd : InR m (dirs es o)) (v : Nat) (hv : v < 5) : rowA (adjA es o) v = (rowsOf m (dirs es o)).getD v 0 := by
  apply Nat.eq_of_testBit_eq; intro b
  rw [Bool.eq_iff_iff, rowA_bit hm hd v b hv, rowsOf_bit hd]

/-! acyclic, fast -/
def dvA (A s v : Nat) : Nat := bif Nat.beq (Nat.land (Nat.shiftRight A (5 * v)) s) 0 then s ^^^ (s &&& 2 ^ v) else s
def sweepA (A s : Nat) : Nat := dvA A (dvA A (dvA A (dvA A (dvA A s 0) 1) 2) 3) 4
def sweepK (A : Nat) (k : Nat → Bool) (s : Nat) : Bool := force (sweepA A s) fun t => bif Nat.beq t 0 then true else bif Nat.beq t s then false else k t
def plainQ (A s : Nat) : Bool := sweepK A (sweepK A (sweepK A (sweepK A (sweepK A (fun _ => false))))) s
theorem beq_eq (a b : Nat) : Nat.beq a b = (a == b) := by rw [Bool.eq_iff_iff, Nat.beq_eq, beq_iff_eq]
theorem dvA_eq {es : Ed} {o m : Nat} (hm : m ≤ 5) (hd : InR m (dirs es o)) {s : Nat} (hs : s < 32) (v : Nat) (hv : v < 5) : dvA (adjA es o) s v = dropV (rowsOf m (dirs es o)) s v := by
  unfold dvA dropV
  have h1 : Nat.land (Nat.shiftRight (adjA es o) (5 * v)) s = (rowsOf m (dirs es o)).getD v 0 &&& s := by
    rw [← rowA_eq hm hd v hv]
    show (adjA es o >>> (5 * v)) &&& s = _
    unfold rowA
    apply Nat.eq_of_testBit_eq; intro i
    rw [Nat.testBit_and, Nat.testBit_and, Nat.testBit_and, show (31 : Nat) = 2 ^ 5 - 1 from rfl, full_bit]
    cases hi : s.testBit i with
    | false => simp
    | true => have := bit_lt (n := 5) hs hi; simp [this]
  rw [h1, beq_eq]; rfl
/-- beyond the nodes nothing is dropped -/
theorem dropV_out {m : Nat} {ds : Ed} {s v : Nat} (hs : s < 2 ^ m) (hv : m ≤ v) : dropV (rowsOf m ds) s v = s := by
  unfold dropV
  cases ((rowsOf m ds).getD v 0 &&& s) == 0 with
  | false => rfl
  | true =>
    simp only [cond_true]
    apply andn_same
    cases h : s.testBit v with
    | false => rfl
    | true => have := bit_lt hs h; omega
theorem dropV_lt (rows : List Nat) {s n : Nat} (v : Nat) (h : s < 2 ^ n) : dropV rows s v < 2 ^ n :=
  lt_two_pow_of_bits fun b hb => bit_lt h (dropV_sub rows s v b hb)
theorem dropS_lt2 (rows : List Nat) (k : Nat) {s n : Nat} (h : s < 2 ^ n) : dropS rows k s < 2 ^ n :=
  lt_two_pow_of_bits fun b hb => bit_lt h (dropS_sub rows k s b hb)
theorem dropS_five {m : Nat} (hm : m ≤ 5) {ds : Ed} {s : Nat} (hs : s < 2 ^ m) : dropS (rowsOf m ds) 5 s = dropS (rowsOf m ds) m s := by
  have key : ∀ k, m ≤ k → dropS (rowsOf m ds) k s = dropS (rowsOf m ds) m s := by
    intro k
    induction k with
    | zero => intro h; have : m = 0 := by omega
              subst this; rfl
    | succ k ih =>
      intro h
      by_cases e : m = k + 1
      · rw [e]
      · rw [dropS, ih (by omega)]
        exact dropV_out (dropS_lt2 _ m hs) (by omega)
  exact key 5 hm
theorem sweepA_eq {es : Ed} {o m : Nat} (hm : m ≤ 5) (hd : InR m (dirs es o)) {s : Nat} (hs : s < 2 ^ m) : sweepA (adjA es o) s = dropS (rowsOf m (dirs es o)) m s := by
  rw [← dropS_five hm hs]
  have h32 := pow5 hm hs
  have l : ∀ k, dropS (rowsOf m (dirs es o)) k s < 32 := fun k => pow5 hm (dropS_lt2 _ k hs)
  unfold sweepA
  rw [dvA_eq hm hd h32 0 (by omega)]
  have e1 : dropV (rowsOf m (dirs es o)) s 0 = dropS (rowsOf m (dirs es o)) 1 s := rfl
  rw [e1, dvA_eq hm hd (l 1) 1 (by omega)]
  have e2 : dropV (rowsOf m (dirs es o)) (dropS (rowsOf m (dirs es o)) 1 s) 1 = dropS (rowsOf m (dirs es o)) 2 s := rfl
  rw [e2, dvA_eq hm hd (l 2) 2 (by omega)]
  have e3 : dropV (rowsOf m (dirs es o)) (dropS (rowsOf m (dirs es o)) 2 s) 2 = dropS (rowsOf m (dirs es o)) 3 s := rfl
  rw [e3, dvA_eq hm hd (l 3) 3 (by omega)]
  have e4 : dropV (rowsOf m (dirs es o)) (dropS (rowsOf m (dirs es o)) 3 s) 3 = dropS (rowsOf m (dirs es o)) 4 s := rfl
  rw [e4, dvA_eq hm hd (l 4) 4 (by omega)]; rfl
/-- rounds that stop early -/
def rounds (m : Nat) (rows : List Nat) : Nat → Nat → Bool
  | 0, _ => false
  | k + 1, s => bif dropS rows m s == 0 then true else bif dropS rows m s == s then false else rounds m rows k (dropS rows m s)
theorem dropN_zero {m : Nat} (rows : List Nat) : ∀ k, dropN m rows k 0 = 0
  | 0 => rfl
  | k + 1 => by
      have h : dropS rows m 0 = 0 := by
        apply eq_zero_of_bits; intro i
        cases h : (dropS rows m 0).testBit i with
        | false => rfl
        | true => have := dropS_sub rows m 0 i h; simp at this
      rw [dropN, h]; exact dropN_zero rows k
theorem dropN_fix {m : Nat} {rows : List Nat} {s : Nat} (h : dropS rows m s = s) : ∀ k, dropN m rows k s = s
  | 0 => rfl
  | k + 1 => by rw [dropN, h]; exact dropN_fix h k
theorem rounds_eq {m : Nat} (hm : m ≤ 5) (rows : List Nat) : ∀ (k s : Nat), s < 2 ^ m → pc5 s ≤ k → s ≠ 0 → rounds m rows k s = (dropN m rows k s == 0)
  | 0, s, h, hp, h0 => by
      have := (pc5_zero s (pow5 hm h)).mp (by omega)
      exact absurd this h0
  | k + 1, s, h, hp, h0 => by
      have hl := dropS_lt2 rows m h
      rw [rounds, dropN]
      by_cases e1 : dropS rows m s = 0
      · rw [e1, dropN_zero]; rfl
      · by_cases e2 : dropS rows m s = s
        · rw [e2, dropN_fix e2]
          have : (s == 0) = false := by simpa using h0
          rw [this]; simp
        · have hpc := pc5_lt _ (pow5 hm hl) _ (pow5 hm h) (dropS_sub rows m s).and e2
          have a1 : (dropS rows m s == 0) = false := by simpa using e1
          have a2 : (dropS rows m s == s) = false := by simpa using e2
          rw [a1, a2]
          exact rounds_eq hm rows k _ hl (by omega) e1
theorem dropN_more {m : Nat} (hm : m ≤ 5) {ds : Ed} (hd : InR m ds) : (dropN m (rowsOf m ds) 5 (2 ^ m - 1) == 0) = plainF m (rowsOf m ds) := by
  have hf : 2 ^ m - 1 < 2 ^ m := Nat.sub_lt (Nat.two_pow_pos m) (by omega)
  have a1 : Peel m ds (dropN m (rowsOf m ds) 5 (2 ^ m - 1)) := dropN_peel hd 5 Peel.all
  have a2 := dropN_stuck hm hd 5 (2 ^ m - 1) hf (pc5_le _ (pow5 hm hf))
  have b1 : Peel m ds (dropN m (rowsOf m ds) m (2 ^ m - 1)) := dropN_peel hd m Peel.all
  have b2 := dropN_stuck hm hd m (2 ^ m - 1) hf (pc5_le_n m (by omega) _ hf)
  have c1 : Peel m (rev ds) (dropN m (rowsOf m (rev ds)) m (2 ^ m - 1)) := dropN_peel hd.rev m Peel.all
  have c2 := dropN_stuck hm hd.rev m (2 ^ m - 1) hf (pc5_le_n m (by omega) _ hf)
  rw [plainF, Bool.eq_iff_iff, beq_iff_eq, beq_iff_eq]
  constructor
  · intro h
    have h1 := peel_turn hd a1 c1 c2 h
    exact peel_turn hd.rev c1 (by rw [rev_rev]; exact b1) (by rw [rev_rev]; exact b2) h1
  · intro h
    have h1 := peel_turn hd b1 c1 c2 h
    exact peel_turn hd.rev c1 (by rw [rev_rev]; exact a1) (by rw [rev_rev]; exact a2) h1
theorem plainQ_eq {es : Ed} {o m : Nat} (h1 : 1 ≤ m) (hm : m ≤ 5) (hd : InR m (dirs es o)) : plainQ (adjA es o) (2 ^ m - 1) = plainF m (rowsOf m (dirs es o)) := by
  have hf : 2 ^ m - 1 < 2 ^ m := Nat.sub_lt (Nat.two_pow_pos m) (by omega)
  have h2 : 2 ≤ 2 ^ m := Nat.pow_le_pow_right (n := 2) (i := 1) (by omega) h1
  have step : ∀ (K : Nat → Bool) (k s : Nat), s < 2 ^ m → (∀ t, t < 2 ^ m → K t = rounds m (rowsOf m (dirs es o)) k t) → sweepK (adjA es o) K s = rounds m (rowsOf m (dirs es o)) (k + 1) s := by
    intro K k s hs hK
    unfold sweepK
    rw [force_eq, sweepA_eq hm hd hs, rounds, beq_eq, beq_eq, hK _ (dropS_lt2 _ m hs)]
  rw [← dropN_more hm hd, ← rounds_eq hm _ 5 _ hf (pc5_le _ (pow5 hm hf)) (by omega)]
  unfold plainQ
  refine step _ 4 _ hf fun t ht => step _ 3 t ht fun t ht => step _ 2 t ht fun t ht => step _ 1 t ht fun t ht => step _ 0 t ht fun t ht => rfl
end Go.Proofs.Ytjklkphhfkdkpaa.Gw
end
section
namespace Go.Proofs.Ytjklkphhfkdkpaa.Gw
/-! sinks, reach, strong and full, fast -/
theorem sinksA_bit (A : Nat) : ∀ n b, (sinksA A n).testBit b = true ↔ (b < n ∧ rowA A b = 0)
  | 0, b => by simp [sinksA]
  | n + 1, b => by
      rw [sinksA, Nat.testBit_or, Bool.or_eq_true, sinksA_bit A n b, beq_eq]
      by_cases h0 : rowA A n = 0
      · rw [show (rowA A n == 0) = true by simpa using h0, cond_true, Nat.testBit_two_pow, decide_eq_true_eq]
        constructor
        · rintro (h | h)
          · subst h; exact ⟨by omega, h0⟩
          · exact ⟨by omega, h.2⟩
        · rintro ⟨h1, h2⟩
          by_cases e : n = b
          · exact .inl e
          · exact .inr ⟨by omega, h2⟩
      · rw [show (rowA A n == 0) = false by simpa using h0, cond_false]
        constructor
        · rintro (h | h)
          · simp at h
          · exact ⟨by omega, h.2⟩
        · rintro ⟨h1, h2⟩
          by_cases e : n = b
          · subst e; exact absurd h2 h0
          · exact .inr ⟨by omega, h2⟩
theorem sinksA_eq {es : Ed} {o m : Nat} (hm : m ≤ 5) (hd : InR m (dirs es o)) : sinksA (adjA es o) m = sinksF (rowsOf m (dirs es o)) := by
  apply Nat.eq_of_testBit_eq; intro b
  rw [Bool.eq_iff_iff, sinksA_bit, sinksF_bit]
  constructor
  · rintro ⟨h1, h2⟩
    rw [rowA_eq hm hd b (by omega), List.getD_eq_getElem?_getD, List.getElem?_eq_getElem (show b < (rowsOf m (dirs es o)).length by rw [rowsOf_length]; exact h1)] at h2
    rw [List.getElem?_eq_getElem (show b < (rowsOf m (dirs es o)).length by rw [rowsOf_length]; exact h1)]
    simpa using h2
  · intro h
    have hb := (List.getElem?_eq_some_iff.mp h).1
    rw [rowsOf_length] at hb
    refine ⟨hb, ?_⟩
    rw [rowA_eq hm hd b (by omega), List.getD_eq_getElem?_getD, h]; rfl
theorem dirs_rev : ∀ (es : Ed) (o : Nat), dirs (rev es) o = rev (dirs es o)
  | [], _ => rfl
  | e :: es, o => by
      have ih := dirs_rev es (o / 2)
      simp only [rev, List.map_cons, dirs] at ih ⊢
      rw [ih]
      cases o.testBit 0 <;> rfl
def addRow (A s v t : Nat) : Nat := bif Nat.testBit s v then t ||| rowA A v else t
def stepA (A s : Nat) : Nat := addRow A s 4 (addRow A s 3 (addRow A s 2 (addRow A s 1 (addRow A s 0 s))))
def closeA (A s : Nat) : Nat := force (stepA A s) fun a => force (stepA A a) fun b => force (stepA A b) fun c => stepA A c
theorem addRow_bit (A s v t b : Nat) : (addRow A s v t).testBit b = true ↔ (t.testBit b = true ∨ (s.testBit v = true ∧ (rowA A v).testBit b = true)) := by
  unfold addRow
  cases s.testBit v <;> simp [Nat.testBit_or]
theorem stepA_eq {es : Ed} {o m : Nat} (hm : m ≤ 5) (hd : InR m (dirs es o)) (s : Nat) : stepA (adjA es o) s = step (rowsOf m (dirs es o)) s := by
  apply Nat.eq_of_testBit_eq; intro b
  rw [Bool.eq_iff_iff, testBit_step]
  unfold stepA
  rw [addRow_bit, addRow_bit, addRow_bit, addRow_bit, addRow_bit]
  have hrow : ∀ v, v < 5 → ((rowA (adjA es o) v).testBit b = true ↔ (v, b) ∈ dirs es o) := fun v hv => rowA_bit hm hd v b hv
  have hex : (∃ i r, (rowsOf m (dirs es o))[i]? = some r ∧ s.testBit i = true ∧ r.testBit b = true) ↔ ∃ i, s.testBit i = true ∧ (i, b) ∈ dirs es o := by
    constructor
    · rintro ⟨i, r, h1, h2, h3⟩
      exact ⟨i, h2, (rowsOf_bit hd i b).mp (by rw [List.getD_eq_getElem?_getD, h1]; exact h3)⟩
    · rintro ⟨i, h2, h3⟩
      have hi := (hd _ h3).1
      have hl : i < (rowsOf m (dirs es o)).length := by rw [rowsOf_length]; exact hi
      refine ⟨i, (rowsOf m (dirs es o))[i], List.getElem?_eq_getElem hl, h2, ?_⟩
      have := (rowsOf_bit hd i b).mpr h3
      rwa [List.getD_eq_getElem?_getD, List.getElem?_eq_getElem hl] at this
  rw [hex, hrow 0 (by omega), hrow 1 (by omega), hrow 2 (by omega), hrow 3 (by omega), hrow 4 (by omega)]
  constructor
  · rintro (((((h | h) | h) | h) | h) | h)
    · exact .inl h
    · exact .inr ⟨0, h⟩
    · exact .inr ⟨1, h⟩
    · exact .inr ⟨2, h⟩
    · exact .inr ⟨3, h⟩
    · exact .inr ⟨4, h⟩
  · rintro (h | ⟨i, h1, h2⟩)
    · exact .inl (.inl (.inl (.inl (.inl h))))
    · have hi := (hd _ h2).1
      rcases (show i = 0 ∨ i = 1 ∨ i = 2 ∨ i = 3 ∨ i = 4 by simp only at hi; omega) with e | e | e | e | e <;> subst e
      · exact .inl (.inl (.inl (.inl (.inr ⟨h1, h2⟩))))
      · exact .inl (.inl (.inl (.inr ⟨h1, h2⟩)))
      · exact .inl (.inl (.inr ⟨h1, h2⟩))
      · exact .inl (.inr ⟨h1, h2⟩)
      · exact .inr ⟨h1, h2⟩
theorem closeA_eq {es : Ed} {o m : Nat} (hm : m ≤ 5) (hd : InR m (dirs es o)) (s : Nat) : closeA (adjA es o) s = close (rowsOf m (dirs es o)) s := by
  unfold closeA close
  simp only [force_eq, stepA_eq hm hd]
def strongQ (A R m : Nat) : Bool := Nat.beq (Nat.land (closeA A 1) (closeA R 1)) (2 ^ m - 1)
theorem strongQ_eq {es : Ed} {o m : Nat} (hm : m ≤ 5) (hd : InR m (dirs es o)) : strongQ (adjA es o) (adjA (rev es) o) m = (blk m (dirs es o) 0 == 2 ^ m - 1) := by
  unfold strongQ
  rw [closeA_eq hm hd, closeA_eq (es := rev es) hm (by rw [dirs_rev]; exact hd.rev), dirs_rev, beq_eq]; rfl
def cloA (A : Nat) : Nat := closeA A 1 ||| (closeA A 2 <<< 5 ||| (closeA A 4 <<< 10 ||| (closeA A 8 <<< 15 ||| closeA A 16 <<< 20)))
def fullQ (A R : Nat) : Bool := force (cloA A) fun C => Nat.beq (Nat.land R C) R
theorem cloA_bit {es : Ed} {o m : Nat} (hm : m ≤ 5) (hd : InR m (dirs es o)) {u v : Nat} (hu : u < m) (hv : v < m) : (cloA (adjA es o)).testBit (5 * u + v) = (close (rowsOf m (dirs es o)) (2 ^ u)).testBit v := by
  have hc : ∀ w, w < m → close (rowsOf m (dirs es o)) (2 ^ w) < 32 := fun w hw => pow5 hm (close_lt_n hm hd hw)
  have hz : ∀ w i, w < 5 → 5 ≤ i → (close (rowsOf m (dirs es o)) (2 ^ w)).testBit i = false := by
    intro w i hw hi
    have : close (rowsOf m (dirs es o)) (2 ^ w) < 2 ^ 5 := close_lt (fun r h => pow5 hm (rowsOf_lt hd r h)) (Nat.pow_lt_pow_right (by omega) hw)
    exact Nat.testBit_lt_two_pow (Nat.lt_of_lt_of_le this (Nat.pow_le_pow_right (n := 2) (by omega) hi))
  unfold cloA
  rw [closeA_eq hm hd, closeA_eq hm hd, closeA_eq hm hd, closeA_eq hm hd, closeA_eq hm hd]
  simp only [Nat.testBit_or, Nat.testBit_shiftLeft]
  have e0 : (1 : Nat) = 2 ^ 0 := rfl
  have e1 : (2 : Nat) = 2 ^ 1 := rfl
  have e2 : (4 : Nat) = 2 ^ 2 := rfl
  have e3 : (8 : Nat) = 2 ^ 3 := rfl
  have e4 : (16 : Nat) = 2 ^ 4 := rfl
  have hv5 : v < 5 := by omega
  rcases (show u = 0 ∨ u = 1 ∨ u = 2 ∨ u = 3 ∨ u = 4 by omega) with e | e | e | e | e <;> subst e
  · have g1 : ¬ (5 * 0 + v ≥ 5) := by omega
    have g2 : ¬ (5 * 0 + v ≥ 10) := by omega
    have g3 : ¬ (5 * 0 + v ≥ 15) := by omega
    have g4 : ¬ (5 * 0 + v ≥ 20) := by omega
    simp [show ¬ 5 ≤ v by omega, show ¬ 10 ≤ v by omega, show ¬ 15 ≤ v by omega, show ¬ 20 ≤ v by omega]
  · have a := hz 0 (5 * 1 + v) (by omega) (by omega)
    simp only [Nat.pow_zero] at a
    rw [a]
    simp [show ¬ 10 ≤ 5 + v by omega, show ¬ 15 ≤ 5 + v by omega, show ¬ 20 ≤ 5 + v by omega]
  · have a := hz 0 (5 * 2 + v) (by omega) (by omega)
    have b := hz 1 (5 * 2 + v - 5) (by omega) (by omega)
    simp only [Nat.pow_zero, Nat.pow_one] at a b
    rw [a, b]
    simp [show ¬ 15 ≤ 10 + v by omega, show ¬ 20 ≤ 10 + v by omega]
  · have a := hz 0 (5 * 3 + v) (by omega) (by omega)
    have b := hz 1 (5 * 3 + v - 5) (by omega) (by omega)
    have c := hz 2 (5 * 3 + v - 10) (by omega) (by omega)
    simp only [Nat.pow_zero, Nat.pow_one, show (2 : Nat) ^ 2 = 4 from rfl] at a b c
    rw [a, b, c]
    simp [show ¬ 20 ≤ 15 + v by omega]
  · have a := hz 0 (5 * 4 + v) (by omega) (by omega)
    have b := hz 1 (5 * 4 + v - 5) (by omega) (by omega)
    have c := hz 2 (5 * 4 + v - 10) (by omega) (by omega)
    have d := hz 3 (5 * 4 + v - 15) (by omega) (by omega)
    simp only [Nat.pow_zero, Nat.pow_one, show (2 : Nat) ^ 2 = 4 from rfl, show (2 : Nat) ^ 3 = 8 from rfl] at a b c d
    rw [a, b, c, d]
    simp
theorem fullQ_eq {es : Ed} {o m : Nat} (hm : m ≤ 5) (hd : InR m (dirs es o)) : fullQ (adjA es o) (adjA (rev es) o) = fullF m (dirs es o) := by
  unfold fullQ
  rw [force_eq, beq_eq, Bool.eq_iff_iff, beq_iff_eq, fullF, List.all_eq_true]
  show ((adjA (rev es) o) &&& cloA (adjA es o)) = adjA (rev es) o ↔ _
  constructor
  · rintro h ⟨a, b⟩ he
    have hr := hd _ he
    have h1 : (adjA (rev es) o).testBit (5 * b + a) = true := (adjA_bit _ _ _).mpr ⟨(b, a), by rw [dirs_rev]; exact mem_rev.mpr he, rfl⟩
    have h2 : ((adjA (rev es) o) &&& cloA (adjA es o)).testBit (5 * b + a) = true := by rw [h]; exact h1
    rw [Nat.testBit_and, h1, Bool.true_and, cloA_bit hm hd hr.2 hr.1] at h2
    exact h2
  · intro h
    apply Nat.eq_of_testBit_eq; intro k
    rw [Nat.testBit_and]
    cases hk : (adjA (rev es) o).testBit k with
    | false => rfl
    | true =>
      obtain ⟨⟨b, a⟩, he, hkk⟩ := (adjA_bit _ _ _).mp hk
      rw [dirs_rev] at he
      have he' := mem_rev.mp he
      have hr := hd _ he'
      have := h _ he'
      simp only at hkk this
      rw [← hkk, cloA_bit hm hd hr.2 hr.1, this]; rfl
end Go.Proofs.Ytjklkphhfkdkpaa.Gw
end
