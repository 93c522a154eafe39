/-
  FnBlocks answers true: the strong blocks cut the nodes up, and are single nodes just if the direction is acyclic.
-/
import Derived.Test.YtomaibajmlfhhaaMFnBlocks
import Derived.Test.YtomaibajmlfhhaaPx86
import Derived.Test.YtomaibajmlfhhaaPx83
namespace Go.Proofs.Ytomaibajmlfhhaa.Pure
open Go Go.RowKit Go.Proofs.YtomaibajmlfhhaaW.PrintWords Go.Proofs.YtomaibajmlfhhaaW.PrintLast Go.Proofs.YtomaibajmlfhhaaW.PrintMore Go.Proofs.Ytomaibajmlfhhaa.P Go.Proofs.Ytomaibajmlfhhaa.Gw Go.Proofs.Ytomaibajmlfhhaa.Lk
set_option linter.unusedVariables false
set_option linter.unusedSimpArgs false
theorem blocks_loop {m : Nat} {es : Ed} (hv : Valid m es) {b : Nat} (hb : b < 2 ^ es.length) : ∀ d i : Nat, i + d = (blocksF m (dirs es b)).length →
    Ev (fun k => laws_FnBlocks.l0 k (b : Int) (toI (blocksF m (dirs es b))) ((orL 0 ((blocksF m (dirs es b)).take i) : Nat) : Int) (i : Int) (m : Int) (toS es)) true := by
  have h5 := hv.le
  have h1 := hv.pos
  have hR := dirs_inR hv.inR b
  have hp := impl_PlainIn_ev hv hb
  have hpl := blocks_plain h5 hR (dirs_noloop hv b)
  have hfull := blocks_full h5 hR
  have hcut : Cut (blocksF m (dirs es b)) := (blocks_cut h5 hR m (Nat.le_refl m)).2
  have hbl : ∀ x ∈ blocksF m (dirs es b), x < 2 ^ 62 := by
    intro x hx
    have h3 : Sub x (orL 0 (blocksF m (dirs es b))) := by
      have key : ∀ (l : List Nat) (s : Nat), Sub s (orL s l) ∧ ∀ x ∈ l, Sub x (orL s l) := by
        intro l
        induction l with
        | nil => intro s; exact ⟨fun i hi => hi, fun x hx => by simp at hx⟩
        | cons y l ih =>
          intro s
          obtain ⟨a1, a2⟩ := ih (s ||| y)
          refine ⟨fun i hi => a1 i (by rw [Nat.testBit_or, hi]; rfl), fun x hx => ?_⟩
          rcases List.mem_cons.mp hx with rfl | hx
          · exact fun i hi => a1 i (by rw [Nat.testBit_or, hi, Bool.or_true])
          · exact a2 x hx
      exact (key _ 0).2 x hx
    rw [hfull] at h3
    have : x < 2 ^ m := lt_two_pow_of_bits fun i hi => by have := h3 i hi; rw [full_bit] at this; simpa using this
    have h32 := pow5 h5 this; omega
  have hlen := blocksF_len hv b
  have hseen : ∀ i, orL 0 ((blocksF m (dirs es b)).take i) < 2 ^ 62 := by
    intro i
    induction i with
    | zero => exact Nat.two_pow_pos 62
    | succ i ih =>
      rw [List.take_add_one]
      cases hg : (blocksF m (dirs es b))[i]? with
      | none => simpa using ih
      | some y => simp only [Option.toList_some]; rw [orL_snoc]; exact Nat.or_lt_two_pow ih (hbl y (List.mem_of_getElem? hg))
  have h0 := Nat.two_pow_pos m
  have hf : 2 ^ m ≤ 32 := Nat.pow_le_pow_right (n := 2) (j := 5) (by omega) h5
  have hwm : wrap64 (((2 ^ m : Nat) : Int) - 1) = ((2 ^ m - 1 : Nat) : Int) := by
    clear hp hpl hfull hcut hbl hseen hb
    generalize 2 ^ m = p at *
    rw [wrap_id (by omega) (by omega)]; omega
  have hsh : wrap64 (shl .i64 1 (m : Int) - 1) = ((2 ^ m - 1 : Nat) : Int) := by rw [shl_nat (show m ≤ 61 by clear hp hpl hfull hcut hbl hseen hb hwm hf h0; omega), hwm]
  clear hb
  generalize blocksF m (dirs es b) = L at *
  have hI : ((toI L).length : Int) = (L.length : Int) := by rw [toI_length]
  clear hwm
  intro d
  induction d with
  | zero =>
    intro i hi
    obtain rfl : i = L.length := by clear hsh; omega
    rw [List.take_length, hfull]
    refine Ev.step (fun k => by
      simp only [laws_FnBlocks.l0]
      rw [if_neg (by rw [hI]; exact Int.lt_irrefl _), if_pos (Int.natCast_nonneg m), if_pos hsh.symm]) ?_
    refine Ev.bind hp ?_
    have : (((toI L).length : Int) == (m : Int)) = plainF m (rowsOf m (dirs es b)) := by
      rw [Bool.eq_iff_iff, beq_iff_eq, hI, ← hpl]; clear hsh; omega
    rw [this, beq_self_eq_true]; exact Ev.now _
  | succ d ih =>
    intro i hi
    have hk := ih (i + 1) (by clear hsh; omega)
    have hil : i < L.length := by clear hsh; omega
    have hrd : rd (toI L) (i : Int) = ((L.getD i 0 : Nat) : Int) := by
      unfold rd; rw [Int.toNat_natCast, toI, List.getD_eq_getElem?_getD, List.getElem?_map, List.getD_eq_getElem?_getD]; cases L[i]? <;> rfl
    have hw1 : wrap64 ((i : Int) + 1) = ((i + 1 : Nat) : Int) := by clear hsh; rw [wrap_id (by omega) (by omega)]; simp
    obtain ⟨c1, c2⟩ := hcut i hil
    have hmem : L.getD i 0 ∈ L := by rw [List.getD_eq_getElem?_getD, List.getElem?_eq_getElem hil]; exact List.getElem_mem hil
    have hx := hbl _ hmem
    have ha := and_nat (hseen i) hx
    have ho := or_nat (hseen i) hx
    have htk : orL 0 (L.take (i + 1)) = orL 0 (L.take i) ||| L.getD i 0 := by
      rw [List.take_add_one, List.getElem?_eq_getElem hil, Option.toList_some, orL_snoc, List.getD_eq_getElem?_getD, List.getElem?_eq_getElem hil]; rfl
    rw [htk] at hk
    have g1 : (i : Int) < ((toI L).length : Int) := by rw [hI]; exact Int.ofNat_lt.mpr hil
    have g2 : ¬ (((L.getD i 0 : Nat) : Int) = 0) := fun e => c1 (by exact_mod_cast e)
    refine Ev.step (fun k => ?_) hk
    simp only [laws_FnBlocks.l0]
    rw [if_pos g1, if_pos (Int.natCast_nonneg i), hrd, if_neg g2, ha, c2, if_pos (show ((0 : Nat) : Int) = 0 from rfl), ho, hw1]
theorem FnBlocks : laws_FnBlocks.Pure := by
  intro l0 hm hb hw
  apply Ev.rounds
  simp only [laws_FnBlocks.f]
  by_cases hbig : (l0.length : Int) > 1048576
  · simp only [if_pos hbig]; exact Ev.now true
  simp only [if_neg hbig]
  obtain ⟨m, xs, o, h1, h5, hl, he⟩ := one_ev (by omega) hw
  have hd : Ev (fun k => spec_DrawStrongBlocks.f k l0) ((m : Int), xs, o) := by unfold spec_DrawStrongBlocks.f; exact Ev.bind he (Ev.now _)
  refine Ev.bind hd ?_
  cases hin : wIn (m : Int) xs o with
  | false =>
    refine Ev.bind (impl_StrongBlocks_no hl hin) (Ev.bind (spec_StrongBlocks_no hl hin) ?_)
    simp only [bne_self_eq_false, Bool.false_eq_true, if_false, Bool.not_false]
    refine Ev.bind (sameInts_ev (by simp)) ?_
    simp only [if_true]
    refine Ev.step (fun k => by simp only [laws_FnBlocks.j0]; rfl) ?_
    simp only [if_true, beq_self_eq_true]
    exact Ev.bind (sameInts_ev (by simp)) (Ev.now _)
  | true =>
    obtain ⟨m', es, b, hmm, rfl, hv, rfl, hb'⟩ := wIn_valid hin
    obtain rfl : m = m' := by omega
    have hlen := blocksF_len hv b
    refine Ev.bind (impl_StrongBlocks_ev hv hb') (Ev.bind (spec_StrongBlocks_ev hv hb') ?_)
    simp only [bne_self_eq_false, Bool.false_eq_true, if_false, Bool.not_true]
    refine Ev.bind (sameInts_ev (by rw [toI_length]; omega)) ?_
    simp only [if_true]
    refine Ev.step (fun k => by simp only [laws_FnBlocks.j0]; rfl) ?_
    simp only [Bool.false_eq_true, if_false]
    exact blocks_loop hv hb' (blocksF m (dirs es b)).length 0 (by omega)
end Go.Proofs.Ytomaibajmlfhhaa.Pure
