/-
  ScoreRows of the program and of the reference tell the same, for every graph.
-/
import Derived.Test.YtjhedhpippppeaaLkIOut
import Derived.Test.YtjhedhpippppeaaLkRow
import Derived.Test.YtjhedhpippppeaaLkTurn
import Derived.Test.YtjhedhpippppeaaPx94
import Derived.Test.YtjhedhpippppeaaPx93
namespace Go.Proofs.Ytjhedhpippppeaa.Lk
open Go Go.RowKit Go.Proofs.YtjhedhpippppeaaW.PrintWords Go.Proofs.YtjhedhpippppeaaW.PrintLast Go.Proofs.YtjhedhpippppeaaW.PrintMore Go.Proofs.Ytjhedhpippppeaa.P Go.Proofs.Ytjhedhpippppeaa.Gw
set_option linter.unusedVariables false
set_option linter.unusedSimpArgs false
/-- the rows met below a number, each once -/
def met (f : Nat → List Nat) : Nat → List (List Nat)
  | 0 => []
  | o + 1 => bif (met f o).contains (f o) then met f o else met f o ++ [f o]
theorem met_mem (f : Nat → List Nat) : ∀ o, ∀ r ∈ met f o, ∃ b, r = f b
  | 0, r, h => by simp [met] at h
  | o + 1, r, h => by
      rw [met] at h
      cases hc : (met f o).contains (f o) with
      | true => rw [hc, cond_true] at h; exact met_mem f o r h
      | false =>
        rw [hc, cond_false] at h
        rcases List.mem_append.mp h with h | h
        · exact met_mem f o r h
        · exact ⟨o, List.mem_singleton.mp h⟩
theorem met_len (f : Nat → List Nat) : ∀ o, (met f o).length ≤ o
  | 0 => Nat.le_refl _
  | o + 1 => by
      have := met_len f o
      rw [met]
      cases (met f o).contains (f o) <;> simp <;> omega
theorem contains_map {α β : Type} [BEq α] [LawfulBEq α] [BEq β] [LawfulBEq β] {g : α → β} {x : α} : ∀ L : List α, (∀ y ∈ L, g x = g y → x = y) → (L.map g).contains (g x) = L.contains x
  | [], _ => rfl
  | a :: L, h => by
      rw [List.map_cons, List.contains_cons, List.contains_cons, contains_map L fun y hy => h y (List.mem_cons_of_mem _ hy)]
      congr 1
      rw [Bool.eq_iff_iff, beq_iff_eq, beq_iff_eq]
      exact ⟨h a List.mem_cons_self, fun e => by rw [e]⟩
/-- the rows of a graph's directions -/
def rowF (m : Nat) (es : Ed) (o : Nat) : List Nat := outsOf m (dirs es o)
def cRows (m : Nat) (es : Ed) : Nat := (met (rowF m es) (2 ^ es.length)).length
theorem lenSR {m : Nat} {es : Ed} (hv : Valid m es) : (toS es).length < 2 ^ 62 := by rw [toS_length]; have := hv.len; omega
/-! the program's side -/
def rowI (l : List Nat) : List Int := pad5 (toI l)
theorem toI_inj2 {a b : List Nat} (h : toI a = toI b) : a = b := (List.map_inj_right (fun x y e => Int.ofNat_inj.mp e)).mp h
theorem rowI_inj {a b : List Nat} (hl : a.length = b.length) (h : rowI a = rowI b) : a = b := by
  unfold rowI pad5 at h
  exact toI_inj2 (List.append_inj h (by rw [toI_length, toI_length]; exact hl)).1
theorem rowI_fits {l : List Nat} (h : ∀ u, l.getD u 0 < 16) : (rowI l).all fits = true := by
  rw [List.all_eq_true]
  intro x hx
  have key : ∀ n : Nat, n < 16 → fits (n : Int) = true := by decide
  rcases List.mem_append.mp hx with hx | hx
  · obtain ⟨n, hn, rfl⟩ := List.mem_map.mp hx
    obtain ⟨u, hu⟩ := List.getElem?_of_mem hn
    have := h u
    rw [List.getD_eq_getElem?_getD, hu] at this
    exact key n this
  · rw [(List.mem_replicate.mp hx).2]; exact key 0 (by decide)
theorem met_addR {m : Nat} (es : Ed) (o : Nat) : addR ((met (rowF m es) o).map rowI) (rowI (rowF m es o)) = (met (rowF m es) (o + 1)).map rowI := by
  have hc := contains_map (g := rowI) (x := rowF m es o) (met (rowF m es) o) (fun y hy e => by
    obtain ⟨b, rfl⟩ := met_mem _ o y hy
    exact rowI_inj (by unfold rowF; rw [outsOf_length, outsOf_length]) e)
  unfold addR
  rw [hc, met]
  cases (met (rowF m es) o).contains (rowF m es o) <;> simp
theorem implRows_l {m : Nat} {es : Ed} (hv : Valid m es) : ∀ d o : Nat, o + d = 2 ^ es.length →
    Ev (fun k => impl_ScoreRows.l0 k ((2 ^ es.length : Nat) : Int) (o : Int) ((met (rowF m es) o).map rowI) (m : Int) (toS es)) (((cRows m es : Nat) : Int), true) := by
  have h5 := hv.le
  have hp := pow_le hv.len
  intro d
  induction d with
  | zero =>
    intro o ho
    obtain rfl : o = 2 ^ es.length := by omega
    refine Ev.step (f := fun _ => some (((cRows m es : Nat) : Int), true)) (fun k => ?_) (Ev.now _)
    simp only [impl_ScoreRows.l0]
    rw [if_neg (Int.lt_irrefl _), List.length_map]; rfl
  | succ d ih =>
    intro o hod
    have ho : o < 2 ^ es.length := by omega
    have hk := ih (o + 1) (by omega)
    rw [← met_addR] at hk
    have hlen : (toI (rowF m es o)).length = m := by rw [toI_length]; exact outsOf_length m _
    have hacc : ((met (rowF m es) o).map rowI).length < 17592186044416 := by
      rw [List.length_map]; have := met_len (rowF m es) o; omega
    have hfit : (pad5 (toI (rowF m es o))).all fits = true := rowI_fits (fun u => outs_16 hv o u)
    have hw1 : wrap64 ((o : Int) + 1) = ((o + 1 : Nat) : Int) := by rw [wrap_id (by omega) (by omega)]; simp
    refine Ev.step (fun k => rfl) ?_
    simp only [impl_ScoreRows.l0, if_pos (Int.ofNat_lt.mpr ho)]
    refine Ev.bind (iOut_ev hv ho) ?_
    rw [show outsOf m (dirs es o) = rowF m es o from rfl]
    simp only [hlen, if_pos h5, hfit, if_true, if_pos hacc, hw1]
    exact hk
theorem impl_ScoreRows_no {n : Int} {ys : List S33} (hl : ys.length < 2 ^ 62) (hw : gOk n ys = false) : Ev (fun k => impl_ScoreRows.f k n ys) (0, false) := by
  unfold impl_ScoreRows.f; exact Ev.bind (impl_wayGraph hl) (by simpa [hw] using Ev.now _)
theorem impl_ScoreRows_ev {m : Nat} {es : Ed} (hv : Valid m es) : Ev (fun k => impl_ScoreRows.f k (m : Int) (toS es)) (((cRows m es : Nat) : Int), true) := by
  have h10 := hv.len
  unfold impl_ScoreRows.f
  refine Ev.bind (impl_wayGraph (lenSR hv)) ?_
  rw [valid_gOk_iff hv]
  simp only [if_true, toS_length, shl_nat (show es.length ≤ 61 by omega)]
  exact implRows_l hv (2 ^ es.length) 0 (Nat.zero_add _)
/-! the reference's side -/
def addN (S : List Nat) (r : Nat) : List Nat := bif S.contains r then S else S ++ [r]
theorem specRows_l1 (n : Int) (es : List S33) {o : Nat} (ho : o ≤ 1024) {r : Nat} {S : List Nat} (hS : S.length ≤ 1024) {R : Int × Bool} (h : Ev (fun k => spec_ScoreRows.l0 k (toI (addN S r)) ((o + 1 : Nat) : Int) n es) R) : ∀ d i : Nat, i + d = S.length →
    Ev (fun k => spec_ScoreRows.l1 k (toI S) (o : Int) (r : Int) (!(S.take i).contains r) (i : Int) n es) R := by
  intro d
  induction d with
  | zero =>
    intro i hi
    have hw1 : wrap64 ((o : Int) + 1) = ((o + 1 : Nat) : Int) := by rw [wrap_id (by omega) (by omega)]; simp
    have g1 : ¬ (i : Int) < ((toI S).length : Int) := by clear hw1; rw [toI_length]; omega
    have g2 : (toI S).length < 17592186044416 := by clear hw1; rw [toI_length]; omega
    rw [List.take_of_length_le (by omega)]
    refine Ev.step (fun k => ?_) h
    simp only [spec_ScoreRows.l1]
    rw [if_neg g1, hw1, addN]
    cases S.contains r with
    | true => rw [Bool.not_true, if_neg (by decide), cond_true]
    | false => rw [Bool.not_false, if_pos rfl, if_pos g2, cond_false, toI_snoc]
  | succ d ih =>
    intro i hi
    have hk := ih (i + 1) (by omega)
    have hil : i < S.length := by omega
    have hw1 : wrap64 ((i : Int) + 1) = ((i + 1 : Nat) : Int) := by rw [wrap_id (by omega) (by omega)]; simp
    have g1 : (i : Int) < ((toI S).length : Int) := by clear hw1; rw [toI_length]; omega
    have hrd : rd (toI S) (i : Int) = ((S[i] : Nat) : Int) := by rw [rd_toI, List.getD_eq_getElem?_getD, List.getElem?_eq_getElem hil]; rfl
    have ht : (S.take (i + 1)).contains r = ((S.take i).contains r || (S[i] == r)) := by
      rw [List.take_succ_eq_append_getElem hil, List.contains_append, List.contains_cons, List.contains_nil, Bool.or_false]
      congr 1
      rw [Bool.eq_iff_iff, beq_iff_eq, beq_iff_eq]; exact eq_comm
    rw [ht] at hk
    refine Ev.step (fun k => ?_) hk
    simp only [spec_ScoreRows.l1]
    rw [if_pos g1, hw1]
    cases (S.take i).contains r with
    | true => rw [Bool.not_true, if_neg (by decide), Bool.true_or]; rfl
    | false =>
      rw [Bool.not_false, if_pos rfl, if_pos (Int.natCast_nonneg i), hrd, Bool.false_or]
      have : (((S[i] : Nat) : Int) != (r : Int)) = !(S[i] == r) := by
        rw [Bool.eq_iff_iff, bne_iff_ne, Bool.not_eq_true', beq_eq_false_iff_ne]; omega
      rw [this]
def rowN (m : Nat) (l : List Nat) : Nat := rowU l m
theorem met_addN {m : Nat} {es : Ed} (hv : Valid m es) (o : Nat) : addN ((met (rowF m es) o).map (rowN m)) (rowN m (rowF m es o)) = (met (rowF m es) (o + 1)).map (rowN m) := by
  have hc := contains_map (g := rowN m) (x := rowF m es o) (met (rowF m es) o) (fun y hy e => by
    obtain ⟨b, rfl⟩ := met_mem _ o y hy
    exact (rowU_eq (fun u => outs_16 hv o u) (fun u => outs_16 hv b u) (outsOf_length m _) (outsOf_length m _)).mp e)
  unfold addN
  rw [hc, met]
  cases (met (rowF m es) o).contains (rowF m es o) <;> simp
theorem specRows_l0 {m : Nat} {es : Ed} (hv : Valid m es) : ∀ d o : Nat, o + d = 2 ^ es.length →
    Ev (fun k => spec_ScoreRows.l0 k (toI ((met (rowF m es) o).map (rowN m))) (o : Int) (m : Int) (toS es)) (((cRows m es : Nat) : Int), true) := by
  have hp := pow_le hv.len
  have h0 := Nat.two_pow_pos es.length
  intro d
  induction d with
  | zero =>
    intro o ho
    obtain rfl : o = 2 ^ es.length := by omega
    refine Ev.step (f := fun _ => some (((cRows m es : Nat) : Int), true)) (fun k => ?_) (Ev.now _)
    simp only [spec_ScoreRows.l0, all_eq hv, Option.bind_some]
    rw [if_neg (by omega), toI_length, List.length_map]; rfl
  | succ d ih =>
    intro o hod
    have ho : o < 2 ^ es.length := by omega
    have hk := ih (o + 1) (by omega)
    rw [← met_addN hv] at hk
    have hlen : ((met (rowF m es) o).map (rowN m)).length ≤ 1024 := by
      rw [List.length_map]; have := met_len (rowF m es) o; omega
    refine Ev.step (fun k => rfl) ?_
    simp only [spec_ScoreRows.l0, all_eq hv, Option.bind_some, if_pos (show (o : Int) ≤ ((2 ^ es.length - 1 : Nat) : Int) by omega)]
    refine Ev.bind (row_ev hv ho) ?_
    exact specRows_l1 (m : Int) (toS es) (by omega) hlen hk _ 0 (Nat.zero_add _)
theorem spec_ScoreRows_no {n : Int} {ys : List S33} (hl : ys.length < 2 ^ 62) (hw : gOk n ys = false) : Ev (fun k => spec_ScoreRows.f k n ys) (0, false) := by
  unfold spec_ScoreRows.f; exact Ev.bind (spec_wayGraph hl) (by simpa [hw] using Ev.now _)
theorem spec_ScoreRows_ev {m : Nat} {es : Ed} (hv : Valid m es) : Ev (fun k => spec_ScoreRows.f k (m : Int) (toS es)) (((cRows m es : Nat) : Int), true) := by
  unfold spec_ScoreRows.f
  refine Ev.bind (spec_wayGraph (lenSR hv)) ?_
  rw [valid_gOk_iff hv]
  simp only [if_true]
  exact specRows_l0 hv (2 ^ es.length) 0 (Nat.zero_add _)
theorem same_ScoreRows (n : Int) (ys : List S33) (hl : ys.length < 2 ^ 62) : ∃ r : Int × Bool, Ev (fun k => spec_ScoreRows.f k n ys) r ∧ Ev (fun k => impl_ScoreRows.f k n ys) r := by
  cases hw : gOk n ys with
  | false => exact ⟨_, spec_ScoreRows_no hl hw, impl_ScoreRows_no hl hw⟩
  | true =>
    obtain ⟨m, es, rfl, rfl, hv⟩ := gOk_valid hw
    exact ⟨_, spec_ScoreRows_ev hv, impl_ScoreRows_ev hv⟩
end Go.Proofs.Ytjhedhpippppeaa.Lk
