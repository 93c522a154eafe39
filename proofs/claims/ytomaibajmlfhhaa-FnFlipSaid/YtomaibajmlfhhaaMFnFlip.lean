/-
  FnFlip: what the program's functions and the reference's compute, joined from several texts.
-/
import Derived.Test.YtomaibajmlfhhaaOps
import Derived.Test.YtomaibajmlfhhaaPx9
import Derived.Test.YtomaibajmlfhhaaPx10
import Derived.Test.YtomaibajmlfhhaaPx6
import Derived.Test.YtomaibajmlfhhaaPx2
import Derived.Test.YtomaibajmlfhhaaPx3
import Derived.Test.YtomaibajmlfhhaaPx1
import Derived.Test.YtomaibajmlfhhaaPx30
import Derived.Test.YtomaibajmlfhhaaPx4
import Derived.Test.YtomaibajmlfhhaaPx17
import Derived.Test.YtomaibajmlfhhaaPx11
import Derived.Test.YtomaibajmlfhhaaPx7
import Derived.Test.YtomaibajmlfhhaaPx13
import Derived.Test.YtomaibajmlfhhaaPx14
import Derived.Test.YtomaibajmlfhhaaPx18
import Derived.Test.YtomaibajmlfhhaaPx19
import Derived.Test.YtomaibajmlfhhaaPx12
import Derived.Test.YtomaibajmlfhhaaPx8
section
/-
  WayGraph, of the program and of the reference: both tell 'gOk', for every graph; what is a graph is a sublist of all pairs.
-/
namespace Go.Proofs.Ytomaibajmlfhhaa.Lk
open Go Go.RowKit Go.Proofs.YtomaibajmlfhhaaW.PrintWords Go.Proofs.YtomaibajmlfhhaaW.PrintLast Go.Proofs.YtomaibajmlfhhaaW.PrintMore Go.Proofs.Ytomaibajmlfhhaa.P Go.Proofs.Ytomaibajmlfhhaa.Gw
set_option linter.unusedVariables false
set_option linter.unusedSimpArgs false

/-- edges as Go has them -/
def toS (es : Ed) : List S34 := es.map fun e => (⟨(e.1 : Int), (e.2 : Int)⟩ : S34)
theorem toS_length (es : Ed) : (toS es).length = es.length := by simp [toS]
theorem rd_toS (es : Ed) (i : Nat) : rd_T34 (toS es) (i : Int) = ⟨((es.getD i (0, 0)).1 : Int), ((es.getD i (0, 0)).2 : Int)⟩ := by
  simp [rd_T34, toS, List.getD_eq_getElem?_getD]; cases es[i]? <;> simp [z34]

theorem l6In_eq (a b c : Int) : spec_l6In.f a b c = some (decide (b ≤ a) && decide (a ≤ c)) := by
  unfold spec_l6In.f
  by_cases h : a ≥ b
  · rw [if_pos h]; simp [show b ≤ a from h]
  · rw [if_neg h]; simp [show ¬ b ≤ a from h]

def badAt (n : Int) (xs : List S34) (i : Nat) : Bool := decide ((xs.getD i z34).f0 < 0) || decide ((xs.getD i z34).f0 ≥ (xs.getD i z34).f1) || decide ((xs.getD i z34).f1 ≥ n)
def backAt (xs : List S34) (i : Nat) : Bool := decide (0 < i) && (decide ((xs.getD i z34).f0 < (xs.getD (i - 1) z34).f0) || (decide ((xs.getD i z34).f0 = (xs.getD (i - 1) z34).f0) && decide ((xs.getD i z34).f1 ≤ (xs.getD (i - 1) z34).f1)))
def okFrom (n : Int) (xs : List S34) : Nat → Nat → Bool
  | 0, _ => true
  | d + 1, i => !badAt n xs i && !backAt xs i && okFrom n xs d (i + 1)
def gOk (n : Int) (xs : List S34) : Bool := decide (1 ≤ n) && decide (n ≤ 5) && okFrom n xs xs.length 0

theorem impl_j2 {n : Int} {xs : List S34} (hl : xs.length < 2 ^ 62) {d i : Nat} (hi : i + (d + 1) = xs.length)
    (ih : Ev (fun k => impl_WayGraph.l0 k xs (xs.length : Int) ((i + 1 : Nat) : Int) n xs) (okFrom n xs d (i + 1))) :
    Ev (fun k => impl_WayGraph.j2 k (i : Int) xs (xs.length : Int) (i : Int) (badAt n xs i) n xs (xs.getD i z34).f0 (xs.getD i z34).f1) (okFrom n xs (d + 1) i) := by
  have hw1 : wrap64 ((i : Int) + 1) = ((i + 1 : Nat) : Int) := by rw [wrap_id (by omega) (by omega)]; simp
  rw [okFrom]
  cases hb : badAt n xs i with
  | true => exact Ev.step (f := fun _ => some false) (fun k => by simp only [impl_WayGraph.j2]; rw [if_pos trivial]) (by simpa using Ev.now false)
  | false =>
    by_cases h0 : 0 < i
    · have hw : wrap64 ((i : Int) - 1) = ((i - 1 : Nat) : Int) := by rw [wrap_id (by omega) (by omega)]; omega
      have hr : rd_T34 xs ((i - 1 : Nat) : Int) = xs.getD (i - 1) z34 := by simp [rd_T34]
      by_cases c1 : (xs.getD i z34).f0 < (xs.getD (i - 1) z34).f0
      · have hbk : backAt xs i = true := by simp only [backAt, h0, c1]; rfl
        rw [hbk]
        exact Ev.step (f := fun _ => some false) (fun k => by
          simp only [impl_WayGraph.j2]; rw [if_neg (by simp), if_pos (by omega), hw, if_pos (by omega), if_pos (by omega), hr, if_pos c1]) (by simpa using Ev.now false)
      · by_cases c2 : (xs.getD i z34).f0 = (xs.getD (i - 1) z34).f0
        · by_cases c3 : (xs.getD i z34).f1 ≤ (xs.getD (i - 1) z34).f1
          · have hbk : backAt xs i = true := by simp only [backAt, h0, c2, c3]; simp
            rw [hbk]
            exact Ev.step (f := fun _ => some false) (fun k => by
              simp only [impl_WayGraph.j2]; rw [if_neg (by simp), if_pos (by omega), hw, if_pos (by omega), if_pos (by omega), hr, if_neg c1, if_pos c2, if_pos c3]) (by simpa using Ev.now false)
          · have hbk : backAt xs i = false := by simp only [backAt, c1, c3]; simp
            rw [hbk]
            refine Ev.step (f := fun k => impl_WayGraph.l0 k xs (xs.length : Int) ((i + 1 : Nat) : Int) n xs) (fun k => by
              simp only [impl_WayGraph.j2]; rw [if_neg (by simp), if_pos (by omega), hw, if_pos (by omega), if_pos (by omega), hr, if_neg c1, if_pos c2, if_neg c3, hw1]) (by simpa using ih)
        · have hbk : backAt xs i = false := by simp only [backAt, c1, c2]; simp
          rw [hbk]
          refine Ev.step (f := fun k => impl_WayGraph.l0 k xs (xs.length : Int) ((i + 1 : Nat) : Int) n xs) (fun k => by
            simp only [impl_WayGraph.j2]; rw [if_neg (by simp), if_pos (by omega), hw, if_pos (by omega), if_pos (by omega), hr, if_neg c1, if_neg c2, hw1]) (by simpa using ih)
    · have hbk : backAt xs i = false := by simp only [backAt, h0]; simp
      rw [hbk]
      refine Ev.step (f := fun k => impl_WayGraph.l0 k xs (xs.length : Int) ((i + 1 : Nat) : Int) n xs) (fun k => by
        simp only [impl_WayGraph.j2]; rw [if_neg (by simp), if_neg (by omega), hw1]) (by simpa using ih)
theorem impl_l0 {n : Int} {xs : List S34} (hl : xs.length < 2 ^ 62) : ∀ d i : Nat, i + d = xs.length →
    Ev (fun k => impl_WayGraph.l0 k xs (xs.length : Int) (i : Int) n xs) (okFrom n xs d i) := by
  intro d
  induction d with
  | zero => intro i hi; exact Ev.step (f := fun _ => some true) (fun k => by simp only [impl_WayGraph.l0]; rw [if_neg (by omega)]) (Ev.now true)
  | succ d ih =>
    intro i hi
    refine Ev.step (f := fun k => impl_WayGraph.j2 k (i : Int) xs (xs.length : Int) (i : Int) (badAt n xs i) n xs (xs.getD i z34).f0 (xs.getD i z34).f1) (fun k => ?_) (impl_j2 hl hi (ih (i + 1) (by omega)))
    have hr : rd_T34 xs (i : Int) = xs.getD i z34 := by simp [rd_T34]
    simp only [impl_WayGraph.l0]
    rw [if_pos (by omega), if_pos (by omega), if_pos (by omega), hr]
    unfold badAt
    by_cases c1 : (xs.getD i z34).f0 < 0
    · rw [if_pos c1, decide_eq_true c1]; rfl
    · rw [if_neg c1]
      by_cases c2 : (xs.getD i z34).f0 ≥ (xs.getD i z34).f1
      · rw [if_pos c2, decide_eq_true c2]; simp
      · rw [if_neg c2, decide_eq_false c1, decide_eq_false c2]; simp
theorem impl_wayGraph {n : Int} {xs : List S34} (hl : xs.length < 2 ^ 62) : Ev (fun k => impl_WayGraph.f k n xs) (gOk n xs) := by
  unfold gOk
  by_cases h1 : n < 1
  · rw [decide_eq_false (show ¬ 1 ≤ n by omega)]
    refine Ev.congr (f := fun k => impl_WayGraph.j0 k true n xs) (fun k => by unfold impl_WayGraph.f; rw [if_pos h1]) ?_
    exact Ev.step (f := fun _ => some false) (fun k => by simp only [impl_WayGraph.j0]; rw [if_pos trivial]) (Ev.now false)
  · rw [decide_eq_true (show 1 ≤ n by omega)]
    refine Ev.congr (f := fun k => impl_WayGraph.j0 k (decide (n > 5)) n xs) (fun k => by unfold impl_WayGraph.f; rw [if_neg h1]) ?_
    by_cases h2 : n > 5
    · rw [decide_eq_true h2, decide_eq_false (show ¬ n ≤ 5 by omega)]
      exact Ev.step (f := fun _ => some false) (fun k => by simp only [impl_WayGraph.j0]; rw [if_pos trivial]) (Ev.now false)
    · rw [decide_eq_false h2, decide_eq_true (show n ≤ 5 by omega)]
      refine Ev.step (f := fun k => impl_WayGraph.l0 k xs (xs.length : Int) ((0 : Nat) : Int) n xs) (fun k => by simp only [impl_WayGraph.j0]; rw [if_neg (by simp)]; rfl) ?_
      simpa using impl_l0 (n := n) hl xs.length 0 (by omega)

theorem spec_j1 {n : Int} {xs : List S34} (hl : xs.length < 2 ^ 62) {d i : Nat} (hi : i + (d + 1) = xs.length) (r : Bool)
    (ih : Ev (fun k => spec_WayGraph.l0 k ((i + 1 : Nat) : Int) n xs) r) :
    Ev (fun k => spec_WayGraph.j1 k (i : Int) false n xs (xs.getD i z34).f0 (xs.getD i z34).f1) (!backAt xs i && r) := by
  have hw1 : wrap64 ((i : Int) + 1) = ((i + 1 : Nat) : Int) := by rw [wrap_id (by omega) (by omega)]; simp
  by_cases h0 : 0 < i
  · have hw : wrap64 ((i : Int) - 1) = ((i - 1 : Nat) : Int) := by rw [wrap_id (by omega) (by omega)]; omega
    have hr : rd_T34 xs ((i - 1 : Nat) : Int) = xs.getD (i - 1) z34 := by simp [rd_T34]
    by_cases c1 : (xs.getD i z34).f0 < (xs.getD (i - 1) z34).f0
    · have hbk : backAt xs i = true := by simp only [backAt, h0, c1]; rfl
      rw [hbk]
      exact Ev.step (f := fun _ => some false) (fun k => by
        simp only [spec_WayGraph.j1]; rw [if_neg (by simp), if_pos (by omega), hw, if_pos (by omega), if_pos (by omega), hr, if_pos c1]) (by simpa using Ev.now false)
    · by_cases c2 : (xs.getD i z34).f0 = (xs.getD (i - 1) z34).f0
      · by_cases c3 : (xs.getD i z34).f1 ≤ (xs.getD (i - 1) z34).f1
        · have hbk : backAt xs i = true := by simp only [backAt, h0, c2, c3]; simp
          rw [hbk]
          exact Ev.step (f := fun _ => some false) (fun k => by
            simp only [spec_WayGraph.j1]; rw [if_neg (by simp), if_pos (by omega), hw, if_pos (by omega), if_pos (by omega), hr, if_neg c1, if_pos c2, if_pos c3]) (by simpa using Ev.now false)
        · have hbk : backAt xs i = false := by simp only [backAt, c1, c3]; simp
          rw [hbk]
          refine Ev.step (f := fun k => spec_WayGraph.l0 k ((i + 1 : Nat) : Int) n xs) (fun k => by
            simp only [spec_WayGraph.j1]; rw [if_neg (by simp), if_pos (by omega), hw, if_pos (by omega), if_pos (by omega), hr, if_neg c1, if_pos c2, if_neg c3, hw1]) (by simpa using ih)
      · have hbk : backAt xs i = false := by simp only [backAt, c1, c2]; simp
        rw [hbk]
        refine Ev.step (f := fun k => spec_WayGraph.l0 k ((i + 1 : Nat) : Int) n xs) (fun k => by
          simp only [spec_WayGraph.j1]; rw [if_neg (by simp), if_pos (by omega), hw, if_pos (by omega), if_pos (by omega), hr, if_neg c1, if_neg c2, hw1]) (by simpa using ih)
  · have hbk : backAt xs i = false := by simp only [backAt, h0]; simp
    rw [hbk]
    refine Ev.step (f := fun k => spec_WayGraph.l0 k ((i + 1 : Nat) : Int) n xs) (fun k => by
      simp only [spec_WayGraph.j1]; rw [if_neg (by simp), if_neg (by omega), hw1]) (by simpa using ih)
theorem spec_l0_step {n : Int} {xs : List S34} {i : Nat} (hi : i < xs.length) : ∃ b : Bool,
    (b = (!(decide (0 ≤ (xs.getD i z34).f0) && decide ((xs.getD i z34).f0 ≤ wrap64 (n - 1)) && (decide (wrap64 ((xs.getD i z34).f0 + 1) ≤ (xs.getD i z34).f1) && decide ((xs.getD i z34).f1 ≤ wrap64 (n - 1)))))) ∧
    ∀ k, spec_WayGraph.l0 (k + 1) (i : Int) n xs = spec_WayGraph.j1 k (i : Int) b n xs (xs.getD i z34).f0 (xs.getD i z34).f1 := by
  refine ⟨_, rfl, fun k => ?_⟩
  have hr : rd_T34 xs (i : Int) = xs.getD i z34 := by simp [rd_T34]
  simp only [spec_WayGraph.l0]
  rw [if_pos (by omega), if_pos (by omega), hr, l6In_eq, l6In_eq]
  simp only [Option.bind_some]
  cases (decide (0 ≤ (xs.getD i z34).f0) && decide ((xs.getD i z34).f0 ≤ wrap64 (n - 1))) <;> simp
theorem spec_l0_ok {n : Int} (h1 : 1 ≤ n) (h5 : n ≤ 5) {xs : List S34} (hl : xs.length < 2 ^ 62) : ∀ d i : Nat, i + d = xs.length →
    Ev (fun k => spec_WayGraph.l0 k (i : Int) n xs) (okFrom n xs d i) := by
  intro d
  induction d with
  | zero =>
    intro i hi
    exact Ev.step (f := fun _ => some true) (fun k => by simp only [spec_WayGraph.l0]; rw [if_neg (by omega), l6In_eq]; simp [h1, h5]) (Ev.now true)
  | succ d ih =>
    intro i hi
    obtain ⟨b, hb, hs⟩ := spec_l0_step (n := n) (xs := xs) (i := i) (by omega)
    have hbad : b = badAt n xs i := by
      rw [hb]; unfold badAt
      rw [wrap_id (x := n - 1) (by omega) (by omega)]
      by_cases c1 : 0 ≤ (xs.getD i z34).f0
      · by_cases c2 : (xs.getD i z34).f0 ≤ n - 1
        · rw [wrap_id (x := (xs.getD i z34).f0 + 1) (by omega) (by omega), decide_eq_true c1, decide_eq_true c2, decide_eq_false (show ¬ (xs.getD i z34).f0 < 0 by omega)]
          by_cases c3 : (xs.getD i z34).f0 + 1 ≤ (xs.getD i z34).f1
          · rw [decide_eq_true c3, decide_eq_false (show ¬ (xs.getD i z34).f0 ≥ (xs.getD i z34).f1 by omega)]
            by_cases c4 : (xs.getD i z34).f1 ≤ n - 1
            · rw [decide_eq_true c4, decide_eq_false (show ¬ (xs.getD i z34).f1 ≥ n by omega)]; rfl
            · rw [decide_eq_false c4, decide_eq_true (show (xs.getD i z34).f1 ≥ n by omega)]; rfl
          · rw [decide_eq_false c3, decide_eq_true (show (xs.getD i z34).f0 ≥ (xs.getD i z34).f1 by omega)]; rfl
        · rw [decide_eq_true c1, decide_eq_false c2]
          by_cases c3 : (xs.getD i z34).f0 ≥ (xs.getD i z34).f1
          · rw [decide_eq_true c3]; simp
          · rw [decide_eq_true (show (xs.getD i z34).f1 ≥ n by omega)]; simp
      · rw [decide_eq_false c1, decide_eq_true (show (xs.getD i z34).f0 < 0 by omega)]; simp
    refine Ev.step (f := fun k => spec_WayGraph.j1 k (i : Int) b n xs (xs.getD i z34).f0 (xs.getD i z34).f1) hs ?_
    rw [okFrom, hbad]
    cases badAt n xs i with
    | true => exact Ev.step (f := fun _ => some false) (fun k => by simp only [spec_WayGraph.j1]; rw [if_pos trivial]) (by simpa using Ev.now false)
    | false => simpa using spec_j1 hl hi _ (ih (i + 1) (by omega))
theorem spec_l0_no {n : Int} (hn : ¬ (1 ≤ n ∧ n ≤ 5)) {xs : List S34} (hl : xs.length < 2 ^ 62) : ∀ d i : Nat, i + d = xs.length →
    Ev (fun k => spec_WayGraph.l0 k (i : Int) n xs) false := by
  intro d
  induction d with
  | zero =>
    intro i hi
    exact Ev.step (f := fun _ => some false) (fun k => by
      simp only [spec_WayGraph.l0]; rw [if_neg (by omega), l6In_eq]
      have : (decide (1 ≤ n) && decide (n ≤ 5)) = false := by
        by_cases h : 1 ≤ n
        · rw [decide_eq_false (show ¬ n ≤ 5 by omega)]; simp
        · rw [decide_eq_false h]; rfl
      rw [this]; rfl) (Ev.now false)
  | succ d ih =>
    intro i hi
    obtain ⟨b, hb, hs⟩ := spec_l0_step (n := n) (xs := xs) (i := i) (by omega)
    refine Ev.step (f := fun k => spec_WayGraph.j1 k (i : Int) b n xs (xs.getD i z34).f0 (xs.getD i z34).f1) hs ?_
    cases b with
    | true => exact Ev.step (f := fun _ => some false) (fun k => by simp only [spec_WayGraph.j1]; rw [if_pos trivial]) (by simpa using Ev.now false)
    | false => simpa using spec_j1 hl hi _ (ih (i + 1) (by omega))
theorem spec_wayGraph {n : Int} {xs : List S34} (hl : xs.length < 2 ^ 62) : Ev (fun k => spec_WayGraph.f k n xs) (gOk n xs) := by
  refine Ev.congr (f := fun k => spec_WayGraph.l0 k ((0 : Nat) : Int) n xs) (fun k => rfl) ?_
  unfold gOk
  by_cases h : 1 ≤ n ∧ n ≤ 5
  · rw [decide_eq_true h.1, decide_eq_true h.2]
    simpa using spec_l0_ok h.1 h.2 hl xs.length 0 (by omega)
  · have : (decide (1 ≤ n) && decide (n ≤ 5)) = false := by
      by_cases h1 : 1 ≤ n
      · rw [decide_eq_false (show ¬ n ≤ 5 by omega)]; simp
      · rw [decide_eq_false h1]; rfl
    rw [this]
    exact spec_l0_no h hl xs.length 0 (by omega)

/-! what is a graph -/
def lexlt (a b : Nat × Nat) : Prop := a.1 < b.1 ∨ a.1 = b.1 ∧ a.2 < b.2
instance (a b : Nat × Nat) : Decidable (lexlt a b) := inferInstanceAs (Decidable (_ ∨ _ ∧ _))
theorem lexlt_irrefl (a : Nat × Nat) : ¬ lexlt a a := by unfold lexlt; omega
theorem lexlt_trans (a b c : Nat × Nat) (h : lexlt a b) (k : lexlt b c) : lexlt a c := by unfold lexlt at *; omega
/-- a graph: its edges are some of all pairs, in order -/
structure Valid (m : Nat) (es : Ed) : Prop where
  pos : 1 ≤ m
  le : m ≤ 5
  sub : es.Sublist (pairs m)

theorem okFrom_at {n : Int} {xs : List S34} : ∀ d i : Nat, okFrom n xs d i = true → ∀ j, i ≤ j → j < i + d → badAt n xs j = false ∧ backAt xs j = false := by
  intro d
  induction d with
  | zero => intro i _ j h1 h2; omega
  | succ d ih =>
    intro i h j h1 h2
    rw [okFrom] at h
    simp only [Bool.and_eq_true, Bool.not_eq_true'] at h
    by_cases e : j = i
    · subst e; exact h.1
    · exact ih (i + 1) h.2 j (by omega) (by omega)
theorem pairs_sorted : ∀ m, m ≤ 5 → (pairs m).Pairwise lexlt := by
  intro m hm
  exact (show ∀ m, m < 6 → (pairs m).Pairwise lexlt by decide) m (by omega)
theorem mem_pairs : ∀ m, m ≤ 5 → ∀ a b, a < b → b < m → (a, b) ∈ pairs m := by
  intro m hm a b h1 h2
  have key : ∀ m, m < 6 → ∀ b, b < m → ∀ a, a < b → (pairs m).contains (a, b) = true := by decide
  exact List.contains_iff_mem.mp (key m (by omega) b h2 a h1)
theorem pairs_mem : ∀ m, m < 6 → ∀ e ∈ pairs m, e.1 < e.2 ∧ e.2 < m := by decide
theorem pairs_length : ∀ m, m < 6 → (pairs m).length ≤ 10 := by decide
theorem gOk_valid {n : Int} {xs : List S34} (h : gOk n xs = true) : ∃ (m : Nat) (es : Ed), n = (m : Int) ∧ xs = toS es ∧ Valid m es := by
  unfold gOk at h
  simp only [Bool.and_eq_true, decide_eq_true_eq] at h
  obtain ⟨⟨h1, h5⟩, hok⟩ := h
  have hat := okFrom_at xs.length 0 hok
  obtain ⟨m, rfl⟩ := Int.eq_ofNat_of_zero_le (show 0 ≤ n by omega)
  have hb : ∀ j (hj : j < xs.length), 0 ≤ (xs[j]).f0 ∧ (xs[j]).f0 < (xs[j]).f1 ∧ (xs[j]).f1 < (m : Int) := by
    intro j hj
    have := (hat j (by omega) (by omega)).1
    simp only [badAt, List.getD_eq_getElem?_getD, List.getElem?_eq_getElem hj, Option.getD_some, Bool.or_eq_false_iff, decide_eq_false_iff_not] at this
    omega
  have hk : ∀ j (hj : j + 1 < xs.length), (xs[j]).f0 < (xs[j + 1]).f0 ∨ (xs[j]).f0 = (xs[j + 1]).f0 ∧ (xs[j]).f1 < (xs[j + 1]).f1 := by
    intro j hj
    have := (hat (j + 1) (by omega) (by omega)).2
    simp only [backAt, List.getD_eq_getElem?_getD, List.getElem?_eq_getElem hj, Nat.add_sub_cancel, List.getElem?_eq_getElem (show j < xs.length by omega), Option.getD_some, Bool.and_eq_false_iff, Bool.or_eq_false_iff, decide_eq_false_iff_not] at this
    omega
  refine ⟨m, xs.map fun e => (e.f0.toNat, e.f1.toNat), rfl, ?_, by omega, by omega, ?_⟩
  · apply List.ext_getElem (by simp [toS])
    intro j h2 h3
    have := hb j h2
    have e0 : ((xs[j]).f0.toNat : Int) = (xs[j]).f0 := by omega
    have e1 : ((xs[j]).f1.toNat : Int) = (xs[j]).f1 := by omega
    simp only [toS, List.getElem_map, e0, e1]
  · apply sublist_of_sorted lexlt lexlt_irrefl lexlt_trans _ _ (pairs_sorted m (by omega))
    · rw [List.pairwise_iff_getElem]
      have step : ∀ (c i : Nat) (hj : i + c + 1 < xs.length), lexlt ((xs[i]).f0.toNat, (xs[i]).f1.toNat) ((xs[i + c + 1]).f0.toNat, (xs[i + c + 1]).f1.toNat) := by
        intro c
        induction c with
        | zero =>
          intro i hj
          have a := hb i (by omega); have b := hb (i + 1) (by omega); have c := hk i (by omega)
          unfold lexlt; simp only [Nat.add_zero]; omega
        | succ c ih =>
          intro i hj
          refine lexlt_trans _ _ _ (ih i (by omega)) ?_
          have a := hb (i + c + 1) (by omega); have b := hb (i + c + 1 + 1) (by omega); have c' := hk (i + c + 1) (by omega)
          unfold lexlt; simp only [show i + (c + 1) + 1 = i + c + 1 + 1 by omega]; omega
      intro i j hi hj hij
      simp only [List.length_map] at hi hj
      have := step (j - i - 1) i (by omega)
      simp only [show i + (j - i - 1) + 1 = j by omega] at this
      simpa using this
    · intro x hx
      obtain ⟨e, he, rfl⟩ := List.mem_map.mp hx
      obtain ⟨j, hj, rfl⟩ := List.getElem_of_mem he
      have := hb j hj
      exact mem_pairs m (by omega) _ _ (by omega) (by omega)
namespace Valid
variable {m : Nat} {es : Ed}
theorem inR (h : Valid m es) : InR m es := fun e he => by
  have := pairs_mem m (by have := h.le; omega) e (h.sub.subset he); omega
theorem lt (h : Valid m es) : ∀ e ∈ es, e.1 < e.2 := fun e he => (pairs_mem m (by have := h.le; omega) e (h.sub.subset he)).1
theorem len (h : Valid m es) : es.length ≤ 10 := Nat.le_trans h.sub.length_le (pairs_length m (by have := h.le; omega))
theorem sorted (h : Valid m es) : es.Pairwise lexlt := List.Pairwise.sublist h.sub (pairs_sorted m h.le)
theorem nodup (h : Valid m es) : es.Nodup := List.Pairwise.imp (fun {a b} hab => by rintro rfl; exact lexlt_irrefl _ hab) h.sorted
end Valid
end Go.Proofs.Ytomaibajmlfhhaa.Lk
end

section
/-
  What the laws' drawing of a graph comes to: some number of nodes from 1 to 5 and some list of edges.
-/
namespace Go.Proofs.Ytomaibajmlfhhaa.Lk
open Go Go.RowKit Go.Proofs.YtomaibajmlfhhaaW.PrintWords Go.Proofs.YtomaibajmlfhhaaW.PrintLast Go.Proofs.YtomaibajmlfhhaaW.PrintMore Go.Proofs.Ytomaibajmlfhhaa.P Go.Proofs.Ytomaibajmlfhhaa.Gw
set_option linter.unusedVariables false
set_option linter.unusedSimpArgs false

theorem wf_u8 {x : Int} (h : (Lit.int .u8 x).wf = true) : 0 ≤ x ∧ x ≤ 255 := by
  have h : (decide (IntKind.u8.min ≤ x) && decide (x ≤ IntKind.u8.max)) = true := h
  simp only [Bool.and_eq_true, decide_eq_true_eq] at h
  have a : IntKind.u8.min = 0 := by decide
  have b : IntKind.u8.max = 255 := by decide
  omega
/-- a code that is read -/
structure Cod (b : List Int) : Prop where
  len : b.length ≤ 2000
  byte : ∀ x ∈ b, 0 ≤ x ∧ x ≤ 255
theorem Cod.rd {b : List Int} (h : Cod b) (i : Int) : 0 ≤ rd b i ∧ rd b i ≤ 255 := by
  unfold Go.Proofs.YtomaibajmlfhhaaW.PrintWords.rd
  rw [List.getD_eq_getElem?_getD]
  cases hx : b[i.toNat]? with
  | none => simp
  | some x => exact h.byte x (List.mem_of_getElem? hx)
theorem tmod_range {x n : Int} (hx : 0 ≤ x) (hn : 1 ≤ n) : 0 ≤ Int.tmod x n ∧ Int.tmod x n < n :=
  ⟨Int.tmod_nonneg _ hx, Int.tmod_lt_of_pos _ (by omega)⟩
theorem pick_ev {b : List Int} (h : Cod b) (p : Nat) (hp : p ≤ 1000000) (n : Int) : ∃ r : Int, 0 ≤ r ∧ (r < n ∨ r = 0) ∧ Ev (fun k => spec_l6Rd_pick.f k b (p : Int) n) (r, ((p + 1 : Nat) : Int)) := by
  have hw : wrap64 ((p : Int) + 1) = ((p + 1 : Nat) : Int) := by rw [wrap_id (by omega) (by omega)]; simp
  have hw1 : wrap64 (((p + 1 : Nat) : Int) - 1) = (p : Int) := by rw [wrap_id (by omega) (by omega)]; omega
  by_cases h1 : n < 1
  · refine ⟨0, by omega, .inr rfl, ?_⟩
    simp only [spec_l6Rd_pick.f, if_pos h1, hw]
    exact Ev.step (f := fun _ => some (0, ((p + 1 : Nat) : Int))) (fun k => by simp only [spec_l6Rd_pick.j0]; rw [if_pos trivial]) (Ev.now _)
  · by_cases h2 : b.length = 0
    · refine ⟨0, by omega, .inr rfl, ?_⟩
      have e : ((b.length : Int) == 0) = true := by rw [h2]; rfl
      simp only [spec_l6Rd_pick.f, if_neg h1, hw, e]
      exact Ev.step (f := fun _ => some (0, ((p + 1 : Nat) : Int))) (fun k => by simp only [spec_l6Rd_pick.j0]; rw [if_pos trivial]) (Ev.now _)
    · have e : ((b.length : Int) == 0) = false := by simpa using h2
      have hl := h.len
      by_cases h3 : (p : Int) < (b.length : Int)
      · have hr := h.rd (p : Int)
        have hx := tmod_range (x := wrap64 (rd b (p : Int))) (n := n) (by rw [wrap_id (by omega) (by omega)]; omega) (by omega)
        refine ⟨_, hx.1, .inl hx.2, ?_⟩
        simp only [spec_l6Rd_pick.f, if_neg h1, hw, e]
        refine Ev.step (f := fun _ => some (Int.tmod (wrap64 (rd b (p : Int))) n, ((p + 1 : Nat) : Int))) (fun k => ?_) (Ev.now _)
        simp only [spec_l6Rd_pick.j0, hw1]
        rw [if_neg (by simp), if_pos h3, if_pos (by omega), if_neg (by omega)]
      · have m1 := tmod_range (x := (p : Int)) (n := (b.length : Int)) (by omega) (by omega)
        have w7 : wrap64 (wrap64 ((p : Int) * 7) + 3) = (p : Int) * 7 + 3 := by rw [wrap_id (x := (p : Int) * 7) (by omega) (by omega), wrap_id (by omega) (by omega)]
        have m2 := tmod_range (x := (p : Int) * 7 + 3) (n := (b.length : Int)) (by omega) (by omega)
        have r1 := h.rd (Int.tmod (p : Int) (b.length : Int))
        have r2 := h.rd (Int.tmod ((p : Int) * 7 + 3) (b.length : Int))
        have q0 : 0 ≤ Int.tdiv (p : Int) (b.length : Int) ∧ Int.tdiv (p : Int) (b.length : Int) ≤ (p : Int) := by
          rw [Int.tdiv_eq_ediv_of_nonneg (by omega)]
          exact ⟨Int.ediv_nonneg (by omega) (by omega), Int.ediv_le_self _ (by omega)⟩
        generalize hA : rd b (Int.tmod (p : Int) (b.length : Int)) = A at r1
        generalize hB : rd b (Int.tmod ((p : Int) * 7 + 3) (b.length : Int)) = B at r2
        generalize hQ : Int.tdiv (p : Int) (b.length : Int) = Q at q0
        have wx : wrap64 (wrap64 (wrap64 (wrap64 (wrap64 A * 131) + wrap64 (wrap64 B * 1117)) + wrap64 ((p : Int) * 29)) + wrap64 (wrap64 Q * 53)) = A * 131 + B * 1117 + (p : Int) * 29 + Q * 53 := by
          rw [wrap_id (x := A) (by omega) (by omega), wrap_id (x := A * 131) (by omega) (by omega), wrap_id (x := B) (by omega) (by omega), wrap_id (x := B * 1117) (by omega) (by omega),
            wrap_id (x := (p : Int) * 29) (by omega) (by omega), wrap_id (x := Q) (by omega) (by omega), wrap_id (x := Q * 53) (by omega) (by omega), wrap_id (x := A * 131 + B * 1117) (by omega) (by omega),
            wrap_id (x := A * 131 + B * 1117 + (p : Int) * 29) (by omega) (by omega), wrap_id (by omega) (by omega)]
        obtain ⟨X, hX⟩ := Int.eq_ofNat_of_zero_le (show 0 ≤ A * 131 + B * 1117 + (p : Int) * 29 + Q * 53 by omega)
        have hXlt : X < 2 ^ 40 := by omega
        have wd : wrap64 (Int.tdiv (X : Int) 64) = ((X / 64 : Nat) : Int) := by
          rw [Int.tdiv_eq_ediv_of_nonneg (by omega)]
          rw [wrap_id (by omega) (by omega)]; simp
        have hxor : Go.bits .xor .i64 (X : Int) ((X / 64 : Nat) : Int) = ((X ^^^ (X / 64) : Nat) : Int) := xor_nat (by omega) (by omega)
        have m3 := tmod_range (x := ((X ^^^ (X / 64) : Nat) : Int)) (n := n) (by omega) (by omega)
        refine ⟨_, m3.1, .inl m3.2, ?_⟩
        simp only [spec_l6Rd_pick.f, if_neg h1, hw, e]
        refine Ev.step (f := fun _ => some (Int.tmod ((X ^^^ (X / 64) : Nat) : Int) n, ((p + 1 : Nat) : Int))) (fun k => ?_) (Ev.now _)
        simp only [spec_l6Rd_pick.j0, hw1, w7, hA, hB, hQ, wx, hX]
        rw [if_neg (by simp), if_neg h3, if_neg (by omega), if_pos m1.1, if_pos m1.2, if_pos m2.1, if_pos m2.2, if_neg (by omega), wd, hxor]

theorem open_ev {l : List Int} (hl : l.length ≤ 1048576) (hb : ∀ x ∈ l, (Lit.int .u8 x).wf = true) : ∃ b, Cod b ∧ spec_l6Open.f l = some (b, 0) := by
  have hb' : ∀ x ∈ l, 0 ≤ x ∧ x ≤ 255 := fun x hx => wf_u8 (hb x hx)
  unfold spec_l6Open.f
  by_cases h : (l.length : Int) > 2000
  · rw [if_pos h, if_pos (by omega)]
    exact ⟨_, ⟨by rw [List.length_take]; omega, fun x hx => hb' x (List.mem_of_mem_take hx)⟩, rfl⟩
  · rw [if_neg h]; exact ⟨_, ⟨by omega, hb'⟩, rfl⟩

/-- what a drawn graph is -/
structure Drawn (m : Nat) (xs : List S34) (p : Nat) : Prop where
  pos : 1 ≤ m
  le : m ≤ 5
  len : xs.length ≤ 100
  at_ : p ≤ 200
theorem graph_l {b : List Int} (h : Cod b) {m : Nat} (hm : m ≤ 5) (kind : Int) (hk : 0 ≤ kind) : ∀ (d a : Nat), a + d = m → ∀ (p : Nat) (xs : List S34), p + 5 * d ≤ 1000 → xs.length + 5 * d ≤ 1000 →
    ∃ (xs' : List S34) (p' : Nat), xs'.length ≤ xs.length + 5 * d + 1 ∧ p' ≤ p + 5 * d + 1 ∧ Ev (fun k => spec_l91Graph.l0 k (m : Int) kind (a : Int) b (p : Int) (m : Int) xs) ((m : Int), xs', (p' : Int)) := by
  intro d
  induction d with
  | zero =>
    intro a ha p xs hp hx
    obtain ⟨r, _, _, hr⟩ := pick_ev h p (by omega) 40
    by_cases h0 : r = 0
    · refine ⟨xs ++ [⟨wrap64 ((m : Int) - 1), 0⟩], p + 1, by simp, by omega, ?_⟩
      refine Ev.step (fun k => rfl) ?_
      simp only [spec_l91Graph.l0, if_neg (show ¬ (a : Int) < (m : Int) by omega)]
      refine Ev.bind hr ?_
      simp only [if_pos h0, if_pos (show xs.length < 8796093022208 by omega)]; exact Ev.now _
    · refine ⟨xs, p + 1, by omega, by omega, ?_⟩
      refine Ev.step (fun k => rfl) ?_
      simp only [spec_l91Graph.l0, if_neg (show ¬ (a : Int) < (m : Int) by omega)]
      refine Ev.bind hr ?_
      simp only [if_neg h0]; exact Ev.now _
  | succ d ih =>
    intro a ha p xs hp hx
    have inner : ∀ (e c : Nat), c + e = m → e ≤ 5 → ∀ (p : Nat) (xs : List S34), p + e + 5 * d ≤ 1000 → xs.length + e + 5 * d ≤ 1000 →
        ∃ (xs' : List S34) (p' : Nat), xs'.length ≤ xs.length + e + 5 * d + 1 ∧ p' ≤ p + e + 5 * d + 1 ∧ Ev (fun k => spec_l91Graph.l1 k (m : Int) kind (a : Int) (c : Int) b (p : Int) (m : Int) xs) ((m : Int), xs', (p' : Int)) := by
      intro e
      induction e with
      | zero =>
        intro c hc _ p xs hp hx
        obtain ⟨xs', p', h1, h2, h3⟩ := ih (a + 1) (by omega) p xs (by omega) (by omega)
        refine ⟨xs', p', by omega, by omega, ?_⟩
        refine Ev.step (f := fun k => spec_l91Graph.l0 k (m : Int) kind ((a + 1 : Nat) : Int) b (p : Int) (m : Int) xs) (fun k => ?_) h3
        simp only [spec_l91Graph.l1]
        rw [if_neg (by omega), wrap_id (by omega) (by omega)]; simp
      | succ e ihe =>
        intro c hc he p xs hp hx
        have hwc : wrap64 ((c : Int) + 1) = ((c + 1 : Nat) : Int) := by rw [wrap_id (by omega) (by omega)]; simp
        have hlt : (c : Int) < (m : Int) := by omega
        have hxl : xs.length < 8796093022208 := by omega
        obtain ⟨xa, pa, a1, a2, a3⟩ := ihe (c + 1) (by omega) (by omega) p (xs ++ [⟨(a : Int), (c : Int)⟩]) (by omega) (by simp; omega)
        obtain ⟨xb, pb, b1, b2, b3⟩ := ihe (c + 1) (by omega) (by omega) p xs (by omega) (by omega)
        obtain ⟨r, _, _, hr⟩ := pick_ev h p (by omega) 5
        obtain ⟨xc, pc, c1, c2, c3⟩ := ihe (c + 1) (by omega) (by omega) (p + 1) (xs ++ [⟨(a : Int), (c : Int)⟩]) (by omega) (by simp; omega)
        obtain ⟨xd, pd, d1, d2, d3⟩ := ihe (c + 1) (by omega) (by omega) (p + 1) xs (by omega) (by omega)
        simp only [List.length_append, List.length_singleton] at a1 c1
        have yes : ∃ (xs' : List S34) (p' : Nat), xs'.length ≤ xs.length + (e + 1) + 5 * d + 1 ∧ p' ≤ p + (e + 1) + 5 * d + 1 ∧ Ev (fun k => spec_l91Graph.l1 k (m : Int) kind (a : Int) (wrap64 ((c : Int) + 1)) b (p : Int) (m : Int) (xs ++ [⟨(a : Int), (c : Int)⟩])) ((m : Int), xs', (p' : Int)) :=
          ⟨xa, pa, by omega, by omega, by rw [hwc]; exact a3⟩
        have no : ∃ (xs' : List S34) (p' : Nat), xs'.length ≤ xs.length + (e + 1) + 5 * d + 1 ∧ p' ≤ p + (e + 1) + 5 * d + 1 ∧ Ev (fun k => spec_l91Graph.l1 k (m : Int) kind (a : Int) (wrap64 ((c : Int) + 1)) b (p : Int) (m : Int) xs) ((m : Int), xs', (p' : Int)) :=
          ⟨xb, pb, by omega, by omega, by rw [hwc]; exact b3⟩
        have pk : ∃ (xs' : List S34) (p' : Nat), xs'.length ≤ xs.length + (e + 1) + 5 * d + 1 ∧ p' ≤ p + (e + 1) + 5 * d + 1 ∧ Ev (fun k => (spec_l6Rd_pick.f k b (p : Int) 5).bind fun bt => if bt.1 > 1 then (if xs.length < 8796093022208 then spec_l91Graph.l1 k (m : Int) kind (a : Int) (wrap64 ((c : Int) + 1)) b bt.2 (m : Int) (xs ++ [⟨(a : Int), (c : Int)⟩]) else none) else spec_l91Graph.l1 k (m : Int) kind (a : Int) (wrap64 ((c : Int) + 1)) b bt.2 (m : Int) xs) ((m : Int), xs', (p' : Int)) := by
          by_cases hr1 : r > 1
          · refine ⟨xc, pc, by omega, by omega, Ev.bind hr ?_⟩
            simp only [if_pos hr1, if_pos hxl, hwc]; exact c3
          · refine ⟨xd, pd, by omega, by omega, Ev.bind hr ?_⟩
            simp only [if_neg hr1, hwc]; exact d3
        have fin : ∀ g : Nat → Option (Int × List S34 × Int), (∀ k, spec_l91Graph.l1 (k + 1) (m : Int) kind (a : Int) (c : Int) b (p : Int) (m : Int) xs = g k) →
            (∃ (xs' : List S34) (p' : Nat), xs'.length ≤ xs.length + (e + 1) + 5 * d + 1 ∧ p' ≤ p + (e + 1) + 5 * d + 1 ∧ Ev g ((m : Int), xs', (p' : Int))) →
            ∃ (xs' : List S34) (p' : Nat), xs'.length ≤ xs.length + (e + 1) + 5 * d + 1 ∧ p' ≤ p + (e + 1) + 5 * d + 1 ∧ Ev (fun k => spec_l91Graph.l1 k (m : Int) kind (a : Int) (c : Int) b (p : Int) (m : Int) xs) ((m : Int), xs', (p' : Int)) :=
          fun g hg ⟨xs', p', h1, h2, h3⟩ => ⟨xs', p', h1, h2, Ev.step hg h3⟩
        by_cases k0 : kind = 0
        · exact fin _ (fun k => by simp only [spec_l91Graph.l1]; rw [if_pos hlt, if_pos k0, if_pos hxl]) yes
        by_cases k1 : kind = 1
        · have k2 : ¬ kind > 1 := by omega
          by_cases c1 : (c : Int) = wrap64 ((a : Int) + 1)
          · exact fin _ (fun k => by simp only [spec_l91Graph.l1]; rw [if_pos hlt, if_neg k0, if_pos k1, if_pos c1, if_pos hxl]) yes
          · by_cases c2 : (a : Int) = 0
            · by_cases c3 : (c : Int) = wrap64 ((m : Int) - 1)
              · exact fin _ (fun k => by simp only [spec_l91Graph.l1]; rw [if_pos hlt, if_neg k0, if_pos k1, if_neg c1, if_pos c2, if_pos c3, if_pos hxl]) yes
              · exact fin _ (fun k => by simp only [spec_l91Graph.l1]; rw [if_pos hlt, if_neg k0, if_pos k1, if_neg c1, if_pos c2, if_neg c3, if_neg k2]) no
            · exact fin _ (fun k => by simp only [spec_l91Graph.l1]; rw [if_pos hlt, if_neg k0, if_pos k1, if_neg c1, if_neg c2, if_neg k2]) no
        · have k2 : kind > 1 := by omega
          exact fin _ (fun k => by simp only [spec_l91Graph.l1]; rw [if_pos hlt, if_neg k0, if_neg k1, if_pos k2]) pk
    by_cases hlt : a + 1 ≤ m
    · obtain ⟨xs', p', h1, h2, h3⟩ := inner (m - (a + 1)) (a + 1) (by omega) (by omega) p xs (by omega) (by omega)
      refine ⟨xs', p', by omega, by omega, ?_⟩
      refine Ev.step (f := fun k => spec_l91Graph.l1 k (m : Int) kind (a : Int) ((a + 1 : Nat) : Int) b (p : Int) (m : Int) xs) (fun k => ?_) h3
      simp only [spec_l91Graph.l0]
      rw [if_pos (by omega), wrap_id (by omega) (by omega)]; simp
    · omega
theorem graph_ev {b : List Int} (h : Cod b) : ∃ (m : Nat) (xs : List S34) (p : Nat), Drawn m xs p ∧ Ev (fun k => spec_l91Graph.f k b 0) ((m : Int), xs, (p : Int)) := by
  obtain ⟨r1, a1, b1, e1⟩ := pick_ev h 0 (by omega) 5
  obtain ⟨r2, a2, b2, e2⟩ := pick_ev h 1 (by omega) 4
  obtain ⟨r, rfl⟩ := Int.eq_ofNat_of_zero_le a1
  obtain ⟨xs', p', h1, h2, h3⟩ := graph_l h (m := 1 + r) (by omega) r2 a2 (1 + r) 0 (by omega) 2 [] (by omega) (by simp only [List.length_nil]; omega)
  simp only [List.length_nil] at h1
  refine ⟨1 + r, xs', p', ⟨by omega, by omega, by omega, by omega⟩, ?_⟩
  unfold spec_l91Graph.f
  refine Ev.bind e1 (Ev.bind e2 ?_)
  have hw : wrap64 (1 + (r : Int)) = ((1 + r : Nat) : Int) := by rw [wrap_id (by omega) (by omega)]; simp
  simp only [hw]; exact h3
theorem some_ev {l : List Int} (hl : l.length ≤ 1048576) (hb : ∀ x ∈ l, (Lit.int .u8 x).wf = true) : ∃ (m : Nat) (xs : List S34), 1 ≤ m ∧ m ≤ 5 ∧ xs.length < 2 ^ 62 ∧ Ev (fun k => spec_l91Some.f k l) ((m : Int), xs) := by
  obtain ⟨b, hc, ho⟩ := open_ev hl hb
  obtain ⟨m, xs, p, hd, he⟩ := graph_ev hc
  refine ⟨m, xs, hd.pos, hd.le, by have := hd.len; omega, ?_⟩
  unfold spec_l91Some.f
  simp only [ho, Option.bind_some]
  exact Ev.bind he (Ev.now _)
end Go.Proofs.Ytomaibajmlfhhaa.Lk
end

section
/-
  What the laws' drawing of a direction comes to: some number.
-/
namespace Go.Proofs.Ytomaibajmlfhhaa.Lk
open Go Go.RowKit Go.Proofs.YtomaibajmlfhhaaW.PrintWords Go.Proofs.YtomaibajmlfhhaaW.PrintLast Go.Proofs.YtomaibajmlfhhaaW.PrintMore Go.Proofs.Ytomaibajmlfhhaa.P Go.Proofs.Ytomaibajmlfhhaa.Gw
set_option linter.unusedVariables false
set_option linter.unusedSimpArgs false
theorem way_l {b : List Int} (h : Cod b) (n : Int) (xs : List S34) (hx : xs.length ≤ 100) : ∀ (d i : Nat), i + d = xs.length → ∀ (o : Int) (p : Nat), p + d ≤ 10000 →
    ∃ (o' : Int) (p' : Nat), p' ≤ p + d + 2 ∧ Ev (fun k => spec_l91Way.l0 k o (i : Int) b (p : Int) n xs) (o', (p' : Int)) := by
  intro d
  induction d with
  | zero =>
    intro i hi o p hp
    obtain ⟨r, _, _, hr⟩ := pick_ev h p (by omega) 40
    by_cases h0 : r = 0
    · obtain ⟨r2, _, _, hr2⟩ := pick_ev h (p + 1) (by omega) 2
      refine ⟨wrap64 (shl .i64 1 (xs.length : Int) - wrap64 (r2 * wrap64 (1 + shl .i64 1 (xs.length : Int)))), p + 1 + 1, by omega, Ev.step (fun k => rfl) ?_⟩
      simp only [spec_l91Way.l0, if_neg (show ¬ (i : Int) < (xs.length : Int) by omega)]
      refine Ev.bind hr ?_
      simp only [if_pos h0]
      exact Ev.bind hr2 (Ev.now _)
    · refine ⟨o, p + 1, by omega, Ev.step (fun k => rfl) ?_⟩
      simp only [spec_l91Way.l0, if_neg (show ¬ (i : Int) < (xs.length : Int) by omega)]
      refine Ev.bind hr ?_
      simp only [if_neg h0]; exact Ev.now _
  | succ d ih =>
    intro i hi o p hp
    obtain ⟨r, _, _, hr⟩ := pick_ev h p (by omega) 2
    obtain ⟨o', p', h1, h2⟩ := ih (i + 1) (by omega) (wrap64 (wrap64 (2 * o) + r)) (p + 1) (by omega)
    refine ⟨o', p', by omega, Ev.step (fun k => rfl) ?_⟩
    simp only [spec_l91Way.l0, if_pos (show (i : Int) < (xs.length : Int) by omega)]
    refine Ev.bind hr ?_
    have hw : wrap64 ((i : Int) + 1) = ((i + 1 : Nat) : Int) := by rw [wrap_id (by omega) (by omega)]; simp
    simp only [hw]; exact h2
theorem way_ev {b : List Int} (h : Cod b) {m : Nat} {xs : List S34} {p : Nat} (hd : Drawn m xs p) : ∃ (o : Int) (p' : Nat), p' ≤ 1000 ∧ Ev (fun k => spec_l91Way.f k b (p : Int) (m : Int) xs) (o, (p' : Int)) := by
  obtain ⟨o, p', h1, h2⟩ := way_l h (m : Int) xs hd.len xs.length 0 (by omega) 0 p (by have := hd.len; have := hd.at_; omega)
  exact ⟨o, p', by have := hd.len; have := hd.at_; omega, by unfold spec_l91Way.f; exact h2⟩
end Go.Proofs.Ytomaibajmlfhhaa.Lk
end

section
/-
  math/bits.OnesCount, at numbers below 1024: how many bits are 1.
-/
namespace Go.Proofs.Ytomaibajmlfhhaa.Lk
open Go Go.RowKit Go.Proofs.YtomaibajmlfhhaaW.PrintWords Go.Proofs.YtomaibajmlfhhaaW.PrintLast Go.Proofs.YtomaibajmlfhhaaW.PrintMore Go.Proofs.Ytomaibajmlfhhaa.P Go.Proofs.Ytomaibajmlfhhaa.Gw
set_option linter.unusedVariables false
set_option linter.unusedSimpArgs false
def popc (s : Nat) : Nat := s % 2 + s / 2 % 2 + s / 4 % 2 + s / 8 % 2 + s / 16 % 2 + s / 32 % 2 + s / 64 % 2 + s / 128 % 2 + s / 256 % 2 + s / 512 % 2
def onesOk (s : Nat) : Bool := match bits_OnesCount.f (s : Int) with
  | some r => r == (popc s : Int)
  | none => false
theorem ones_all : ∀ s, s < 1024 → onesOk s = true := by decide +kernel
theorem ones_eq {s : Nat} (h : s < 1024) : bits_OnesCount.f (s : Int) = some (popc s : Int) := by
  have := ones_all s h
  unfold onesOk at this
  cases hr : bits_OnesCount.f (s : Int) with
  | none => rw [hr] at this; cases this
  | some r => rw [hr] at this; simp only [beq_iff_eq] at this; rw [this]
end Go.Proofs.Ytomaibajmlfhhaa.Lk
end

section
/-
  WayIn, of the program and of the reference: both tell 'wIn'; the direction turned.
-/
namespace Go.Proofs.Ytomaibajmlfhhaa.Lk
open Go Go.RowKit Go.Proofs.YtomaibajmlfhhaaW.PrintWords Go.Proofs.YtomaibajmlfhhaaW.PrintLast Go.Proofs.YtomaibajmlfhhaaW.PrintMore Go.Proofs.Ytomaibajmlfhhaa.P Go.Proofs.Ytomaibajmlfhhaa.Gw
set_option linter.unusedVariables false
set_option linter.unusedSimpArgs false

/-- a direction of a graph -/
def wIn (n : Int) (xs : List S34) (o : Int) : Bool := gOk n xs && (decide (0 ≤ o) && decide (o < ((2 ^ xs.length : Nat) : Int)))
theorem gOk_len {n : Int} {xs : List S34} (h : gOk n xs = true) : xs.length ≤ 10 := by
  obtain ⟨m, es, _, rfl, hv⟩ := gOk_valid h
  rw [toS_length]; exact hv.len
theorem pow_le {l : Nat} (h : l ≤ 10) : 2 ^ l ≤ 1024 := Nat.pow_le_pow_right (n := 2) (j := 10) (by omega) h
theorem impl_wayIn {n o : Int} {xs : List S34} (hl : xs.length < 2 ^ 62) : Ev (fun k => impl_WayIn.f k n xs o) (wIn n xs o) := by
  unfold impl_WayIn.f wIn
  refine Ev.bind (impl_wayGraph hl) ?_
  cases hg : gOk n xs with
  | false => simpa using Ev.now false
  | true =>
    have h10 := gOk_len hg
    simp only [if_true, Bool.true_and, shl_nat (show xs.length ≤ 61 by omega)]
    by_cases h : o ≥ 0
    · simp only [if_pos h]; rw [decide_eq_true (show 0 ≤ o from h)]; exact Ev.now _
    · simp only [if_neg h]; rw [decide_eq_false (show ¬ 0 ≤ o from h)]; exact Ev.now _
theorem spec_wayIn {n o : Int} {xs : List S34} (hl : xs.length < 2 ^ 62) : Ev (fun k => spec_WayIn.f k n xs o) (wIn n xs o) := by
  unfold spec_WayIn.f wIn
  refine Ev.bind (spec_wayGraph hl) ?_
  cases hg : gOk n xs with
  | false => simpa using Ev.now false
  | true =>
    have h10 := gOk_len hg
    have hp := pow_le h10
    simp only [if_true, Bool.true_and, shl_nat (show xs.length ≤ 61 by omega)]
    generalize 2 ^ xs.length = p at hp
    rw [wrap_id (x := (p : Int) - 1) (by omega) (by omega)]
    simp only [l6In_eq, Option.bind_some]
    have : decide (o ≤ (p : Int) - 1) = decide (o < (p : Int)) := by rw [decide_eq_decide]; omega
    rw [this]; exact Ev.now _
theorem wIn_valid {n o : Int} {xs : List S34} (h : wIn n xs o = true) : ∃ (m : Nat) (es : Ed) (b : Nat), n = (m : Int) ∧ xs = toS es ∧ Valid m es ∧ o = (b : Int) ∧ b < 2 ^ es.length := by
  unfold wIn at h
  simp only [Bool.and_eq_true, decide_eq_true_eq] at h
  obtain ⟨m, es, rfl, rfl, hv⟩ := gOk_valid h.1
  obtain ⟨b, rfl⟩ := Int.eq_ofNat_of_zero_le h.2.1
  refine ⟨m, es, b, rfl, rfl, hv, rfl, ?_⟩
  have := h.2.2; rw [toS_length] at this
  exact Int.ofNat_lt.mp this
theorem valid_gOk_iff {m : Nat} {es : Ed} (hv : Valid m es) : gOk (m : Int) (toS es) = true := by
  unfold gOk
  have h1 := hv.pos; have h5 := hv.le
  rw [decide_eq_true (show 1 ≤ (m : Int) by omega), decide_eq_true (show (m : Int) ≤ 5 by omega)]
  have key : ∀ d i : Nat, i + d = (toS es).length → okFrom (m : Int) (toS es) d i = true := by
    intro d
    induction d with
    | zero => intro i _; rfl
    | succ d ih =>
      intro i hi
      rw [okFrom, ih (i + 1) (by omega)]
      rw [toS_length] at hi
      have hi' : i < es.length := by omega
      have g : ∀ j (hj : j < es.length), (toS es).getD j z34 = ⟨((es[j]).1 : Int), ((es[j]).2 : Int)⟩ := fun j hj => by
        simp [toS, List.getD_eq_getElem?_getD, List.getElem?_map, List.getElem?_eq_getElem hj]
      have hlt := hv.lt _ (List.getElem_mem hi')
      have hr := hv.inR _ (List.getElem_mem hi')
      have hb : badAt (m : Int) (toS es) i = false := by
        simp only [badAt, g i hi', Bool.or_eq_false_iff, decide_eq_false_iff_not]; omega
      have hk : backAt (toS es) i = false := by
        by_cases h0 : 0 < i
        · have hs := List.pairwise_iff_getElem.mp hv.sorted (i - 1) i (by omega) hi' (by omega)
          unfold lexlt at hs
          simp only [backAt, g i hi', g (i - 1) (by omega), Bool.and_eq_false_iff, Bool.or_eq_false_iff, decide_eq_false_iff_not]
          omega
        · simp [backAt, h0]
      rw [hb, hk]; rfl
  rw [key _ 0 (by omega)]; rfl
theorem wIn_iff {m : Nat} {es : Ed} (hv : Valid m es) (b : Nat) : wIn (m : Int) (toS es) (b : Int) = decide (b < 2 ^ es.length) := by
  unfold wIn; rw [valid_gOk_iff hv, toS_length, decide_eq_true (show (0 : Int) ≤ (b : Int) by omega), Bool.true_and, Bool.true_and, decide_eq_decide]
  exact Int.ofNat_lt
/-- turned: all bits the other way -/
def tn (l b : Nat) : Nat := 2 ^ l - 1 - b
theorem tn_lt {l b : Nat} : tn l b < 2 ^ l := by unfold tn; have := Nat.two_pow_pos l; omega
theorem tn_bit {l b : Nat} (h : b < 2 ^ l) (i : Nat) : (tn l b).testBit i = (decide (i < l) && !b.testBit i) := by
  unfold tn; rw [show 2 ^ l - 1 - b = 2 ^ l - (b + 1) by omega]; exact Nat.testBit_two_pow_sub_succ h i
theorem tn_xor {l b : Nat} (h : b < 2 ^ l) : b ^^^ (2 ^ l - 1) = tn l b := by
  apply Nat.eq_of_testBit_eq; intro i
  rw [tn_bit h, Nat.testBit_xor, full_bit]
  by_cases hi : i < l
  · simp [hi]
  · simp [hi, Nat.testBit_lt_two_pow (Nat.lt_of_lt_of_le h (Nat.pow_le_pow_right (n := 2) (by omega) (Nat.le_of_not_lt hi)))]
theorem tn_tn {l b : Nat} (h : b < 2 ^ l) : tn l (tn l b) = b := by unfold tn; omega
theorem dirs_tn : ∀ (es : Ed) (b : Nat), b < 2 ^ es.length → dirs es (tn es.length b) = rev (dirs es b) := by
  intro es b hb
  apply List.ext_getElem? ; intro i
  rw [rev, List.getElem?_map, dirs_get, dirs_get]
  cases h : es[i]? with
  | none => rfl
  | some e =>
    have hi : i < es.length := (List.getElem?_eq_some_iff.mp h).1
    simp only [Option.map_some, tn_bit hb, hi, decide_true, Bool.true_and]
    cases b.testBit i <;> rfl
end Go.Proofs.Ytomaibajmlfhhaa.Lk
end

section
/-
  Directed edges of a graph and a direction: facts that both sides use.
-/
namespace Go.Proofs.Ytomaibajmlfhhaa.Lk
open Go Go.RowKit Go.Proofs.YtomaibajmlfhhaaW.PrintWords Go.Proofs.YtomaibajmlfhhaaW.PrintLast Go.Proofs.YtomaibajmlfhhaaW.PrintMore Go.Proofs.Ytomaibajmlfhhaa.P Go.Proofs.Ytomaibajmlfhhaa.Gw
set_option linter.unusedVariables false
set_option linter.unusedSimpArgs false
theorem dirs_inR {m : Nat} {es : Ed} (hv : InR m es) (b : Nat) : InR m (dirs es b) := by
  intro e he
  obtain ⟨i, hi⟩ := List.getElem?_of_mem he
  rw [dirs_get] at hi
  obtain ⟨x, hx, rfl⟩ := Option.map_eq_some_iff.mp hi
  have := hv x (List.mem_of_getElem? hx)
  cases b.testBit i <;> simp [this.1, this.2]
theorem take_inR {m : Nat} {ds : Ed} (h : InR m ds) (i : Nat) : InR m (ds.take i) := fun e he => h e (List.mem_of_mem_take he)
theorem dirs_getD {es : Ed} {b i : Nat} (hi : i < es.length) : (dirs es b).getD i (0, 0) = bif b.testBit i then ((es.getD i (0, 0)).2, (es.getD i (0, 0)).1) else es.getD i (0, 0) := by
  simp only [List.getD_eq_getElem?_getD, dirs_get, List.getElem?_eq_getElem hi, Option.map_some, Option.getD_some]
theorem take_snoc {ds : Ed} {i : Nat} (hi : i < ds.length) : ds.take (i + 1) = ds.take i ++ [ds.getD i (0, 0)] := by
  rw [List.take_succ_eq_append_getElem hi, List.getD_eq_getElem?_getD, List.getElem?_eq_getElem hi]; rfl
theorem getD_mem {ds : Ed} {i : Nat} (hi : i < ds.length) : ds.getD i (0, 0) ∈ ds := by
  rw [List.getD_eq_getElem?_getD, List.getElem?_eq_getElem hi]; exact List.getElem_mem hi
theorem dirs_nodup {m : Nat} {es : Ed} (hv : Valid m es) (b : Nat) : (dirs es b).Nodup := by
  have key : (dirs es b).map (fun e => if e.1 < e.2 then e else (e.2, e.1)) = es := by
    apply List.ext_getElem?; intro i
    rw [List.getElem?_map, dirs_get]
    cases h : es[i]? with
    | none => rfl
    | some e =>
      have := hv.lt e (List.mem_of_getElem? h)
      simp only [Option.map_some]
      cases b.testBit i
      · simp [this]
      · simp only [cond_true]; rw [if_neg (by omega)]
  have h2 := hv.nodup
  rw [← key] at h2
  have h3 := List.pairwise_map.mp h2
  exact List.Pairwise.imp (fun {a b} hab e => hab (by rw [e])) h3
theorem five {m : Nat} {es : Ed} (hv : Valid m es) : m ≤ 5 := hv.le
theorem rows_small {m : Nat} (hm : m ≤ 5) {ds : Ed} (hd : InR m ds) (u : Nat) : (rowsOf m ds).getD u 0 < 32 := by
  rw [List.getD_eq_getElem?_getD]
  cases h : (rowsOf m ds)[u]? with
  | none => simp
  | some r => exact pow5 hm (rowsOf_lt hd r (List.mem_of_getElem? h))
end Go.Proofs.Ytomaibajmlfhhaa.Lk
end

section
/-
  The program's ends and nextOf: the rows of next nodes.
-/
namespace Go.Proofs.Ytomaibajmlfhhaa.Lk
open Go Go.RowKit Go.Proofs.YtomaibajmlfhhaaW.PrintWords Go.Proofs.YtomaibajmlfhhaaW.PrintLast Go.Proofs.YtomaibajmlfhhaaW.PrintMore Go.Proofs.Ytomaibajmlfhhaa.P Go.Proofs.Ytomaibajmlfhhaa.Gw
set_option linter.unusedVariables false
set_option linter.unusedSimpArgs false
theorem ends_eq {es : Ed} {b i : Nat} (hb : b < 2 ^ 62) (hl : es.length ≤ 60) (hi : i < es.length) (n : Int) :
    impl_ends.f n (toS es) (b : Int) (i : Int) = some ((((dirs es b).getD i (0, 0)).1 : Int), (((dirs es b).getD i (0, 0)).2 : Int)) := by
  unfold impl_ends.f
  rw [if_pos (by omega), if_pos (by rw [toS_length]; omega), rd_toS, dirs_getD hi]
  cases ht : b.testBit i with
  | true => rw [if_pos ((bit_one hb (by omega)).mpr ht)]; rfl
  | false => rw [if_neg (by rw [bit_one hb (by omega), ht]; simp)]; rfl
theorem next_l {m : Nat} {es : Ed} (hv : Valid m es) {b : Nat} (hb : b < 2 ^ es.length) : ∀ d i : Nat, i + d = es.length →
    Ev (fun k => impl_nextOf.l0 k (b : Int) (toI (rowsOf m ((dirs es b).take i))) (es.length : Int) (i : Int) (m : Int) (toS es)) (toI (rowsOf m (dirs es b))) := by
  have hD := dirs_length es b
  have hR := dirs_inR hv.inR b
  have h10 := hv.len
  have hp := pow_le hv.len
  intro d
  induction d with
  | zero =>
    intro i hi
    refine Ev.step (f := fun _ => some (toI (rowsOf m (dirs es b)))) (fun k => ?_) (Ev.now _)
    simp only [impl_nextOf.l0]
    rw [if_neg (by omega), List.take_of_length_le (by omega)]
  | succ d ih =>
    intro i hi
    refine Ev.step (f := fun k => impl_nextOf.l0 k (b : Int) (toI (rowsOf m ((dirs es b).take (i + 1)))) (es.length : Int) ((i + 1 : Nat) : Int) (m : Int) (toS es)) (fun k => ?_) (ih (i + 1) (by omega))
    simp only [impl_nextOf.l0]
    rw [if_pos (by omega), ends_eq (by omega) (by omega) (by omega)]
    simp only [Option.bind_some]
    have he := hR _ (getD_mem (ds := dirs es b) (i := i) (by omega))
    have hlt := rows_small hv.le (take_inR hR i) ((dirs es b).getD i (0, 0)).1
    rw [if_pos (by omega), if_pos (by rw [toI_length, rowsOf_length]; omega), if_pos (by omega), rd_toI, shl_nat (by have := hv.le; omega), or_nat (by omega) (small (n := 5) (by omega) (Nat.pow_lt_pow_right (by omega) (by have := hv.le; omega))), Int.toNat_natCast, set_toI, wrap_id (by omega) (by omega)]
    rw [take_snoc (by omega)]
    simp only [rowsOf, List.foldl_append, List.foldl_cons, List.foldl_nil, addE]
    simp
theorem nextOf_ev {m : Nat} {es : Ed} (hv : Valid m es) {b : Nat} (hb : b < 2 ^ es.length) :
    Ev (fun k => impl_nextOf.f k (m : Int) (toS es) (b : Int)) (toI (rowsOf m (dirs es b))) := by
  refine Ev.congr (f := fun k => impl_nextOf.l0 k (b : Int) (toI (rowsOf m ((dirs es b).take 0))) (es.length : Int) ((0 : Nat) : Int) (m : Int) (toS es)) (fun k => ?_) (next_l hv hb es.length 0 (by omega))
  have h5 := hv.le
  unfold impl_nextOf.f
  rw [if_pos (by omega), if_pos (by omega), Int.toNat_natCast, repl_toI, toS_length]; rfl
end Go.Proofs.Ytomaibajmlfhhaa.Lk
end

section
/-
  The program's outOf: how many edges lead from each node.
-/
namespace Go.Proofs.Ytomaibajmlfhhaa.Lk
open Go Go.RowKit Go.Proofs.YtomaibajmlfhhaaW.PrintWords Go.Proofs.YtomaibajmlfhhaaW.PrintLast Go.Proofs.YtomaibajmlfhhaaW.PrintMore Go.Proofs.Ytomaibajmlfhhaa.P Go.Proofs.Ytomaibajmlfhhaa.Gw
set_option linter.unusedVariables false
set_option linter.unusedSimpArgs false
theorem popc_five : ∀ s, s < 32 → popc s = pc5 s := by decide +kernel
theorem iOut_l {rows outs : List Nat} (hr : ∀ u, rows.getD u 0 < 32) (hlen : outs.length = rows.length) (hl5 : rows.length ≤ 5) (ho : ∀ u, pc5 (rows.getD u 0) = outs.getD u 0) : ∀ d i : Nat, i + d = rows.length →
    Ev (fun k => impl_outOf.l0 k (toI (outs.take i ++ rows.drop i)) (rows.length : Int) (i : Int)) (toI outs) := by
  intro d
  induction d with
  | zero =>
    intro i hi
    refine Ev.step (f := fun _ => some (toI outs)) (fun k => ?_) (Ev.now _)
    simp only [impl_outOf.l0]
    rw [if_neg (by omega), List.take_of_length_le (by omega), List.drop_eq_nil_of_le (by omega), List.append_nil]
  | succ d ih =>
    intro i hi
    have hil : i < rows.length := by omega
    have hk := ih (i + 1) (by omega)
    have hL : (outs.take i ++ rows.drop i).length = rows.length := by rw [List.length_append, List.length_take, List.length_drop]; omega
    have hti : (outs.take i).length = i := by rw [List.length_take]; omega
    have hg : (outs.take i ++ rows.drop i).getD i 0 = rows.getD i 0 := by
      rw [List.getD_eq_getElem?_getD, List.getElem?_append_right (by omega), hti, Nat.sub_self, List.getElem?_drop, Nat.add_zero, ← List.getD_eq_getElem?_getD]
    have hs : (outs.take i ++ rows.drop i).set i (outs.getD i 0) = outs.take (i + 1) ++ rows.drop (i + 1) := by
      rw [List.set_append_right _ _ (by omega), hti, Nat.sub_self, List.drop_eq_getElem_cons hil, List.set_cons_zero, List.take_succ_eq_append_getElem (by omega), List.append_assoc, List.singleton_append, List.getD_eq_getElem?_getD, List.getElem?_eq_getElem (by omega)]
      rfl
    have hri := hr i
    have hon := ones_eq (s := rows.getD i 0) (by omega)
    rw [popc_five _ hri, ho] at hon
    have hw1 : wrap64 ((i : Int) + 1) = ((i + 1 : Nat) : Int) := by rw [wrap_id (by omega) (by omega)]; simp
    have g1 : (i : Int) < (rows.length : Int) := by clear hw1; omega
    have g2 : (i : Int) < ((toI (outs.take i ++ rows.drop i)).length : Int) := by clear hw1; rw [toI_length, hL]; omega
    have hu : IntKind.u64.wrap ((rows.getD i 0 : Nat) : Int) = ((rows.getD i 0 : Nat) : Int) := by
      clear hw1
      generalize rows.getD i 0 = x at hri
      exact (show ∀ x : Nat, x < 32 → IntKind.u64.wrap (x : Int) = (x : Int) by decide) x hri
    refine Ev.step (fun k => ?_) hk
    simp only [impl_outOf.l0]
    rw [if_pos g1, if_pos (Int.natCast_nonneg i), if_pos g2, rd_toI, hg, hu, hon]
    simp only [Option.bind_some]
    rw [Int.toNat_natCast, set_toI, hs, hw1]
theorem iOut_ev {m : Nat} {es : Ed} (hv : Valid m es) {b : Nat} (hb : b < 2 ^ es.length) :
    Ev (fun k => impl_outOf.f k (m : Int) (toS es) (b : Int)) (toI (outsOf m (dirs es b))) := by
  have h5 := hv.le
  have hR := dirs_inR hv.inR b
  unfold impl_outOf.f
  refine Ev.bind (nextOf_ev hv hb) ?_
  have h := iOut_l (rows := rowsOf m (dirs es b)) (outs := outsOf m (dirs es b)) (rows_small h5 hR) (by rw [rowsOf_length, outsOf_length]) (by rw [rowsOf_length]; exact h5) (fun u => pc_row h5 hR (dirs_nodup hv b) u) m 0 (by rw [rowsOf_length]; omega)
  rw [List.take_zero, List.drop_zero, List.nil_append] at h
  rw [toI_length]
  exact h
end Go.Proofs.Ytomaibajmlfhhaa.Lk
end

section
/-
  The program's WayOut.
-/
namespace Go.Proofs.Ytomaibajmlfhhaa.Lk
open Go Go.RowKit Go.Proofs.YtomaibajmlfhhaaW.PrintWords Go.Proofs.YtomaibajmlfhhaaW.PrintLast Go.Proofs.YtomaibajmlfhhaaW.PrintMore Go.Proofs.Ytomaibajmlfhhaa.P Go.Proofs.Ytomaibajmlfhhaa.Gw
set_option linter.unusedVariables false
set_option linter.unusedSimpArgs false
theorem impl_WayOut_no {n o : Int} {ys : List S34} (hl : ys.length < 2 ^ 62) (hw : wIn n ys o = false) : Ev (fun k => impl_WayOut.f k n ys o) ([], false) := by
  unfold impl_WayOut.f; exact Ev.bind (impl_wayIn hl) (by simpa [hw] using Ev.now _)
theorem impl_WayOut_ev {m : Nat} {es : Ed} (hv : Valid m es) {b : Nat} (hb : b < 2 ^ es.length) : Ev (fun k => impl_WayOut.f k (m : Int) (toS es) (b : Int)) (toI (outsOf m (dirs es b)), true) := by
  unfold impl_WayOut.f
  refine Ev.bind (impl_wayIn (by rw [toS_length]; have := hv.len; omega)) ?_
  rw [wIn_iff hv, decide_eq_true hb]
  simp only [if_true]
  exact Ev.bind (iOut_ev hv hb) (Ev.now _)
end Go.Proofs.Ytomaibajmlfhhaa.Lk
end

section
/-
  WayFlip of the program and of the reference tell the same, for every graph and numbers.
-/
namespace Go.Proofs.Ytomaibajmlfhhaa.Lk
open Go Go.RowKit Go.Proofs.YtomaibajmlfhhaaW.PrintWords Go.Proofs.YtomaibajmlfhhaaW.PrintLast Go.Proofs.YtomaibajmlfhhaaW.PrintMore Go.Proofs.Ytomaibajmlfhhaa.P Go.Proofs.Ytomaibajmlfhhaa.Gw
set_option linter.unusedVariables false
set_option linter.unusedSimpArgs false
theorem same_WayFlip (n : Int) (ys : List S34) (o i : Int) (hl : ys.length < 2 ^ 62) : ∃ r, Ev (fun k => spec_WayFlip.f k n ys o i) r ∧ Ev (fun k => impl_WayFlip.f k n ys o i) r := by
  unfold spec_WayFlip.f impl_WayFlip.f
  cases hw : wIn n ys o with
  | false => exact ⟨(0, false), Ev.bind (spec_wayIn hl) (by simpa [hw] using Ev.now _), Ev.bind (impl_wayIn hl) (by simpa [hw] using Ev.now _)⟩
  | true =>
    have hlen : wrap64 ((ys.length : Int) - 1) = (ys.length : Int) - 1 := wrap_id (by omega) (by omega)
    by_cases h1 : i < 0
    · refine ⟨(0, false), Ev.bind (spec_wayIn hl) ?_, Ev.bind (impl_wayIn hl) ?_⟩
      · simp only [hw, if_true, l6In_eq, Option.bind_some, decide_eq_false (show ¬ 0 ≤ i by omega), Bool.false_and, Bool.false_eq_true, if_false]; exact Ev.now _
      · simp only [hw, if_true, if_pos h1]; exact Ev.now _
    · by_cases h2 : i ≥ (ys.length : Int)
      · refine ⟨(0, false), Ev.bind (spec_wayIn hl) ?_, Ev.bind (impl_wayIn hl) ?_⟩
        · simp only [hw, if_true, l6In_eq, Option.bind_some, hlen, decide_eq_false (show ¬ i ≤ (ys.length : Int) - 1 by omega), Bool.and_false, Bool.false_eq_true, if_false]; exact Ev.now _
        · simp only [hw, if_true, if_neg h1, if_pos h2]; exact Ev.now _
      · refine ⟨(Go.bits .xor .i64 o (shl .i64 1 i), true), Ev.bind (spec_wayIn hl) ?_, Ev.bind (impl_wayIn hl) ?_⟩
        · simp only [hw, if_true, l6In_eq, Option.bind_some, hlen, decide_eq_true (show 0 ≤ i by omega), decide_eq_true (show i ≤ (ys.length : Int) - 1 by omega), Bool.and_true, if_pos (show 0 ≤ i by omega)]; exact Ev.now _
        · simp only [hw, if_true, if_neg h1, if_neg h2, if_pos (show 0 ≤ i by omega)]; exact Ev.now _
end Go.Proofs.Ytomaibajmlfhhaa.Lk
end

section
/-
  How many edges lead from each node: sums, both ways, and after a flip.
-/
namespace Go.Proofs.Ytomaibajmlfhhaa.Lk
open Go Go.RowKit Go.Proofs.YtomaibajmlfhhaaW.PrintWords Go.Proofs.YtomaibajmlfhhaaW.PrintLast Go.Proofs.YtomaibajmlfhhaaW.PrintMore Go.Proofs.Ytomaibajmlfhhaa.P Go.Proofs.Ytomaibajmlfhhaa.Gw
set_option linter.unusedVariables false
set_option linter.unusedSimpArgs false
theorem sum_set_succ : ∀ (l : List Nat) (u : Nat), u < l.length → (l.set u (l.getD u 0 + 1)).sum = l.sum + 1
  | [], u, h => by simp at h
  | x :: l, 0, _ => by simp; omega
  | x :: l, u + 1, h => by
      have := sum_set_succ l u (by simpa using h)
      simp only [List.getD_cons_succ, List.set_cons_succ, List.sum_cons, this]; omega
theorem sum_outs {m : Nat} : ∀ (ds : Ed), InR m ds → ∀ l : List Nat, l.length = m → (ds.foldl addO l).sum = l.sum + ds.length
  | [], _, l, _ => by simp
  | e :: ds, h, l, hl => by
      have he := h e (List.mem_cons_self ..)
      rw [List.foldl_cons, sum_outs ds (fun x hx => h x (List.mem_cons_of_mem _ hx)) (addO l e) (by rw [addO_length, hl]), addO, sum_set_succ l e.1 (by omega), List.length_cons]; omega
theorem outs_sum {m : Nat} {ds : Ed} (h : InR m ds) : (outsOf m ds).sum = ds.length := by
  rw [outsOf, sum_outs ds h _ (by simp)]; simp
/-- the edges at a node -/
def touches (v : Nat) (e : Nat × Nat) : Bool := e.1 == v || e.2 == v
theorem count_both (v : Nat) : ∀ (es : Ed) (b : Nat), (∀ e ∈ es, e.1 ≠ e.2) → (dirs es b).countP (fun e => e.1 == v) + (dirs es b).countP (fun e => e.2 == v) = es.countP (touches v)
  | [], _, _ => rfl
  | e :: es, b, h => by
      have ih := count_both v es (b / 2) (fun x hx => h x (List.mem_cons_of_mem _ hx))
      have hne := h e (List.mem_cons_self ..)
      rw [dirs, List.countP_cons, List.countP_cons, List.countP_cons]
      have : (if ((bif b.testBit 0 then (e.2, e.1) else e).1 == v) = true then 1 else 0) + (if ((bif b.testBit 0 then (e.2, e.1) else e).2 == v) = true then 1 else 0) = (if touches v e = true then 1 else 0) := by
        unfold touches
        obtain ⟨x, y⟩ := e
        cases b.testBit 0 <;> by_cases h1 : x = v <;> by_cases h2 : y = v <;> simp [h1, h2] <;> exact absurd (h1.trans h2.symm) hne
      omega
theorem count_rev (v : Nat) (ds : Ed) : (rev ds).countP (fun e => e.1 == v) = ds.countP (fun e => e.2 == v) := by
  rw [rev, List.countP_map]; rfl
theorem outs_both {m : Nat} {es : Ed} (hv : Valid m es) (b v : Nat) : (outsOf m (dirs es b)).getD v 0 + (outsOf m (rev (dirs es b))).getD v 0 = es.countP (touches v) := by
  have hR := dirs_inR hv.inR b
  rw [outsOf_get hR, outsOf_get hR.rev, count_rev]
  exact count_both v es b (fun e he => by have := hv.lt e he; omega)
theorem dirs_flip {es : Ed} {b i : Nat} (hi : i < es.length) : dirs es (b ^^^ 2 ^ i) = (dirs es b).set i (((dirs es b).getD i (0, 0)).2, ((dirs es b).getD i (0, 0)).1) := by
  have hD := dirs_length es b
  apply List.ext_getElem?
  intro j
  rw [dirs_get]
  by_cases e : j = i
  · subst e
    rw [List.getElem?_set_self (by omega), List.getElem?_eq_getElem hi, Option.map_some, Nat.testBit_xor, Nat.testBit_two_pow, decide_eq_true rfl, dirs_getD hi, List.getD_eq_getElem?_getD, List.getElem?_eq_getElem hi]
    cases b.testBit j <;> rfl
  · rw [List.getElem?_set_ne (Ne.symm e), dirs_get, Nat.testBit_xor, Nat.testBit_two_pow, decide_eq_false (by omega), Bool.xor_false]
theorem outs_flip {m : Nat} {es : Ed} (hv : Valid m es) {b i : Nat} (hi : i < es.length) (v : Nat) : ((outsOf m (dirs es b)).getD v 0 = (outsOf m (dirs es (b ^^^ 2 ^ i))).getD v 0) ↔ touches v (es.getD i (0, 0)) = false := by
  have hD := dirs_length es b
  rw [outsOf_get (dirs_inR hv.inR _), outsOf_get (dirs_inR hv.inR _), dirs_flip hi]
  have hne := hv.lt _ (getD_mem (ds := es) hi)
  have hg := dirs_getD (es := es) (b := b) hi
  have hs : dirs es b = (dirs es b).take i ++ (dirs es b).getD i (0, 0) :: (dirs es b).drop (i + 1) := by
    have : (dirs es b).drop i = (dirs es b).getD i (0, 0) :: (dirs es b).drop (i + 1) := by
      rw [List.drop_eq_getElem_cons (by omega), List.getD_eq_getElem?_getD, List.getElem?_eq_getElem (by omega)]; rfl
    rw [← this, List.take_append_drop]
  have hset : ∀ y, (dirs es b).set i y = (dirs es b).take i ++ y :: (dirs es b).drop (i + 1) := fun y => by
    rw [List.set_eq_take_append_cons_drop, if_pos (by omega)]
  rw [hset]
  conv => lhs; lhs; rw [hs]
  rw [List.countP_append, List.countP_append, List.countP_cons, List.countP_cons, hg]
  generalize es.getD i (0, 0) = e at *
  obtain ⟨x, y⟩ := e
  unfold touches
  cases b.testBit i <;> by_cases h1 : x = v <;> by_cases h2 : y = v <;> simp [h1, h2] <;> simp at hne <;> omega
end Go.Proofs.Ytomaibajmlfhhaa.Lk
end
