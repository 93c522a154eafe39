/-
  FnExactScoreIs: what the program's functions and the reference's compute, joined from several texts.
-/
import Derived.Test.YtljaalhocjobeaaOps
import Derived.Test.YtljaalhocjobeaaPx3
import Derived.Test.YtljaalhocjobeaaPx4
import Derived.Test.YtljaalhocjobeaaPx11
import Derived.Test.YtljaalhocjobeaaPx2
import Derived.Test.YtljaalhocjobeaaPx9
import Derived.Test.YtljaalhocjobeaaPx15
import Derived.Test.YtljaalhocjobeaaPx18
import Derived.Test.YtljaalhocjobeaaPx22
import Derived.Test.YtljaalhocjobeaaPx12
import Derived.Test.YtljaalhocjobeaaPx6
import Derived.Test.YtljaalhocjobeaaPx5
import Derived.Test.YtljaalhocjobeaaPx59
import Derived.Test.YtljaalhocjobeaaPx58
import Derived.Test.YtljaalhocjobeaaPx60
import Derived.Test.YtljaalhocjobeaaPx61
import Derived.Test.YtljaalhocjobeaaPx16
section
/-
  WayGraph, of the program and of the reference: both tell 'gOk', for every graph; what is a graph is a sublist of all pairs.
-/
namespace Go.Proofs.Ytljaalhocjobeaa.Lk
open Go Go.RowKit Go.Proofs.YtljaalhocjobeaaW.PrintWords Go.Proofs.YtljaalhocjobeaaW.PrintLast Go.Proofs.YtljaalhocjobeaaW.PrintMore Go.Proofs.Ytljaalhocjobeaa.P Go.Proofs.Ytljaalhocjobeaa.Gw
set_option linter.unusedVariables false
set_option linter.unusedSimpArgs false

/-- edges as Go has them -/
def toS (es : Ed) : List S53 := es.map fun e => (⟨(e.1 : Int), (e.2 : Int)⟩ : S53)
theorem toS_length (es : Ed) : (toS es).length = es.length := by simp [toS]
theorem rd_toS (es : Ed) (i : Nat) : rd_T53 (toS es) (i : Int) = ⟨((es.getD i (0, 0)).1 : Int), ((es.getD i (0, 0)).2 : Int)⟩ := by
  simp [rd_T53, toS, List.getD_eq_getElem?_getD]; cases es[i]? <;> simp [z53]

theorem l6In_eq (a b c : Int) : spec_l6In.f a b c = some (decide (b ≤ a) && decide (a ≤ c)) := by
  unfold spec_l6In.f
  by_cases h : a ≥ b
  · rw [if_pos h]; simp [show b ≤ a from h]
  · rw [if_neg h]; simp [show ¬ b ≤ a from h]

def badAt (n : Int) (xs : List S53) (i : Nat) : Bool := decide ((xs.getD i z53).f0 < 0) || decide ((xs.getD i z53).f0 ≥ (xs.getD i z53).f1) || decide ((xs.getD i z53).f1 ≥ n)
def backAt (xs : List S53) (i : Nat) : Bool := decide (0 < i) && (decide ((xs.getD i z53).f0 < (xs.getD (i - 1) z53).f0) || (decide ((xs.getD i z53).f0 = (xs.getD (i - 1) z53).f0) && decide ((xs.getD i z53).f1 ≤ (xs.getD (i - 1) z53).f1)))
def okFrom (n : Int) (xs : List S53) : Nat → Nat → Bool
  | 0, _ => true
  | d + 1, i => !badAt n xs i && !backAt xs i && okFrom n xs d (i + 1)
def gOk (n : Int) (xs : List S53) : Bool := decide (1 ≤ n) && decide (n ≤ 5) && okFrom n xs xs.length 0

theorem impl_j2 {n : Int} {xs : List S53} (hl : xs.length < 2 ^ 62) {d i : Nat} (hi : i + (d + 1) = xs.length)
    (ih : Ev (fun k => impl_WayGraph.l0 k xs (xs.length : Int) ((i + 1 : Nat) : Int) n xs) (okFrom n xs d (i + 1))) :
    Ev (fun k => impl_WayGraph.j2 k (i : Int) xs (xs.length : Int) (i : Int) (badAt n xs i) n xs (xs.getD i z53).f0 (xs.getD i z53).f1) (okFrom n xs (d + 1) i) := by
  have hw1 : wrap64 ((i : Int) + 1) = ((i + 1 : Nat) : Int) := by rw [wrap_id (by omega) (by omega)]; simp
  rw [okFrom]
  cases hb : badAt n xs i with
  | true => exact Ev.step (f := fun _ => some false) (fun k => by simp only [impl_WayGraph.j2]; rw [if_pos trivial]) (by simpa using Ev.now false)
  | false =>
    by_cases h0 : 0 < i
    · have hw : wrap64 ((i : Int) - 1) = ((i - 1 : Nat) : Int) := by rw [wrap_id (by omega) (by omega)]; omega
      have hr : rd_T53 xs ((i - 1 : Nat) : Int) = xs.getD (i - 1) z53 := by simp [rd_T53]
      by_cases c1 : (xs.getD i z53).f0 < (xs.getD (i - 1) z53).f0
      · have hbk : backAt xs i = true := by simp only [backAt, h0, c1]; rfl
        rw [hbk]
        exact Ev.step (f := fun _ => some false) (fun k => by
          simp only [impl_WayGraph.j2]; rw [if_neg (by simp), if_pos (by omega), hw, if_pos (by omega), if_pos (by omega), hr, if_pos c1]) (by simpa using Ev.now false)
      · by_cases c2 : (xs.getD i z53).f0 = (xs.getD (i - 1) z53).f0
        · by_cases c3 : (xs.getD i z53).f1 ≤ (xs.getD (i - 1) z53).f1
          · have hbk : backAt xs i = true := by simp only [backAt, h0, c2, c3]; simp
            rw [hbk]
            exact Ev.step (f := fun _ => some false) (fun k => by
              simp only [impl_WayGraph.j2]; rw [if_neg (by simp), if_pos (by omega), hw, if_pos (by omega), if_pos (by omega), hr, if_neg c1, if_pos c2, if_pos c3]) (by simpa using Ev.now false)
          · have hbk : backAt xs i = false := by simp only [backAt, c1, c3]; simp
            rw [hbk]
            refine Ev.step (f := fun k => impl_WayGraph.l0 k xs (xs.length : Int) ((i + 1 : Nat) : Int) n xs) (fun k => by
              simp only [impl_WayGraph.j2]; rw [if_neg (by simp), if_pos (by omega), hw, if_pos (by omega), if_pos (by omega), hr, if_neg c1, if_pos c2, if_neg c3, hw1]) (by simpa using ih)
        · have hbk : backAt xs i = false := by simp only [backAt, c1, c2]; simp
          rw [hbk]
          refine Ev.step (f := fun k => impl_WayGraph.l0 k xs (xs.length : Int) ((i + 1 : Nat) : Int) n xs) (fun k => by
            simp only [impl_WayGraph.j2]; rw [if_neg (by simp), if_pos (by omega), hw, if_pos (by omega), if_pos (by omega), hr, if_neg c1, if_neg c2, hw1]) (by simpa using ih)
    · have hbk : backAt xs i = false := by simp only [backAt, h0]; simp
      rw [hbk]
      refine Ev.step (f := fun k => impl_WayGraph.l0 k xs (xs.length : Int) ((i + 1 : Nat) : Int) n xs) (fun k => by
        simp only [impl_WayGraph.j2]; rw [if_neg (by simp), if_neg (by omega), hw1]) (by simpa using ih)
theorem impl_l0 {n : Int} {xs : List S53} (hl : xs.length < 2 ^ 62) : ∀ d i : Nat, i + d = xs.length →
    Ev (fun k => impl_WayGraph.l0 k xs (xs.length : Int) (i : Int) n xs) (okFrom n xs d i) := by
  intro d
  induction d with
  | zero => intro i hi; exact Ev.step (f := fun _ => some true) (fun k => by simp only [impl_WayGraph.l0]; rw [if_neg (by omega)]) (Ev.now true)
  | succ d ih =>
    intro i hi
    refine Ev.step (f := fun k => impl_WayGraph.j2 k (i : Int) xs (xs.length : Int) (i : Int) (badAt n xs i) n xs (xs.getD i z53).f0 (xs.getD i z53).f1) (fun k => ?_) (impl_j2 hl hi (ih (i + 1) (by omega)))
    have hr : rd_T53 xs (i : Int) = xs.getD i z53 := by simp [rd_T53]
    simp only [impl_WayGraph.l0]
    rw [if_pos (by omega), if_pos (by omega), if_pos (by omega), hr]
    unfold badAt
    by_cases c1 : (xs.getD i z53).f0 < 0
    · rw [if_pos c1, decide_eq_true c1]; rfl
    · rw [if_neg c1]
      by_cases c2 : (xs.getD i z53).f0 ≥ (xs.getD i z53).f1
      · rw [if_pos c2, decide_eq_true c2]; simp
      · rw [if_neg c2, decide_eq_false c1, decide_eq_false c2]; simp
theorem impl_wayGraph {n : Int} {xs : List S53} (hl : xs.length < 2 ^ 62) : Ev (fun k => impl_WayGraph.f k n xs) (gOk n xs) := by
  unfold gOk
  by_cases h1 : n < 1
  · rw [decide_eq_false (show ¬ 1 ≤ n by omega)]
    refine Ev.congr (f := fun k => impl_WayGraph.j0 k true n xs) (fun k => by unfold impl_WayGraph.f; rw [if_pos h1]) ?_
    exact Ev.step (f := fun _ => some false) (fun k => by simp only [impl_WayGraph.j0]; rw [if_pos trivial]) (Ev.now false)
  · rw [decide_eq_true (show 1 ≤ n by omega)]
    refine Ev.congr (f := fun k => impl_WayGraph.j0 k (decide (n > 5)) n xs) (fun k => by unfold impl_WayGraph.f; rw [if_neg h1]) ?_
    by_cases h2 : n > 5
    · rw [decide_eq_true h2, decide_eq_false (show ¬ n ≤ 5 by omega)]
      exact Ev.step (f := fun _ => some false) (fun k => by simp only [impl_WayGraph.j0]; rw [if_pos trivial]) (Ev.now false)
    · rw [decide_eq_false h2, decide_eq_true (show n ≤ 5 by omega)]
      refine Ev.step (f := fun k => impl_WayGraph.l0 k xs (xs.length : Int) ((0 : Nat) : Int) n xs) (fun k => by simp only [impl_WayGraph.j0]; rw [if_neg (by simp)]; rfl) ?_
      simpa using impl_l0 (n := n) hl xs.length 0 (by omega)

theorem spec_j1 {n : Int} {xs : List S53} (hl : xs.length < 2 ^ 62) {d i : Nat} (hi : i + (d + 1) = xs.length) (r : Bool)
    (ih : Ev (fun k => spec_WayGraph.l0 k ((i + 1 : Nat) : Int) n xs) r) :
    Ev (fun k => spec_WayGraph.j1 k (i : Int) false n xs (xs.getD i z53).f0 (xs.getD i z53).f1) (!backAt xs i && r) := by
  have hw1 : wrap64 ((i : Int) + 1) = ((i + 1 : Nat) : Int) := by rw [wrap_id (by omega) (by omega)]; simp
  by_cases h0 : 0 < i
  · have hw : wrap64 ((i : Int) - 1) = ((i - 1 : Nat) : Int) := by rw [wrap_id (by omega) (by omega)]; omega
    have hr : rd_T53 xs ((i - 1 : Nat) : Int) = xs.getD (i - 1) z53 := by simp [rd_T53]
    by_cases c1 : (xs.getD i z53).f0 < (xs.getD (i - 1) z53).f0
    · have hbk : backAt xs i = true := by simp only [backAt, h0, c1]; rfl
      rw [hbk]
      exact Ev.step (f := fun _ => some false) (fun k => by
        simp only [spec_WayGraph.j1]; rw [if_neg (by simp), if_pos (by omega), hw, if_pos (by omega), if_pos (by omega), hr, if_pos c1]) (by simpa using Ev.now false)
    · by_cases c2 : (xs.getD i z53).f0 = (xs.getD (i - 1) z53).f0
      · by_cases c3 : (xs.getD i z53).f1 ≤ (xs.getD (i - 1) z53).f1
        · have hbk : backAt xs i = true := by simp only [backAt, h0, c2, c3]; simp
          rw [hbk]
          exact Ev.step (f := fun _ => some false) (fun k => by
            simp only [spec_WayGraph.j1]; rw [if_neg (by simp), if_pos (by omega), hw, if_pos (by omega), if_pos (by omega), hr, if_neg c1, if_pos c2, if_pos c3]) (by simpa using Ev.now false)
        · have hbk : backAt xs i = false := by simp only [backAt, c1, c3]; simp
          rw [hbk]
          refine Ev.step (f := fun k => spec_WayGraph.l0 k ((i + 1 : Nat) : Int) n xs) (fun k => by
            simp only [spec_WayGraph.j1]; rw [if_neg (by simp), if_pos (by omega), hw, if_pos (by omega), if_pos (by omega), hr, if_neg c1, if_pos c2, if_neg c3, hw1]) (by simpa using ih)
      · have hbk : backAt xs i = false := by simp only [backAt, c1, c2]; simp
        rw [hbk]
        refine Ev.step (f := fun k => spec_WayGraph.l0 k ((i + 1 : Nat) : Int) n xs) (fun k => by
          simp only [spec_WayGraph.j1]; rw [if_neg (by simp), if_pos (by omega), hw, if_pos (by omega), if_pos (by omega), hr, if_neg c1, if_neg c2, hw1]) (by simpa using ih)
  · have hbk : backAt xs i = false := by simp only [backAt, h0]; simp
    rw [hbk]
    refine Ev.step (f := fun k => spec_WayGraph.l0 k ((i + 1 : Nat) : Int) n xs) (fun k => by
      simp only [spec_WayGraph.j1]; rw [if_neg (by simp), if_neg (by omega), hw1]) (by simpa using ih)
theorem spec_l0_step {n : Int} {xs : List S53} {i : Nat} (hi : i < xs.length) : ∃ b : Bool,
    (b = (!(decide (0 ≤ (xs.getD i z53).f0) && decide ((xs.getD i z53).f0 ≤ wrap64 (n - 1)) && (decide (wrap64 ((xs.getD i z53).f0 + 1) ≤ (xs.getD i z53).f1) && decide ((xs.getD i z53).f1 ≤ wrap64 (n - 1)))))) ∧
    ∀ k, spec_WayGraph.l0 (k + 1) (i : Int) n xs = spec_WayGraph.j1 k (i : Int) b n xs (xs.getD i z53).f0 (xs.getD i z53).f1 := by
  refine ⟨_, rfl, fun k => ?_⟩
  have hr : rd_T53 xs (i : Int) = xs.getD i z53 := by simp [rd_T53]
  simp only [spec_WayGraph.l0]
  rw [if_pos (by omega), if_pos (by omega), hr, l6In_eq, l6In_eq]
  simp only [Option.bind_some]
  cases (decide (0 ≤ (xs.getD i z53).f0) && decide ((xs.getD i z53).f0 ≤ wrap64 (n - 1))) <;> simp
theorem spec_l0_ok {n : Int} (h1 : 1 ≤ n) (h5 : n ≤ 5) {xs : List S53} (hl : xs.length < 2 ^ 62) : ∀ d i : Nat, i + d = xs.length →
    Ev (fun k => spec_WayGraph.l0 k (i : Int) n xs) (okFrom n xs d i) := by
  intro d
  induction d with
  | zero =>
    intro i hi
    exact Ev.step (f := fun _ => some true) (fun k => by simp only [spec_WayGraph.l0]; rw [if_neg (by omega), l6In_eq]; simp [h1, h5]) (Ev.now true)
  | succ d ih =>
    intro i hi
    obtain ⟨b, hb, hs⟩ := spec_l0_step (n := n) (xs := xs) (i := i) (by omega)
    have hbad : b = badAt n xs i := by
      rw [hb]; unfold badAt
      rw [wrap_id (x := n - 1) (by omega) (by omega)]
      by_cases c1 : 0 ≤ (xs.getD i z53).f0
      · by_cases c2 : (xs.getD i z53).f0 ≤ n - 1
        · rw [wrap_id (x := (xs.getD i z53).f0 + 1) (by omega) (by omega), decide_eq_true c1, decide_eq_true c2, decide_eq_false (show ¬ (xs.getD i z53).f0 < 0 by omega)]
          by_cases c3 : (xs.getD i z53).f0 + 1 ≤ (xs.getD i z53).f1
          · rw [decide_eq_true c3, decide_eq_false (show ¬ (xs.getD i z53).f0 ≥ (xs.getD i z53).f1 by omega)]
            by_cases c4 : (xs.getD i z53).f1 ≤ n - 1
            · rw [decide_eq_true c4, decide_eq_false (show ¬ (xs.getD i z53).f1 ≥ n by omega)]; rfl
            · rw [decide_eq_false c4, decide_eq_true (show (xs.getD i z53).f1 ≥ n by omega)]; rfl
          · rw [decide_eq_false c3, decide_eq_true (show (xs.getD i z53).f0 ≥ (xs.getD i z53).f1 by omega)]; rfl
        · rw [decide_eq_true c1, decide_eq_false c2]
          by_cases c3 : (xs.getD i z53).f0 ≥ (xs.getD i z53).f1
          · rw [decide_eq_true c3]; simp
          · rw [decide_eq_true (show (xs.getD i z53).f1 ≥ n by omega)]; simp
      · rw [decide_eq_false c1, decide_eq_true (show (xs.getD i z53).f0 < 0 by omega)]; simp
    refine Ev.step (f := fun k => spec_WayGraph.j1 k (i : Int) b n xs (xs.getD i z53).f0 (xs.getD i z53).f1) hs ?_
    rw [okFrom, hbad]
    cases badAt n xs i with
    | true => exact Ev.step (f := fun _ => some false) (fun k => by simp only [spec_WayGraph.j1]; rw [if_pos trivial]) (by simpa using Ev.now false)
    | false => simpa using spec_j1 hl hi _ (ih (i + 1) (by omega))
theorem spec_l0_no {n : Int} (hn : ¬ (1 ≤ n ∧ n ≤ 5)) {xs : List S53} (hl : xs.length < 2 ^ 62) : ∀ d i : Nat, i + d = xs.length →
    Ev (fun k => spec_WayGraph.l0 k (i : Int) n xs) false := by
  intro d
  induction d with
  | zero =>
    intro i hi
    exact Ev.step (f := fun _ => some false) (fun k => by
      simp only [spec_WayGraph.l0]; rw [if_neg (by omega), l6In_eq]
      have : (decide (1 ≤ n) && decide (n ≤ 5)) = false := by
        by_cases h : 1 ≤ n
        · rw [decide_eq_false (show ¬ n ≤ 5 by omega)]; simp
        · rw [decide_eq_false h]; rfl
      rw [this]; rfl) (Ev.now false)
  | succ d ih =>
    intro i hi
    obtain ⟨b, hb, hs⟩ := spec_l0_step (n := n) (xs := xs) (i := i) (by omega)
    refine Ev.step (f := fun k => spec_WayGraph.j1 k (i : Int) b n xs (xs.getD i z53).f0 (xs.getD i z53).f1) hs ?_
    cases b with
    | true => exact Ev.step (f := fun _ => some false) (fun k => by simp only [spec_WayGraph.j1]; rw [if_pos trivial]) (by simpa using Ev.now false)
    | false => simpa using spec_j1 hl hi _ (ih (i + 1) (by omega))
theorem spec_wayGraph {n : Int} {xs : List S53} (hl : xs.length < 2 ^ 62) : Ev (fun k => spec_WayGraph.f k n xs) (gOk n xs) := by
  refine Ev.congr (f := fun k => spec_WayGraph.l0 k ((0 : Nat) : Int) n xs) (fun k => rfl) ?_
  unfold gOk
  by_cases h : 1 ≤ n ∧ n ≤ 5
  · rw [decide_eq_true h.1, decide_eq_true h.2]
    simpa using spec_l0_ok h.1 h.2 hl xs.length 0 (by omega)
  · have : (decide (1 ≤ n) && decide (n ≤ 5)) = false := by
      by_cases h1 : 1 ≤ n
      · rw [decide_eq_false (show ¬ n ≤ 5 by omega)]; simp
      · rw [decide_eq_false h1]; rfl
    rw [this]
    exact spec_l0_no h hl xs.length 0 (by omega)

/-! what is a graph -/
def lexlt (a b : Nat × Nat) : Prop := a.1 < b.1 ∨ a.1 = b.1 ∧ a.2 < b.2
instance (a b : Nat × Nat) : Decidable (lexlt a b) := inferInstanceAs (Decidable (_ ∨ _ ∧ _))
theorem lexlt_irrefl (a : Nat × Nat) : ¬ lexlt a a := by unfold lexlt; omega
theorem lexlt_trans (a b c : Nat × Nat) (h : lexlt a b) (k : lexlt b c) : lexlt a c := by unfold lexlt at *; omega
/-- a graph: its edges are some of all pairs, in order -/
structure Valid (m : Nat) (es : Ed) : Prop where
  pos : 1 ≤ m
  le : m ≤ 5
  sub : es.Sublist (pairs m)

theorem okFrom_at {n : Int} {xs : List S53} : ∀ d i : Nat, okFrom n xs d i = true → ∀ j, i ≤ j → j < i + d → badAt n xs j = false ∧ backAt xs j = false := by
  intro d
  induction d with
  | zero => intro i _ j h1 h2; omega
  | succ d ih =>
    intro i h j h1 h2
    rw [okFrom] at h
    simp only [Bool.and_eq_true, Bool.not_eq_true'] at h
    by_cases e : j = i
    · subst e; exact h.1
    · exact ih (i + 1) h.2 j (by omega) (by omega)
theorem pairs_sorted : ∀ m, m ≤ 5 → (pairs m).Pairwise lexlt := by
  intro m hm
  exact (show ∀ m, m < 6 → (pairs m).Pairwise lexlt by decide) m (by omega)
theorem mem_pairs : ∀ m, m ≤ 5 → ∀ a b, a < b → b < m → (a, b) ∈ pairs m := by
  intro m hm a b h1 h2
  have key : ∀ m, m < 6 → ∀ b, b < m → ∀ a, a < b → (pairs m).contains (a, b) = true := by decide
  exact List.contains_iff_mem.mp (key m (by omega) b h2 a h1)
theorem pairs_mem : ∀ m, m < 6 → ∀ e ∈ pairs m, e.1 < e.2 ∧ e.2 < m := by decide
theorem pairs_length : ∀ m, m < 6 → (pairs m).length ≤ 10 := by decide
theorem gOk_valid {n : Int} {xs : List S53} (h : gOk n xs = true) : ∃ (m : Nat) (es : Ed), n = (m : Int) ∧ xs = toS es ∧ Valid m es := by
  unfold gOk at h
  simp only [Bool.and_eq_true, decide_eq_true_eq] at h
  obtain ⟨⟨h1, h5⟩, hok⟩ := h
  have hat := okFrom_at xs.length 0 hok
  obtain ⟨m, rfl⟩ := Int.eq_ofNat_of_zero_le (show 0 ≤ n by omega)
  have hb : ∀ j (hj : j < xs.length), 0 ≤ (xs[j]).f0 ∧ (xs[j]).f0 < (xs[j]).f1 ∧ (xs[j]).f1 < (m : Int) := by
    intro j hj
    have := (hat j (by omega) (by omega)).1
    simp only [badAt, List.getD_eq_getElem?_getD, List.getElem?_eq_getElem hj, Option.getD_some, Bool.or_eq_false_iff, decide_eq_false_iff_not] at this
    omega
  have hk : ∀ j (hj : j + 1 < xs.length), (xs[j]).f0 < (xs[j + 1]).f0 ∨ (xs[j]).f0 = (xs[j + 1]).f0 ∧ (xs[j]).f1 < (xs[j + 1]).f1 := by
    intro j hj
    have := (hat (j + 1) (by omega) (by omega)).2
    simp only [backAt, List.getD_eq_getElem?_getD, List.getElem?_eq_getElem hj, Nat.add_sub_cancel, List.getElem?_eq_getElem (show j < xs.length by omega), Option.getD_some, Bool.and_eq_false_iff, Bool.or_eq_false_iff, decide_eq_false_iff_not] at this
    omega
  refine ⟨m, xs.map fun e => (e.f0.toNat, e.f1.toNat), rfl, ?_, by omega, by omega, ?_⟩
  · apply List.ext_getElem (by simp [toS])
    intro j h2 h3
    have := hb j h2
    have e0 : ((xs[j]).f0.toNat : Int) = (xs[j]).f0 := by omega
    have e1 : ((xs[j]).f1.toNat : Int) = (xs[j]).f1 := by omega
    simp only [toS, List.getElem_map, e0, e1]
  · apply sublist_of_sorted lexlt lexlt_irrefl lexlt_trans _ _ (pairs_sorted m (by omega))
    · rw [List.pairwise_iff_getElem]
      have step : ∀ (c i : Nat) (hj : i + c + 1 < xs.length), lexlt ((xs[i]).f0.toNat, (xs[i]).f1.toNat) ((xs[i + c + 1]).f0.toNat, (xs[i + c + 1]).f1.toNat) := by
        intro c
        induction c with
        | zero =>
          intro i hj
          have a := hb i (by omega); have b := hb (i + 1) (by omega); have c := hk i (by omega)
          unfold lexlt; simp only [Nat.add_zero]; omega
        | succ c ih =>
          intro i hj
          refine lexlt_trans _ _ _ (ih i (by omega)) ?_
          have a := hb (i + c + 1) (by omega); have b := hb (i + c + 1 + 1) (by omega); have c' := hk (i + c + 1) (by omega)
          unfold lexlt; simp only [show i + (c + 1) + 1 = i + c + 1 + 1 by omega]; omega
      intro i j hi hj hij
      simp only [List.length_map] at hi hj
      have := step (j - i - 1) i (by omega)
      simp only [show i + (j - i - 1) + 1 = j by omega] at this
      simpa using this
    · intro x hx
      obtain ⟨e, he, rfl⟩ := List.mem_map.mp hx
      obtain ⟨j, hj, rfl⟩ := List.getElem_of_mem he
      have := hb j hj
      exact mem_pairs m (by omega) _ _ (by omega) (by omega)
namespace Valid
variable {m : Nat} {es : Ed}
theorem inR (h : Valid m es) : InR m es := fun e he => by
  have := pairs_mem m (by have := h.le; omega) e (h.sub.subset he); omega
theorem lt (h : Valid m es) : ∀ e ∈ es, e.1 < e.2 := fun e he => (pairs_mem m (by have := h.le; omega) e (h.sub.subset he)).1
theorem len (h : Valid m es) : es.length ≤ 10 := Nat.le_trans h.sub.length_le (pairs_length m (by have := h.le; omega))
theorem sorted (h : Valid m es) : es.Pairwise lexlt := List.Pairwise.sublist h.sub (pairs_sorted m h.le)
theorem nodup (h : Valid m es) : es.Nodup := List.Pairwise.imp (fun {a b} hab => by rintro rfl; exact lexlt_irrefl _ hab) h.sorted
end Valid
end Go.Proofs.Ytljaalhocjobeaa.Lk
end

section
/-
  What the exact laws do round their calls: the graph's size, its copy, and that the copy is still the same.
-/
namespace Go.Proofs.Ytljaalhocjobeaa.Lk
open Go Go.RowKit Go.Proofs.YtljaalhocjobeaaW.PrintWords Go.Proofs.YtljaalhocjobeaaW.PrintLast Go.Proofs.YtljaalhocjobeaaW.PrintMore Go.Proofs.Ytljaalhocjobeaa.P Go.Proofs.Ytljaalhocjobeaa.Gw
set_option linter.unusedVariables false
set_option linter.unusedSimpArgs false

def cv (xs : List S63) : List S53 := xs.map fun e => (⟨e.f0, e.f1⟩ : S53)
theorem cv_length (xs : List S63) : (cv xs).length = xs.length := by simp [cv]
theorem sz_big {n : Int} {xs : List S63} (h : 1048576 < xs.length) (hm : xs.length ≤ 9223372036854775807) : laws_szGraph.f n xs 1048576 = some (-1) := by
  unfold laws_szGraph.f laws_szEdgeS.f
  rw [wrap_id (by omega) (by omega), if_pos (by omega)]; rfl
theorem sz_small {n : Int} {xs : List S63} (h : xs.length ≤ 1048576) : laws_szGraph.f n xs 1048576 = some (1048576 - (xs.length : Int)) := by
  unfold laws_szGraph.f laws_szEdgeS.f
  rw [wrap_id (by omega) (by omega), if_neg (by omega)]
  simp only [Option.bind_some]
  rw [if_neg (by omega)]
theorem toEdgeS_l0 {xs : List S63} (h : xs.length ≤ 1048576) : ∀ (d i : Nat), i + d = xs.length →
    Ev (fun k => laws_toEdgeS.l0 k xs ((cv xs).take i ++ List.replicate d z53) (i : Int)) (cv xs) := by
  intro d
  induction d with
  | zero =>
    intro i hi
    refine Ev.step (f := fun _ => some (cv xs)) (fun k => ?_) (Ev.now _)
    simp only [laws_toEdgeS.l0]
    rw [if_neg (by omega), List.take_of_length_le (by rw [cv_length]; omega)]; simp
  | succ d ih =>
    intro i hi
    refine Ev.step (f := fun k => laws_toEdgeS.l0 k xs ((cv xs).take (i + 1) ++ List.replicate d z53) ((i + 1 : Nat) : Int)) (fun k => ?_) (ih (i + 1) (by omega))
    have hli : i < xs.length := by omega
    have hr : rd_T63 xs (i : Int) = xs[i] := by simp [rd_T63, List.getD_eq_getElem?_getD, List.getElem?_eq_getElem hli]
    have hset : ((cv xs).take i ++ List.replicate (d + 1) z53).set i (⟨(xs[i]).f0, (xs[i]).f1⟩ : S53) = (cv xs).take (i + 1) ++ List.replicate d z53 := by
      have ht : ((cv xs).take i).length = i := by rw [List.length_take, cv_length]; omega
      rw [List.set_append_right i _ (by omega), ht, Nat.sub_self, List.replicate_succ, List.set_cons_zero, List.take_succ_eq_append_getElem (by rw [cv_length]; exact hli)]
      simp [cv]
    simp only [laws_toEdgeS.l0]
    rw [if_pos (by omega), if_pos (by omega), hr]
    simp only [laws_toEdge.f, Option.bind_some]
    rw [if_pos (by simp only [List.length_append, List.length_take, cv_length, List.length_replicate]; omega), Int.toNat_natCast, hset, wrap_id (by omega) (by omega)]
    simp
theorem toGraph_ev {n : Int} {xs : List S63} (h : xs.length ≤ 1048576) : Ev (fun k => laws_toGraph.f k n xs) (n, cv xs) := by
  have key : Ev (fun k => laws_toEdgeS.f k xs) (cv xs) := by
    refine Ev.congr (f := fun k => laws_toEdgeS.l0 k xs ((cv xs).take 0 ++ List.replicate xs.length z53) ((0 : Nat) : Int)) (fun k => ?_) (toEdgeS_l0 h xs.length 0 (by omega))
    unfold laws_toEdgeS.f
    rw [if_pos (by omega), if_pos (by omega)]; simp
  unfold laws_toGraph.f
  exact Ev.bind key (Ev.now _)
theorem eqEdgeS_l0 {xs : List S53} (h : xs.length < 2 ^ 62) : ∀ (d i : Nat), i + d = xs.length → Ev (fun k => laws_eqEdgeS.l0 k xs xs (i : Int)) true := by
  intro d
  induction d with
  | zero => intro i hi; exact Ev.step (f := fun _ => some true) (fun k => by simp only [laws_eqEdgeS.l0]; rw [if_neg (by omega)]) (Ev.now _)
  | succ d ih =>
    intro i hi
    refine Ev.step (f := fun k => laws_eqEdgeS.l0 k xs xs ((i + 1 : Nat) : Int)) (fun k => ?_) (ih (i + 1) (by omega))
    simp only [laws_eqEdgeS.l0]
    rw [if_pos (by omega), if_pos (by omega), if_pos (by omega)]
    simp only [laws_eqEdge.f, if_true, Option.bind_some]
    rw [wrap_id (by omega) (by omega)]; simp
theorem eqGraph_ev {n : Int} {xs : List S53} (h : xs.length < 2 ^ 62) : Ev (fun k => laws_eqGraph.f k n xs n xs) true := by
  have key : Ev (fun k => laws_eqEdgeS.f k xs xs) true := by
    refine Ev.congr (f := fun k => laws_eqEdgeS.l0 k xs xs ((0 : Nat) : Int)) (fun k => ?_) (eqEdgeS_l0 h xs.length 0 (by omega))
    unfold laws_eqEdgeS.f; rw [if_pos rfl]; rfl
  refine Ev.congr (f := fun k => (laws_eqEdgeS.f k xs xs).bind fun t => if t = true then some true else some false) (fun k => ?_) (Ev.bind key (by simpa using Ev.now true))
  unfold laws_eqGraph.f; rw [if_pos rfl]
theorem big_or (xs : List S63) (hm : xs.length ≤ 9223372036854775807) : (∀ n : Int, laws_szGraph.f n xs 1048576 = some (-1)) ∨ xs.length ≤ 1048576 := by
  by_cases h : 1048576 < xs.length
  · exact .inl fun n => sz_big h hm
  · exact .inr (by omega)
theorem sz_neg {xs : List S63} (h : xs.length ≤ 1048576) : ¬ ((1048576 - (xs.length : Int)) < 0) := by omega
end Go.Proofs.Ytljaalhocjobeaa.Lk
end

section
/-
  WayIn, of the program and of the reference: both tell 'wIn'; the direction turned.
-/
namespace Go.Proofs.Ytljaalhocjobeaa.Lk
open Go Go.RowKit Go.Proofs.YtljaalhocjobeaaW.PrintWords Go.Proofs.YtljaalhocjobeaaW.PrintLast Go.Proofs.YtljaalhocjobeaaW.PrintMore Go.Proofs.Ytljaalhocjobeaa.P Go.Proofs.Ytljaalhocjobeaa.Gw
set_option linter.unusedVariables false
set_option linter.unusedSimpArgs false

/-- a direction of a graph -/
def wIn (n : Int) (xs : List S53) (o : Int) : Bool := gOk n xs && (decide (0 ≤ o) && decide (o < ((2 ^ xs.length : Nat) : Int)))
theorem gOk_len {n : Int} {xs : List S53} (h : gOk n xs = true) : xs.length ≤ 10 := by
  obtain ⟨m, es, _, rfl, hv⟩ := gOk_valid h
  rw [toS_length]; exact hv.len
theorem pow_le {l : Nat} (h : l ≤ 10) : 2 ^ l ≤ 1024 := Nat.pow_le_pow_right (n := 2) (j := 10) (by omega) h
theorem impl_wayIn {n o : Int} {xs : List S53} (hl : xs.length < 2 ^ 62) : Ev (fun k => impl_WayIn.f k n xs o) (wIn n xs o) := by
  unfold impl_WayIn.f wIn
  refine Ev.bind (impl_wayGraph hl) ?_
  cases hg : gOk n xs with
  | false => simpa using Ev.now false
  | true =>
    have h10 := gOk_len hg
    simp only [if_true, Bool.true_and, shl_nat (show xs.length ≤ 61 by omega)]
    by_cases h : o ≥ 0
    · simp only [if_pos h]; rw [decide_eq_true (show 0 ≤ o from h)]; exact Ev.now _
    · simp only [if_neg h]; rw [decide_eq_false (show ¬ 0 ≤ o from h)]; exact Ev.now _
theorem spec_wayIn {n o : Int} {xs : List S53} (hl : xs.length < 2 ^ 62) : Ev (fun k => spec_WayIn.f k n xs o) (wIn n xs o) := by
  unfold spec_WayIn.f wIn
  refine Ev.bind (spec_wayGraph hl) ?_
  cases hg : gOk n xs with
  | false => simpa using Ev.now false
  | true =>
    have h10 := gOk_len hg
    have hp := pow_le h10
    simp only [if_true, Bool.true_and, shl_nat (show xs.length ≤ 61 by omega)]
    generalize 2 ^ xs.length = p at hp
    rw [wrap_id (x := (p : Int) - 1) (by omega) (by omega)]
    simp only [l6In_eq, Option.bind_some]
    have : decide (o ≤ (p : Int) - 1) = decide (o < (p : Int)) := by rw [decide_eq_decide]; omega
    rw [this]; exact Ev.now _
theorem wIn_valid {n o : Int} {xs : List S53} (h : wIn n xs o = true) : ∃ (m : Nat) (es : Ed) (b : Nat), n = (m : Int) ∧ xs = toS es ∧ Valid m es ∧ o = (b : Int) ∧ b < 2 ^ es.length := by
  unfold wIn at h
  simp only [Bool.and_eq_true, decide_eq_true_eq] at h
  obtain ⟨m, es, rfl, rfl, hv⟩ := gOk_valid h.1
  obtain ⟨b, rfl⟩ := Int.eq_ofNat_of_zero_le h.2.1
  refine ⟨m, es, b, rfl, rfl, hv, rfl, ?_⟩
  have := h.2.2; rw [toS_length] at this
  exact Int.ofNat_lt.mp this
theorem valid_gOk_iff {m : Nat} {es : Ed} (hv : Valid m es) : gOk (m : Int) (toS es) = true := by
  unfold gOk
  have h1 := hv.pos; have h5 := hv.le
  rw [decide_eq_true (show 1 ≤ (m : Int) by omega), decide_eq_true (show (m : Int) ≤ 5 by omega)]
  have key : ∀ d i : Nat, i + d = (toS es).length → okFrom (m : Int) (toS es) d i = true := by
    intro d
    induction d with
    | zero => intro i _; rfl
    | succ d ih =>
      intro i hi
      rw [okFrom, ih (i + 1) (by omega)]
      rw [toS_length] at hi
      have hi' : i < es.length := by omega
      have g : ∀ j (hj : j < es.length), (toS es).getD j z53 = ⟨((es[j]).1 : Int), ((es[j]).2 : Int)⟩ := fun j hj => by
        simp [toS, List.getD_eq_getElem?_getD, List.getElem?_map, List.getElem?_eq_getElem hj]
      have hlt := hv.lt _ (List.getElem_mem hi')
      have hr := hv.inR _ (List.getElem_mem hi')
      have hb : badAt (m : Int) (toS es) i = false := by
        simp only [badAt, g i hi', Bool.or_eq_false_iff, decide_eq_false_iff_not]; omega
      have hk : backAt (toS es) i = false := by
        by_cases h0 : 0 < i
        · have hs := List.pairwise_iff_getElem.mp hv.sorted (i - 1) i (by omega) hi' (by omega)
          unfold lexlt at hs
          simp only [backAt, g i hi', g (i - 1) (by omega), Bool.and_eq_false_iff, Bool.or_eq_false_iff, decide_eq_false_iff_not]
          omega
        · simp [backAt, h0]
      rw [hb, hk]; rfl
  rw [key _ 0 (by omega)]; rfl
theorem wIn_iff {m : Nat} {es : Ed} (hv : Valid m es) (b : Nat) : wIn (m : Int) (toS es) (b : Int) = decide (b < 2 ^ es.length) := by
  unfold wIn; rw [valid_gOk_iff hv, toS_length, decide_eq_true (show (0 : Int) ≤ (b : Int) by omega), Bool.true_and, Bool.true_and, decide_eq_decide]
  exact Int.ofNat_lt
/-- turned: all bits the other way -/
def tn (l b : Nat) : Nat := 2 ^ l - 1 - b
theorem tn_lt {l b : Nat} : tn l b < 2 ^ l := by unfold tn; have := Nat.two_pow_pos l; omega
theorem tn_bit {l b : Nat} (h : b < 2 ^ l) (i : Nat) : (tn l b).testBit i = (decide (i < l) && !b.testBit i) := by
  unfold tn; rw [show 2 ^ l - 1 - b = 2 ^ l - (b + 1) by omega]; exact Nat.testBit_two_pow_sub_succ h i
theorem tn_xor {l b : Nat} (h : b < 2 ^ l) : b ^^^ (2 ^ l - 1) = tn l b := by
  apply Nat.eq_of_testBit_eq; intro i
  rw [tn_bit h, Nat.testBit_xor, full_bit]
  by_cases hi : i < l
  · simp [hi]
  · simp [hi, Nat.testBit_lt_two_pow (Nat.lt_of_lt_of_le h (Nat.pow_le_pow_right (n := 2) (by omega) (Nat.le_of_not_lt hi)))]
theorem tn_tn {l b : Nat} (h : b < 2 ^ l) : tn l (tn l b) = b := by unfold tn; omega
theorem dirs_tn : ∀ (es : Ed) (b : Nat), b < 2 ^ es.length → dirs es (tn es.length b) = rev (dirs es b) := by
  intro es b hb
  apply List.ext_getElem? ; intro i
  rw [rev, List.getElem?_map, dirs_get, dirs_get]
  cases h : es[i]? with
  | none => rfl
  | some e =>
    have hi : i < es.length := (List.getElem?_eq_some_iff.mp h).1
    simp only [Option.map_some, tn_bit hb, hi, decide_true, Bool.true_and]
    cases b.testBit i <;> rfl
end Go.Proofs.Ytljaalhocjobeaa.Lk
end

section
/-
  Directed edges of a graph and a direction: facts that both sides use.
-/
namespace Go.Proofs.Ytljaalhocjobeaa.Lk
open Go Go.RowKit Go.Proofs.YtljaalhocjobeaaW.PrintWords Go.Proofs.YtljaalhocjobeaaW.PrintLast Go.Proofs.YtljaalhocjobeaaW.PrintMore Go.Proofs.Ytljaalhocjobeaa.P Go.Proofs.Ytljaalhocjobeaa.Gw
set_option linter.unusedVariables false
set_option linter.unusedSimpArgs false
theorem dirs_inR {m : Nat} {es : Ed} (hv : InR m es) (b : Nat) : InR m (dirs es b) := by
  intro e he
  obtain ⟨i, hi⟩ := List.getElem?_of_mem he
  rw [dirs_get] at hi
  obtain ⟨x, hx, rfl⟩ := Option.map_eq_some_iff.mp hi
  have := hv x (List.mem_of_getElem? hx)
  cases b.testBit i <;> simp [this.1, this.2]
theorem take_inR {m : Nat} {ds : Ed} (h : InR m ds) (i : Nat) : InR m (ds.take i) := fun e he => h e (List.mem_of_mem_take he)
theorem dirs_getD {es : Ed} {b i : Nat} (hi : i < es.length) : (dirs es b).getD i (0, 0) = bif b.testBit i then ((es.getD i (0, 0)).2, (es.getD i (0, 0)).1) else es.getD i (0, 0) := by
  simp only [List.getD_eq_getElem?_getD, dirs_get, List.getElem?_eq_getElem hi, Option.map_some, Option.getD_some]
theorem take_snoc {ds : Ed} {i : Nat} (hi : i < ds.length) : ds.take (i + 1) = ds.take i ++ [ds.getD i (0, 0)] := by
  rw [List.take_succ_eq_append_getElem hi, List.getD_eq_getElem?_getD, List.getElem?_eq_getElem hi]; rfl
theorem getD_mem {ds : Ed} {i : Nat} (hi : i < ds.length) : ds.getD i (0, 0) ∈ ds := by
  rw [List.getD_eq_getElem?_getD, List.getElem?_eq_getElem hi]; exact List.getElem_mem hi
theorem dirs_nodup {m : Nat} {es : Ed} (hv : Valid m es) (b : Nat) : (dirs es b).Nodup := by
  have key : (dirs es b).map (fun e => if e.1 < e.2 then e else (e.2, e.1)) = es := by
    apply List.ext_getElem?; intro i
    rw [List.getElem?_map, dirs_get]
    cases h : es[i]? with
    | none => rfl
    | some e =>
      have := hv.lt e (List.mem_of_getElem? h)
      simp only [Option.map_some]
      cases b.testBit i
      · simp [this]
      · simp only [cond_true]; rw [if_neg (by omega)]
  have h2 := hv.nodup
  rw [← key] at h2
  have h3 := List.pairwise_map.mp h2
  exact List.Pairwise.imp (fun {a b} hab e => hab (by rw [e])) h3
theorem five {m : Nat} {es : Ed} (hv : Valid m es) : m ≤ 5 := hv.le
theorem rows_small {m : Nat} (hm : m ≤ 5) {ds : Ed} (hd : InR m ds) (u : Nat) : (rowsOf m ds).getD u 0 < 32 := by
  rw [List.getD_eq_getElem?_getD]
  cases h : (rowsOf m ds)[u]? with
  | none => simp
  | some r => exact pow5 hm (rowsOf_lt hd r (List.mem_of_getElem? h))
end Go.Proofs.Ytljaalhocjobeaa.Lk
end

section
/-
  The loops of ScoreIs, of the program and of the reference.
-/
namespace Go.Proofs.Ytljaalhocjobeaa.Lk
open Go Go.RowKit Go.Proofs.YtljaalhocjobeaaW.PrintWords Go.Proofs.YtljaalhocjobeaaW.PrintLast Go.Proofs.YtljaalhocjobeaaW.PrintMore Go.Proofs.Ytljaalhocjobeaa.P Go.Proofs.Ytljaalhocjobeaa.Gw
set_option linter.unusedVariables false
set_option linter.unusedSectionVars false
set_option linter.unusedSimpArgs false
/-- what the nodes of a set below i ask for together -/
def sumU (R : List Int) (s : Nat) : Nat → Int
  | 0 => 0
  | i + 1 => sumU R s i + R.getD i 0 * (((s.testBit i).toNat : Nat) : Int)
def insP (s : Nat) (e : Nat × Nat) : Bool := s.testBit e.1 && s.testBit e.2
def insU (es : Ed) (s i : Nat) : Nat := (es.take i).countP (insP s)
theorem insU_succ {es : Ed} {s i : Nat} (hi : i < es.length) : insU es s (i + 1) = insU es s i + (insP s (es.getD i (0, 0))).toNat := by
  rw [insU, List.take_succ_eq_append_getElem hi, List.countP_append, List.countP_singleton, List.getD_eq_getElem?_getD, List.getElem?_eq_getElem hi]
  rw [insU]; simp only [Option.getD_some]; cases insP s es[i] <;> rfl
theorem insU_le (es : Ed) (s i : Nat) : insU es s i ≤ es.length := Nat.le_trans List.countP_le_length (by rw [List.length_take]; omega)
def okAt (es : Ed) (R : List Int) (v : Nat) : Bool := decide (0 ≤ R.getD v 0 ∧ R.getD v 0 ≤ (es.length : Int))
theorem sumU_bd {R : List Int} {n : Nat} (hn : n ≤ 10) (s : Nat) : ∀ i, (∀ v, v < i → 0 ≤ R.getD v 0 ∧ R.getD v 0 ≤ (n : Int)) → 0 ≤ sumU R s i ∧ sumU R s i ≤ ((10 * i : Nat) : Int)
  | 0, _ => by simp [sumU]
  | i + 1, h => by
      have ih := sumU_bd hn s i (fun v hv => h v (by omega))
      have hi := h i (by omega)
      rw [sumU]
      generalize R.getD i 0 = x at hi
      cases s.testBit i <;> simp only [Bool.toNat_false, Bool.toNat_true] <;> omega
/-- what is told from set s on, d of them -/
def setsF (m : Nat) (es : Ed) (R : List Int) : Nat → Nat → Bool
  | 0, _ => true
  | d + 1, s => if sumU R s m < ((insU es s es.length : Nat) : Int) then false else if s = 2 ^ m - 1 ∧ sumU R s m > (es.length : Int) then false else setsF m es R d (s + 1)
def isRow (m : Nat) (es : Ed) (R : List Int) : Bool := (List.range m).all (okAt es R) && setsF m es R (2 ^ m) 0
theorem inside_ev {m : Nat} {es : Ed} (hv : Valid m es) {s : Nat} (hs : s < 2 ^ m) : Ev (fun k => spec_l4Inside.f k (m : Int) (toS es) (s : Int)) ((insU es s es.length : Nat) : Int) := by
  have h5 := hv.le
  have h10 := hv.len
  have hs32 := pow5 h5 hs
  have hts : (toS es).length = es.length := toS_length es
  have key : ∀ d i : Nat, i + d = es.length → Ev (fun k => spec_l4Inside.l0 k (s : Int) ((insU es s i : Nat) : Int) (i : Int) (m : Int) (toS es)) ((insU es s es.length : Nat) : Int) := by
    intro d
    induction d with
    | zero =>
      intro i hi
      obtain rfl : i = es.length := by omega
      refine Ev.step (f := fun _ => some ((insU es s es.length : Nat) : Int)) (fun k => ?_) (Ev.now _)
      simp only [spec_l4Inside.l0]
      rw [if_neg (by omega)]
    | succ d ih =>
      intro i hi
      have hk := ih (i + 1) (by omega)
      have hil : i < es.length := by omega
      have hr := hv.inR _ (getD_mem (ds := es) hil)
      rw [insU_succ hil] at hk
      have hle := insU_le es s i
      have b1 := bit_nat (s := s) (v := (es.getD i (0, 0)).1) (by omega) (by omega)
      have b2 := bit_nat (s := s) (v := (es.getD i (0, 0)).2) (by omega) (by omega)
      have hw1 : wrap64 ((i : Int) + 1) = ((i + 1 : Nat) : Int) := by rw [wrap_id (by omega) (by omega)]; simp
      have hm : wrap64 ((((s.testBit (es.getD i (0, 0)).1).toNat : Nat) : Int) * (((s.testBit (es.getD i (0, 0)).2).toNat : Nat) : Int)) = (((insP s (es.getD i (0, 0))).toNat : Nat) : Int) := by
        unfold insP
        cases s.testBit (es.getD i (0, 0)).1 <;> cases s.testBit (es.getD i (0, 0)).2 <;> exact wrap_id (by decide) (by decide)
      have hw2 : wrap64 (((insU es s i : Nat) : Int) + (((insP s (es.getD i (0, 0))).toNat : Nat) : Int)) = ((insU es s i + (insP s (es.getD i (0, 0))).toNat : Nat) : Int) := by
        clear hw1 hm
        have : (insP s (es.getD i (0, 0))).toNat ≤ 1 := by cases insP s (es.getD i (0, 0)) <;> simp
        rw [wrap_id (by omega) (by omega)]; simp
      have g1 : (i : Int) < ((toS es).length : Int) := by clear hw1 hm hw2; omega
      refine Ev.step (fun k => ?_) hk
      simp only [spec_l4Inside.l0]
      rw [if_pos g1, if_pos (Int.natCast_nonneg i), rd_toS]
      simp only [if_pos (Int.natCast_nonneg (es.getD i (0, 0)).1), if_pos (Int.natCast_nonneg (es.getD i (0, 0)).2), b1, b2, hm, hw2, hw1]
  have h := key es.length 0 (by omega)
  unfold spec_l4Inside.f; exact h
theorem full_in {m : Nat} {es : Ed} (hv : Valid m es) : insU es (2 ^ m - 1) es.length = es.length := by
  rw [insU, List.take_length, List.countP_eq_length]
  intro e he
  have := hv.inR e he
  rw [insP, full_bit, full_bit, decide_eq_true this.1, decide_eq_true this.2]; rfl
section
variable {m : Nat} {es : Ed} (hv : Valid m es) {R : List Int} (hR : R.length = m) (hok : ∀ v, v < m → 0 ≤ R.getD v 0 ∧ R.getD v 0 ≤ (es.length : Int))
include hv hR hok
theorem mulbit {s v : Nat} (hv' : v < m) : wrap64 (R.getD v 0 * (((s.testBit v).toNat : Nat) : Int)) = R.getD v 0 * (((s.testBit v).toNat : Nat) : Int) := by
  have h10 := hv.len
  have h := hok v hv'
  cases s.testBit v <;> simp only [Bool.toNat_false, Bool.toNat_true] <;> exact wrap_id (by omega) (by omega)
theorem spec_l2_ev {s : Nat} (hs : s < 2 ^ m) {r : Bool}
    (h : Ev (fun k => (spec_l4Inside.f k (m : Int) (toS es) (s : Int)).bind fun t120 => (if sumU R s m < t120 then (some false) else (if 0 ≤ (m : Int) then (if (s : Int) = (wrap64 ((shl .i64 1 (m : Int)) - 1)) then (if sumU R s m > ((toS es).length : Int) then (some false) else (spec_ScoreIs.l1 k R (wrap64 ((s : Int) + 1)) (m : Int) (toS es))) else (spec_ScoreIs.l1 k R (wrap64 ((s : Int) + 1)) (m : Int) (toS es))) else (none)))) r) : ∀ d i : Nat, i + d = m →
    Ev (fun k => spec_ScoreIs.l2 k R (s : Int) (sumU R s i) (i : Int) (m : Int) (toS es)) r := by
  have h5 := hv.le
  have h10 := hv.len
  have hs32 := pow5 h5 hs
  intro d
  induction d with
  | zero =>
    intro i hi
    obtain rfl : i = m := by omega
    refine Ev.step (fun k => ?_) h
    simp only [spec_ScoreIs.l2]
    rw [if_neg (Int.lt_irrefl _)]
  | succ d ih =>
    intro i hi
    have hk := ih (i + 1) (by omega)
    have hb := bit_nat (s := s) (v := i) (by omega) (by omega)
    have hmb := mulbit hv hR hok (s := s) (show i < m by omega)
    have hbd := sumU_bd h10 s (i + 1) (fun v hv' => hok v (by omega))
    rw [sumU] at hk hbd
    have hw1 : wrap64 ((i : Int) + 1) = ((i + 1 : Nat) : Int) := by clear hmb; rw [wrap_id (by omega) (by omega)]; simp
    have hrd : rd R (i : Int) = R.getD i 0 := by unfold rd; rw [Int.toNat_natCast]
    have hw2 : wrap64 (sumU R s i + R.getD i 0 * (((s.testBit i).toNat : Nat) : Int)) = sumU R s i + R.getD i 0 * (((s.testBit i).toNat : Nat) : Int) := by
      clear hmb hw1
      generalize sumU R s i + R.getD i 0 * (((s.testBit i).toNat : Nat) : Int) = y at hbd
      exact wrap_id (by omega) (by omega)
    have g1 : (i : Int) < (m : Int) := by clear hmb hw1 hw2; omega
    have g2 : (i : Int) < (R.length : Int) := by clear hmb hw1 hw2; omega
    refine Ev.step (fun k => ?_) hk
    simp only [spec_ScoreIs.l2]
    rw [if_pos g1, if_pos (Int.natCast_nonneg i), if_pos g2, hrd, hb, hmb, hw2, hw1]
theorem spec_sets : ∀ d s : Nat, s + d = 2 ^ m → Ev (fun k => spec_ScoreIs.l1 k R (s : Int) (m : Int) (toS es)) (setsF m es R d s) := by
  have h5 := hv.le
  have h10 := hv.len
  have h0 := Nat.two_pow_pos m
  have hf : 2 ^ m ≤ 32 := Nat.pow_le_pow_right (n := 2) (j := 5) (by omega) h5
  have hts : (toS es).length = es.length := toS_length es
  have hwm : wrap64 (((2 ^ m : Nat) : Int) - 1) = ((2 ^ m - 1 : Nat) : Int) := by
    clear hok hR
    generalize 2 ^ m = p at *
    rw [wrap_id (by omega) (by omega)]; omega
  intro d
  induction d with
  | zero =>
    intro s hs
    refine Ev.step (f := fun _ => some true) (fun k => ?_) (Ev.now _)
    simp only [spec_ScoreIs.l1]
    rw [if_pos (Int.natCast_nonneg m), shl_nat (by clear hwm; omega), if_neg (by clear hwm; omega)]
  | succ d ih =>
    intro s hs
    have hk := ih (s + 1) (by clear hwm; omega)
    have hs' : s < 2 ^ m := by clear hwm; omega
    have hw1 : wrap64 ((s : Int) + 1) = ((s + 1 : Nat) : Int) := by clear hwm; rw [wrap_id (by omega) (by omega)]; simp
    have h := spec_l2_ev hv hR hok hs' (r := setsF m es R (d + 1) s) (by
      refine Ev.bind (inside_ev hv hs') ?_
      rw [setsF]
      by_cases c1 : sumU R s m < ((insU es s es.length : Nat) : Int)
      · simp only [if_pos c1]; exact Ev.now _
      · simp only [if_neg c1, if_pos (Int.natCast_nonneg m), shl_nat (show m ≤ 61 by clear hwm hw1; omega), hwm, hts, hw1]
        by_cases c2 : s = 2 ^ m - 1
        · simp only [if_pos (show (s : Int) = ((2 ^ m - 1 : Nat) : Int) by rw [c2])]
          by_cases c3 : sumU R s m > (es.length : Int)
          · simp only [if_pos c3, if_pos (And.intro c2 c3)]; exact Ev.now _
          · simp only [if_neg c3, if_neg (fun h : s = 2 ^ m - 1 ∧ sumU R s m > (es.length : Int) => c3 h.2)]; exact hk
        · simp only [if_neg (show ¬ ((s : Int) = ((2 ^ m - 1 : Nat) : Int)) from fun h => c2 (Int.ofNat.inj h)), if_neg (fun h : s = 2 ^ m - 1 ∧ sumU R s m > (es.length : Int) => c2 h.1)]; exact hk) m 0 (by omega)
    refine Ev.step (fun k => ?_) h
    simp only [spec_ScoreIs.l1]
    rw [if_pos (Int.natCast_nonneg m), shl_nat (by clear hwm hw1; omega), if_pos (by clear hwm hw1; omega)]; rfl
theorem impl_l2_ev {s : Nat} (hs : s < 2 ^ m) (x24 x25 x5 : Int) {r : Bool}
    (h : Ev (fun k => if x5 < ((insU es s es.length : Nat) : Int) then some false else impl_ScoreIs.l0 k R x5 x24 (wrap64 (x25 + 1)) (m : Int) (toS es)) r) : ∀ d i : Nat, i + d = es.length →
    Ev (fun k => impl_ScoreIs.l2 k R x5 (s : Int) ((insU es s i : Nat) : Int) x24 x25 (toS es) (es.length : Int) (i : Int) (m : Int) (toS es)) r := by
  have h5 := hv.le
  have h10 := hv.len
  have hs32 := pow5 h5 hs
  have hts : (toS es).length = es.length := toS_length es
  intro d
  induction d with
  | zero =>
    intro i hi
    obtain rfl : i = es.length := by omega
    refine Ev.step (fun k => ?_) h
    simp only [impl_ScoreIs.l2]
    rw [if_neg (Int.lt_irrefl _)]
  | succ d ih =>
    intro i hi
    have hk := ih (i + 1) (by omega)
    have hil : i < es.length := by omega
    have hr := hv.inR _ (getD_mem (ds := es) hil)
    rw [insU_succ hil] at hk
    have hle := insU_le es s i
    have b0 : Go.bits .and .i64 (Go.bits .and .i64 (shr .i64 (s : Int) (((es.getD i (0, 0)).1 : Nat) : Int)) (shr .i64 (s : Int) (((es.getD i (0, 0)).2 : Nat) : Int))) 1 = (((insP s (es.getD i (0, 0))).toNat : Nat) : Int) := by
      rw [shr_nat s (by omega), shr_nat s (by omega), and_nat (shift_lt (by omega)) (shift_lt (by omega))]
      have := and_nat (a := s >>> (es.getD i (0, 0)).1 &&& s >>> (es.getD i (0, 0)).2) (b := 1) (Nat.lt_of_le_of_lt Nat.and_le_left (shift_lt (by omega))) (by decide)
      rw [show (1 : Int) = ((1 : Nat) : Int) from rfl, this, Nat.and_one_is_mod]
      unfold insP
      congr 1
      have e : (s >>> (es.getD i (0, 0)).1 &&& s >>> (es.getD i (0, 0)).2).testBit 0 = (s.testBit (es.getD i (0, 0)).1 && s.testBit (es.getD i (0, 0)).2) := by
        rw [Nat.testBit_and, Nat.testBit_shiftRight, Nat.testBit_shiftRight, Nat.add_zero, Nat.add_zero]
      rw [← e, Nat.testBit_zero]
      have := Nat.mod_two_eq_zero_or_one (s >>> (es.getD i (0, 0)).1 &&& s >>> (es.getD i (0, 0)).2)
      rcases this with h2 | h2 <;> rw [h2] <;> rfl
    have hw1 : wrap64 ((i : Int) + 1) = ((i + 1 : Nat) : Int) := by clear b0; rw [wrap_id (by omega) (by omega)]; simp
    have hw2 : wrap64 (((insU es s i : Nat) : Int) + (((insP s (es.getD i (0, 0))).toNat : Nat) : Int)) = ((insU es s i + (insP s (es.getD i (0, 0))).toNat : Nat) : Int) := by
      clear hw1 b0
      have : (insP s (es.getD i (0, 0))).toNat ≤ 1 := by cases insP s (es.getD i (0, 0)) <;> simp
      rw [wrap_id (by omega) (by omega)]; simp
    have g1 : (i : Int) < ((toS es).length : Int) := by clear hw1 hw2 b0; omega
    have g0 : (i : Int) < (es.length : Int) := Int.ofNat_lt.mpr hil
    refine Ev.step (fun k => ?_) hk
    simp only [impl_ScoreIs.l2]
    rw [if_pos g0, if_pos (Int.natCast_nonneg i), if_pos g1, rd_toS]
    simp only [if_pos (Int.natCast_nonneg (es.getD i (0, 0)).1), if_pos (Int.natCast_nonneg (es.getD i (0, 0)).2), b0, hw2, hw1]
theorem impl_l1_ev {s : Nat} (hs : s < 2 ^ m) (x24 x25 : Int) {r : Bool}
    (h : Ev (fun k => if sumU R s m < ((insU es s es.length : Nat) : Int) then some false else impl_ScoreIs.l0 k R (sumU R s m) x24 (wrap64 (x25 + 1)) (m : Int) (toS es)) r) : ∀ d i : Nat, i + d = m →
    Ev (fun k => impl_ScoreIs.l1 k R (sumU R s i) (s : Int) x24 x25 R (R.length : Int) (i : Int) (m : Int) (toS es)) r := by
  have h5 := hv.le
  have h10 := hv.len
  have hs32 := pow5 h5 hs
  have hts : (toS es).length = es.length := toS_length es
  intro d
  induction d with
  | zero =>
    intro i hi
    obtain rfl : i = m := by omega
    refine Ev.step (fun k => ?_) (impl_l2_ev hv hR hok hs x24 x25 (sumU R s i) h es.length 0 (by omega))
    simp only [impl_ScoreIs.l1]
    rw [if_neg (by rw [hR]; exact Int.lt_irrefl _), hts]; rfl
  | succ d ih =>
    intro i hi
    have hk := ih (i + 1) (by omega)
    have hb := bit_nat (s := s) (v := i) (by omega) (by omega)
    have hmb := mulbit hv hR hok (s := s) (show i < m by omega)
    have hbd := sumU_bd h10 s (i + 1) (fun v hv' => hok v (by omega))
    have hoi := hok i (by omega)
    rw [sumU] at hk hbd
    have hw1 : wrap64 ((i : Int) + 1) = ((i + 1 : Nat) : Int) := by clear hmb; rw [wrap_id (by omega) (by omega)]; simp
    have hrd : rd R (i : Int) = R.getD i 0 := by unfold rd; rw [Int.toNat_natCast]
    have hw2 : wrap64 (sumU R s i + R.getD i 0 * (((s.testBit i).toNat : Nat) : Int)) = sumU R s i + R.getD i 0 * (((s.testBit i).toNat : Nat) : Int) := by
      clear hmb hw1
      generalize sumU R s i + R.getD i 0 * (((s.testBit i).toNat : Nat) : Int) = y at hbd
      exact wrap_id (by omega) (by omega)
    have g2 : (i : Int) < (R.length : Int) := by clear hmb hw1 hw2; omega
    have g3 : ¬ (R.getD i 0 < 0) := by clear hmb hw1 hw2; omega
    have g4 : ¬ (R.getD i 0 > ((toS es).length : Int)) := by clear hmb hw1 hw2; omega
    refine Ev.step (fun k => ?_) hk
    simp only [impl_ScoreIs.l1]
    rw [if_pos g2, if_pos (Int.natCast_nonneg i), if_pos g2, hrd, if_neg g3, if_neg g4, hb, hmb, hw2, hw1]
theorem impl_sets : ∀ d s : Nat, s + (d + 1) = 2 ^ m → ∀ x5 : Int, Ev (fun k => impl_ScoreIs.l0 k R x5 ((2 ^ m : Nat) : Int) (s : Int) (m : Int) (toS es)) (setsF m es R (d + 1) s) := by
  have h5 := hv.le
  have h10 := hv.len
  have h0 := Nat.two_pow_pos m
  have hf : 2 ^ m ≤ 32 := Nat.pow_le_pow_right (n := 2) (j := 5) (by omega) h5
  have hts : (toS es).length = es.length := toS_length es
  intro d
  induction d with
  | zero =>
    intro s hs x5
    have hsf : s = 2 ^ m - 1 := by omega
    have hw1 : wrap64 ((s : Int) + 1) = ((2 ^ m : Nat) : Int) := by rw [wrap_id (by omega) (by omega)]; omega
    have h := impl_l1_ev hv hR hok (s := s) (by clear hw1; omega) ((2 ^ m : Nat) : Int) (s : Int) (r := setsF m es R (0 + 1) s) (by
      rw [setsF]
      by_cases c1 : sumU R s m < ((insU es s es.length : Nat) : Int)
      · simp only [if_pos c1]; exact Ev.now _
      · simp only [if_neg c1]
        have hin : insU es s es.length = es.length := by rw [hsf]; exact full_in hv
        rw [hin] at c1
        refine Ev.step (f := fun _ => some (setsF m es R 0 (s + 1) && decide (sumU R s m = (es.length : Int)))) (fun k => ?_) ?_
        · simp only [impl_ScoreIs.l0, hw1]
          rw [if_neg (Int.lt_irrefl _), hts]
          simp only [setsF, Bool.true_and]
          congr 1
        · by_cases c3 : sumU R s m > (es.length : Int)
          · rw [if_pos ⟨hsf, c3⟩, decide_eq_false (by clear hw1; omega), Bool.and_false]; exact Ev.now _
          · rw [if_neg (fun h => c3 h.2), decide_eq_true (by clear hw1; omega), Bool.and_true]; exact Ev.now _) m 0 (by clear hw1; omega)
    refine Ev.step (fun k => ?_) h
    simp only [impl_ScoreIs.l0]
    rw [if_pos (by clear hw1; omega)]; rfl
  | succ d ih =>
    intro s hs x5
    have hw1 : wrap64 ((s : Int) + 1) = ((s + 1 : Nat) : Int) := by rw [wrap_id (by omega) (by omega)]; simp
    have h := impl_l1_ev hv hR hok (s := s) (by clear hw1; omega) ((2 ^ m : Nat) : Int) (s : Int) (r := setsF m es R (d + 1 + 1) s) (by
      rw [setsF]
      by_cases c1 : sumU R s m < ((insU es s es.length : Nat) : Int)
      · simp only [if_pos c1]; exact Ev.now _
      · simp only [if_neg c1, if_neg (fun h : s = 2 ^ m - 1 ∧ sumU R s m > (es.length : Int) => by have := h.1; clear hw1; omega), hw1]
        exact ih (s + 1) (by clear hw1; omega) (sumU R s m)) m 0 (by clear hw1; omega)
    refine Ev.step (fun k => ?_) h
    simp only [impl_ScoreIs.l0]
    rw [if_pos (by clear hw1; omega)]; rfl
end
end Go.Proofs.Ytljaalhocjobeaa.Lk
end

section
/-
  ScoreIs of the program and of the reference tell the same, for every graph and list.
-/
namespace Go.Proofs.Ytljaalhocjobeaa.Lk
open Go Go.RowKit Go.Proofs.YtljaalhocjobeaaW.PrintWords Go.Proofs.YtljaalhocjobeaaW.PrintLast Go.Proofs.YtljaalhocjobeaaW.PrintMore Go.Proofs.Ytljaalhocjobeaa.P Go.Proofs.Ytljaalhocjobeaa.Gw
set_option linter.unusedVariables false
set_option linter.unusedSimpArgs false
/-- the first number that is too small or too big, if there is one -/
theorem first_bad {es : Ed} {R : List Int} : ∀ m : Nat, (∀ v, v < m → okAt es R v = true) ∨ ∃ v, v < m ∧ okAt es R v = false ∧ ∀ u, u < v → okAt es R u = true
  | 0 => .inl (fun v h => absurd h (Nat.not_lt_zero v))
  | m + 1 => by
      rcases first_bad (es := es) (R := R) m with h | ⟨v, h1, h2, h3⟩
      · cases hm : okAt es R m with
        | true => exact .inl (fun v hv => by
            by_cases e : v = m
            · rw [e]; exact hm
            · exact h v (by omega))
        | false => exact .inr ⟨m, by omega, hm, h⟩
      · exact .inr ⟨v, by omega, h2, h3⟩
theorem okAt_iff {es : Ed} {R : List Int} {v : Nat} : okAt es R v = true ↔ 0 ≤ R.getD v 0 ∧ R.getD v 0 ≤ (es.length : Int) := by rw [okAt, decide_eq_true_eq]
theorem spec_rows {m : Nat} {es : Ed} (hv : Valid m es) {R : List Int} (hR : R.length = m) {w : Nat} (hw : w ≤ m) (hok : ∀ u, u < w → okAt es R u = true) {r : Bool}
    (h : Ev (fun k => spec_ScoreIs.l0 k R (w : Int) (m : Int) (toS es)) r) : ∀ d i : Nat, i + d = w → Ev (fun k => spec_ScoreIs.l0 k R (i : Int) (m : Int) (toS es)) r := by
  have h5 := hv.le
  have hts : (toS es).length = es.length := toS_length es
  intro d
  induction d with
  | zero => intro i hi; obtain rfl : i = w := by omega
            exact h
  | succ d ih =>
    intro i hi
    have hk := ih (i + 1) (by omega)
    have hoi := okAt_iff.mp (hok i (by omega))
    have hw1 : wrap64 ((i : Int) + 1) = ((i + 1 : Nat) : Int) := by rw [wrap_id (by omega) (by omega)]; simp
    have hrd : rd R (i : Int) = R.getD i 0 := by unfold rd; rw [Int.toNat_natCast]
    have g1 : (i : Int) < (R.length : Int) := by clear hw1; omega
    refine Ev.step (fun k => ?_) hk
    simp only [spec_ScoreIs.l0]
    rw [if_pos g1, if_pos (Int.natCast_nonneg i), hrd, l6In_eq, hts, decide_eq_true hoi.1, decide_eq_true hoi.2]
    simp only [Option.bind_some, Bool.and_self, if_true, hw1]
theorem impl_rows {m : Nat} {es : Ed} (hv : Valid m es) {R : List Int} (hR : R.length = m) (x24 x25 : Int) {s w : Nat} (hs : s < 32) (hwm : w < m) (hbad : okAt es R w = false) (hok : ∀ u, u < w → okAt es R u = true) : ∀ d i : Nat, i + d = w → ∀ x5 : Int,
    Ev (fun k => impl_ScoreIs.l1 k R x5 (s : Int) x24 x25 R (R.length : Int) (i : Int) (m : Int) (toS es)) false := by
  have h5 := hv.le
  have hts : (toS es).length = es.length := toS_length es
  intro d
  induction d with
  | zero =>
    intro i hi x5
    obtain rfl : i = w := by omega
    have hrd : rd R (i : Int) = R.getD i 0 := by unfold rd; rw [Int.toNat_natCast]
    have g1 : (i : Int) < (R.length : Int) := by omega
    have hb : ¬ (0 ≤ R.getD i 0 ∧ R.getD i 0 ≤ (es.length : Int)) := fun h => by rw [okAt_iff.mpr h] at hbad; exact absurd hbad (by simp)
    refine Ev.step (f := fun _ => some false) (fun k => ?_) (Ev.now _)
    simp only [impl_ScoreIs.l1]
    rw [if_pos g1, if_pos (Int.natCast_nonneg i), if_pos g1, hrd]
    by_cases h0 : R.getD i 0 < 0
    · rw [if_pos h0]
    · rw [if_neg h0, if_pos (by omega)]
  | succ d ih =>
    intro i hi x5
    have hoi := okAt_iff.mp (hok i (by omega))
    have hw1 : wrap64 ((i : Int) + 1) = ((i + 1 : Nat) : Int) := by rw [wrap_id (by omega) (by omega)]; simp
    have hrd : rd R (i : Int) = R.getD i 0 := by unfold rd; rw [Int.toNat_natCast]
    have g1 : (i : Int) < (R.length : Int) := by clear hw1; omega
    have g3 : ¬ (R.getD i 0 < 0) := by clear hw1; omega
    have g4 : ¬ (R.getD i 0 > ((toS es).length : Int)) := by clear hw1; omega
    refine Ev.step (fun k => ?_) (ih (i + 1) (by clear hw1; omega) (wrap64 (x5 + (wrap64 ((rd R (i : Int)) * (Go.bits .and .i64 (shr .i64 (s : Int) (i : Int)) 1))))))
    simp only [impl_ScoreIs.l1]
    rw [if_pos g1, if_pos (Int.natCast_nonneg i), if_pos g1, hrd, if_neg g3, if_neg g4, hw1]
theorem same_ScoreIs (n : Int) (ys : List S53) (R : List Int) (hl : ys.length < 2 ^ 62) : ∃ r : Bool, Ev (fun k => spec_ScoreIs.f k n ys R) r ∧ Ev (fun k => impl_ScoreIs.f k n ys R) r := by
  have w1 := impl_wayGraph (n := n) hl
  have w2 := spec_wayGraph (n := n) hl
  by_cases hc : gOk n ys = true ∧ (R.length : Int) = n
  · obtain ⟨hg, hRn⟩ := hc
    rw [hg] at w1 w2
    obtain ⟨m, es, rfl, rfl, hv⟩ := gOk_valid hg
    have hR : R.length = m := by omega
    have h5 := hv.le
    have h0 := Nat.two_pow_pos m
    have hne : ((R.length : Int) != (m : Int)) = false := by rw [hRn]; simp
    have red : ∀ r : Bool, Ev (fun k => spec_ScoreIs.l0 k R ((0 : Nat) : Int) (m : Int) (toS es)) r → Ev (fun k => impl_ScoreIs.l0 k R 0 ((2 ^ m : Nat) : Int) ((0 : Nat) : Int) (m : Int) (toS es)) r → ∃ r : Bool, Ev (fun k => spec_ScoreIs.f k (m : Int) (toS es) R) r ∧ Ev (fun k => impl_ScoreIs.f k (m : Int) (toS es) R) r := by
      intro r hs hi
      refine ⟨r, ?_, ?_⟩
      · unfold spec_ScoreIs.f
        refine Ev.bind w2 ?_
        simp only [if_true, hne]
        refine Ev.step (fun k => by simp only [spec_ScoreIs.j0]; rfl) ?_
        simp only [Bool.false_eq_true, if_false]; exact hs
      · unfold impl_ScoreIs.f
        refine Ev.bind w1 ?_
        simp only [if_true, hne]
        refine Ev.step (fun k => by simp only [impl_ScoreIs.j0]; rfl) ?_
        simp only [Bool.false_eq_true, if_false, if_pos (Int.natCast_nonneg m), shl_nat (show m ≤ 61 by omega)]; exact hi
    rcases first_bad (es := es) (R := R) m with hok | ⟨v, v1, v2, v3⟩
    · have hok' : ∀ v, v < m → 0 ≤ R.getD v 0 ∧ R.getD v 0 ≤ (es.length : Int) := fun v h => okAt_iff.mp (hok v h)
      refine red (setsF m es R (2 ^ m) 0) ?_ ?_
      · refine spec_rows hv hR (Nat.le_refl m) hok ?_ m 0 (by omega)
        have h := spec_sets hv hR hok' (2 ^ m) 0 (by omega)
        refine Ev.step (fun k => ?_) h
        simp only [spec_ScoreIs.l0]
        rw [if_neg (by omega)]; rfl
      · obtain ⟨d, hd⟩ : ∃ d, 2 ^ m = d + 1 := ⟨2 ^ m - 1, by omega⟩
        have h := impl_sets hv hR hok' d 0 (by omega) 0
        rw [← hd] at h
        exact h
    · refine red false ?_ ?_
      · refine spec_rows hv hR (Nat.le_of_lt v1) v3 ?_ v 0 (by omega)
        have hts : (toS es).length = es.length := toS_length es
        have hrd : rd R (v : Int) = R.getD v 0 := by unfold rd; rw [Int.toNat_natCast]
        have hb : ¬ (0 ≤ R.getD v 0 ∧ R.getD v 0 ≤ (es.length : Int)) := fun h => by rw [okAt_iff.mpr h] at v2; exact absurd v2 (by simp)
        have hb2 : (decide (0 ≤ R.getD v 0) && decide (R.getD v 0 ≤ (es.length : Int))) = false := by
          rw [Bool.and_eq_false_iff, decide_eq_false_iff_not, decide_eq_false_iff_not]; omega
        refine Ev.step (f := fun _ => some false) (fun k => ?_) (Ev.now _)
        simp only [spec_ScoreIs.l0]
        rw [if_pos (by omega), if_pos (Int.natCast_nonneg v), hrd, l6In_eq, hts, hb2]
        simp
      · have h := impl_rows hv hR ((2 ^ m : Nat) : Int) ((0 : Nat) : Int) (s := 0) (by omega) v1 v2 v3 v 0 (by omega) 0
        refine Ev.step (fun k => ?_) h
        simp only [impl_ScoreIs.l0]
        rw [if_pos (by omega)]; rfl
  · refine ⟨false, ?_, ?_⟩
    · unfold spec_ScoreIs.f
      refine Ev.bind w2 ?_
      cases hg : gOk n ys with
      | false =>
        simp only [Bool.false_eq_true, if_false]
        refine Ev.step (fun k => by simp only [spec_ScoreIs.j0]; rfl) ?_
        simp only [if_true]; exact Ev.now _
      | true =>
        have : ((R.length : Int) != n) = true := by simp; exact fun h => hc ⟨hg, h⟩
        simp only [if_true, this]
        refine Ev.step (fun k => by simp only [spec_ScoreIs.j0]; rfl) ?_
        simp only [if_true]; exact Ev.now _
    · unfold impl_ScoreIs.f
      refine Ev.bind w1 ?_
      cases hg : gOk n ys with
      | false =>
        simp only [Bool.false_eq_true, if_false]
        refine Ev.step (fun k => by simp only [impl_ScoreIs.j0]; rfl) ?_
        simp only [if_true]; exact Ev.now _
      | true =>
        have : ((R.length : Int) != n) = true := by simp; exact fun h => hc ⟨hg, h⟩
        simp only [if_true, this]
        refine Ev.step (fun k => by simp only [impl_ScoreIs.j0]; rfl) ?_
        simp only [if_true]; exact Ev.now _
end Go.Proofs.Ytljaalhocjobeaa.Lk
end

section
/-
  What the exact laws do with lists that come back: they are held against each other, marked, and asked for their marks.
-/
namespace Go.Proofs.Ytljaalhocjobeaa.Lk
open Go Go.RowKit Go.Proofs.YtljaalhocjobeaaW.PrintWords Go.Proofs.YtljaalhocjobeaaW.PrintLast Go.Proofs.YtljaalhocjobeaaW.PrintMore Go.Proofs.Ytljaalhocjobeaa.P Go.Proofs.Ytljaalhocjobeaa.Gw
set_option linter.unusedVariables false
set_option linter.unusedSimpArgs false
theorem eqInt_ev {l : List Int} (h : l.length < 2 ^ 62) : Ev (fun k => laws_eqIntS.f k l l) true := by
  have key : ∀ (d i : Nat), i + d = l.length → Ev (fun k => laws_eqIntS.l0 k l l (i : Int)) true := by
    intro d
    induction d with
    | zero => intro i hi; exact Ev.step (f := fun _ => some true) (fun k => by simp only [laws_eqIntS.l0]; rw [if_neg (by omega)]) (Ev.now _)
    | succ d ih =>
      intro i hi
      have hw : wrap64 ((i : Int) + 1) = ((i + 1 : Nat) : Int) := by rw [wrap_id (by omega) (by omega)]; simp
      refine Ev.step (f := fun k => laws_eqIntS.l0 k l l ((i + 1 : Nat) : Int)) (fun k => ?_) (ih (i + 1) (by omega))
      simp only [laws_eqIntS.l0, if_true]
      rw [if_pos (by omega), if_pos (by omega), if_pos (by omega), hw]
  unfold laws_eqIntS.f
  simp only [if_true]
  exact key l.length 0 (by omega)
theorem markEdge_ev : ∀ (d i : Nat) (xs : List S53) (c : Nat), i + d = xs.length → i + d ≤ 1048576 → c + 2 * d ≤ 1000000000 →
    ∃ xs' : List S53, Ev (fun k => laws_markEdgeS.l0 k xs (c : Int) (i : Int)) (((c + 2 * d : Nat) : Int), xs') := by
  intro d
  induction d with
  | zero =>
    intro i xs c hi _ _
    exact ⟨xs, Ev.step (f := fun _ => some ((c : Int), xs)) (fun k => by simp only [laws_markEdgeS.l0]; rw [if_neg (by omega)]) (Ev.now _)⟩
  | succ d ih =>
    intro i xs c hi hm hc
    have hw : wrap64 ((i : Int) + 1) = ((i + 1 : Nat) : Int) := by rw [wrap_id (by omega) (by omega)]; simp
    have hw1 : wrap64 ((c : Int) + 1) = ((c + 1 : Nat) : Int) := by rw [wrap_id (by omega) (by omega)]; simp
    have hw2 : wrap64 (((c + 1 : Nat) : Int) + 1) = ((c + 2 : Nat) : Int) := by rw [wrap_id (by omega) (by omega)]; simp; omega
    obtain ⟨xs', h⟩ := ih (i + 1) ((xs.set i (⟨(c : Int), (rd_T53 xs (i : Int)).f1⟩ : S53)).set i (⟨(rd_T53 (xs.set i (⟨(c : Int), (rd_T53 xs (i : Int)).f1⟩ : S53)) (i : Int)).f0, ((c + 1 : Nat) : Int)⟩ : S53)) (c + 2) (by simp; omega) (by omega) (by omega)
    refine ⟨xs', ?_⟩
    rw [show c + 2 * (d + 1) = c + 2 + 2 * d by omega]
    refine Ev.step (fun k => ?_) h
    simp only [laws_markEdgeS.l0]
    rw [if_pos (by omega), if_pos (by omega)]
    simp only [Option.bind_some, hw, hw1, hw2, Int.toNat_natCast]
theorem markGraph_ev (n : Int) {xs : List S53} (h : xs.length ≤ 1048576) : ∃ (c : Nat) (xs' : List S53), Ev (fun k => laws_markGraph.f k n xs 1) ((c : Int), xs') := by
  obtain ⟨xs', h1⟩ := markEdge_ev xs.length 0 xs 1 (by omega) (by omega) (by omega)
  refine ⟨1 + 2 * xs.length, xs', ?_⟩
  unfold laws_markGraph.f
  have h2 : Ev (fun k => laws_markEdgeS.f k xs 1) (((1 + 2 * xs.length : Nat) : Int), xs') := by unfold laws_markEdgeS.f; exact h1
  exact Ev.bind h2 (Ev.now _)
/-- the marks -/
def mks (i : Nat) : List Int := (List.range i).map fun j : Nat => (j : Int) + 1
theorem mks_len (i : Nat) : (mks i).length = i := by simp [mks]
theorem mks_succ (i : Nat) : mks (i + 1) = mks i ++ [(i : Int) + 1] := by simp [mks, List.range_succ]
theorem mks_get {n i : Nat} (h : i < n) : rd (mks n) (i : Int) = (i : Int) + 1 := by
  unfold rd mks
  rw [Int.toNat_natCast, List.getD_eq_getElem?_getD, List.getElem?_map, List.getElem?_range h]; rfl
theorem markInt_l {l : List Int} (hl : l.length ≤ 1000000) : ∀ d i : Nat, i + d = l.length →
    Ev (fun k => laws_markIntS.l0 k (mks i ++ l.drop i) ((i + 1 : Nat) : Int) (i : Int)) (((l.length + 1 : Nat) : Int), mks l.length) := by
  intro d
  induction d with
  | zero =>
    intro i hi
    obtain rfl : i = l.length := by omega
    refine Ev.step (f := fun _ => some (((l.length + 1 : Nat) : Int), mks l.length)) (fun k => ?_) (Ev.now _)
    simp only [laws_markIntS.l0]
    rw [if_neg (by rw [List.length_append, mks_len, List.length_drop]; omega), List.drop_eq_nil_of_le (by omega), List.append_nil]
  | succ d ih =>
    intro i hi
    have hw : wrap64 ((i : Int) + 1) = ((i + 1 : Nat) : Int) := by rw [wrap_id (by omega) (by omega)]; simp
    have hw1 : wrap64 (((i + 1 : Nat) : Int) + 1) = ((i + 1 + 1 : Nat) : Int) := by rw [wrap_id (by omega) (by omega)]; simp
    have hset : (mks i ++ l.drop i).set i (((i + 1 : Nat) : Int)) = mks (i + 1) ++ l.drop (i + 1) := by
      rw [List.set_append_right i _ (by rw [mks_len]; omega), mks_len, Nat.sub_self, List.drop_eq_getElem_cons (show i < l.length by omega), List.set_cons_zero, mks_succ]; simp
    refine Ev.step (fun k => ?_) (ih (i + 1) (by omega))
    simp only [laws_markIntS.l0]
    rw [if_pos (by rw [List.length_append, mks_len, List.length_drop]; omega), if_pos (by omega), Int.toNat_natCast, hset, hw, hw1]
theorem markInt_ev {l : List Int} (hl : l.length ≤ 1000000) : Ev (fun k => laws_markIntS.f k l 1) (((l.length + 1 : Nat) : Int), mks l.length) := by
  have h := markInt_l hl l.length 0 (by omega)
  unfold laws_markIntS.f; exact h
theorem heldInt_ev {n : Nat} (hn : n ≤ 1000000) : Ev (fun k => laws_heldIntS.f k (mks n) 1) ((n + 1 : Nat) : Int) := by
  have key : ∀ d i : Nat, i + d = n → Ev (fun k => laws_heldIntS.l0 k (mks n) ((i + 1 : Nat) : Int) (i : Int)) ((n + 1 : Nat) : Int) := by
    intro d
    induction d with
    | zero =>
      intro i hi
      obtain rfl : i = n := by omega
      refine Ev.step (f := fun _ => some ((i + 1 : Nat) : Int)) (fun k => ?_) (Ev.now _)
      simp only [laws_heldIntS.l0]
      rw [if_neg (by rw [mks_len]; omega)]
    | succ d ih =>
      intro i hi
      have hw : wrap64 ((i : Int) + 1) = ((i + 1 : Nat) : Int) := by rw [wrap_id (by omega) (by omega)]; simp
      have hw1 : wrap64 (((i + 1 : Nat) : Int) + 1) = ((i + 1 + 1 : Nat) : Int) := by rw [wrap_id (by omega) (by omega)]; simp
      refine Ev.step (fun k => ?_) (ih (i + 1) (by omega))
      simp only [laws_heldIntS.l0]
      rw [if_pos (by rw [mks_len]; omega), if_pos (by omega), if_pos (by rw [mks_get (by omega)]; simp), hw, hw1]
  have h := key n 0 (by omega)
  unfold laws_heldIntS.f; exact h
end Go.Proofs.Ytljaalhocjobeaa.Lk
end
