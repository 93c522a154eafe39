/-
  FnEvens: what the program's functions and the reference's compute, joined from several texts.
-/
import Derived.Test.YtjklkphhfkdkpaaOps
import Derived.Test.YtjklkphhfkdkpaaPx5
import Derived.Test.YtjklkphhfkdkpaaPx6
import Derived.Test.YtjklkphhfkdkpaaPx18
import Derived.Test.YtjklkphhfkdkpaaPx2
import Derived.Test.YtjklkphhfkdkpaaPx3
import Derived.Test.YtjklkphhfkdkpaaPx1
import Derived.Test.YtjklkphhfkdkpaaPx23
import Derived.Test.YtjklkphhfkdkpaaClo
import Derived.Test.YtjklkphhfkdkpaaPx7
import Derived.Test.YtjklkphhfkdkpaaPx82
import Derived.Test.YtjklkphhfkdkpaaCoreT
import Derived.Test.YtjklkphhfkdkpaaPx34
import Derived.Test.YtjklkphhfkdkpaaPx76
import Derived.Test.YtjklkphhfkdkpaaPx77
import Derived.Test.YtjklkphhfkdkpaaPx84
import Derived.Test.YtjklkphhfkdkpaaPx11
import Derived.Test.YtjklkphhfkdkpaaPx75
import Derived.Test.YtjklkphhfkdkpaaPx83
import Derived.Test.YtjklkphhfkdkpaaPx85
import Derived.Test.YtjklkphhfkdkpaaPx12
import Derived.Test.YtjklkphhfkdkpaaPx14
import Derived.Test.YtjklkphhfkdkpaaPx51
import Derived.Test.YtjklkphhfkdkpaaPx52
import Derived.Test.YtjklkphhfkdkpaaPx53
import Derived.Test.YtjklkphhfkdkpaaPx54
section
/-
  WayGraph, of the program and of the reference: both tell 'gOk', for every graph; what is a graph is a sublist of all pairs.
-/
namespace Go.Proofs.Ytjklkphhfkdkpaa.Lk
open Go Go.RowKit Go.Proofs.YtjklkphhfkdkpaaW.PrintWords Go.Proofs.YtjklkphhfkdkpaaW.PrintLast Go.Proofs.YtjklkphhfkdkpaaW.PrintMore Go.Proofs.Ytjklkphhfkdkpaa.P Go.Proofs.Ytjklkphhfkdkpaa.Gw
set_option linter.unusedVariables false
set_option linter.unusedSimpArgs false

/-- edges as Go has them -/
def toS (es : Ed) : List S37 := es.map fun e => (⟨(e.1 : Int), (e.2 : Int)⟩ : S37)
theorem toS_length (es : Ed) : (toS es).length = es.length := by simp [toS]
theorem rd_toS (es : Ed) (i : Nat) : rd_T37 (toS es) (i : Int) = ⟨((es.getD i (0, 0)).1 : Int), ((es.getD i (0, 0)).2 : Int)⟩ := by
  simp [rd_T37, toS, List.getD_eq_getElem?_getD]; cases es[i]? <;> simp [z37]

theorem l6In_eq (a b c : Int) : spec_l6In.f a b c = some (decide (b ≤ a) && decide (a ≤ c)) := by
  unfold spec_l6In.f
  by_cases h : a ≥ b
  · rw [if_pos h]; simp [show b ≤ a from h]
  · rw [if_neg h]; simp [show ¬ b ≤ a from h]

def badAt (n : Int) (xs : List S37) (i : Nat) : Bool := decide ((xs.getD i z37).f0 < 0) || decide ((xs.getD i z37).f0 ≥ (xs.getD i z37).f1) || decide ((xs.getD i z37).f1 ≥ n)
def backAt (xs : List S37) (i : Nat) : Bool := decide (0 < i) && (decide ((xs.getD i z37).f0 < (xs.getD (i - 1) z37).f0) || (decide ((xs.getD i z37).f0 = (xs.getD (i - 1) z37).f0) && decide ((xs.getD i z37).f1 ≤ (xs.getD (i - 1) z37).f1)))
def okFrom (n : Int) (xs : List S37) : Nat → Nat → Bool
  | 0, _ => true
  | d + 1, i => !badAt n xs i && !backAt xs i && okFrom n xs d (i + 1)
def gOk (n : Int) (xs : List S37) : Bool := decide (1 ≤ n) && decide (n ≤ 5) && okFrom n xs xs.length 0

theorem impl_j2 {n : Int} {xs : List S37} (hl : xs.length < 2 ^ 62) {d i : Nat} (hi : i + (d + 1) = xs.length)
    (ih : Ev (fun k => impl_WayGraph.l0 k xs (xs.length : Int) ((i + 1 : Nat) : Int) n xs) (okFrom n xs d (i + 1))) :
    Ev (fun k => impl_WayGraph.j2 k (i : Int) xs (xs.length : Int) (i : Int) (badAt n xs i) n xs (xs.getD i z37).f0 (xs.getD i z37).f1) (okFrom n xs (d + 1) i) := by
  have hw1 : wrap64 ((i : Int) + 1) = ((i + 1 : Nat) : Int) := by rw [wrap_id (by omega) (by omega)]; simp
  rw [okFrom]
  cases hb : badAt n xs i with
  | true => exact Ev.step (f := fun _ => some false) (fun k => by simp only [impl_WayGraph.j2]; rw [if_pos trivial]) (by simpa using Ev.now false)
  | false =>
    by_cases h0 : 0 < i
    · have hw : wrap64 ((i : Int) - 1) = ((i - 1 : Nat) : Int) := by rw [wrap_id (by omega) (by omega)]; omega
      have hr : rd_T37 xs ((i - 1 : Nat) : Int) = xs.getD (i - 1) z37 := by simp [rd_T37]
      by_cases c1 : (xs.getD i z37).f0 < (xs.getD (i - 1) z37).f0
      · have hbk : backAt xs i = true := by simp only [backAt, h0, c1]; rfl
        rw [hbk]
        exact Ev.step (f := fun _ => some false) (fun k => by
          simp only [impl_WayGraph.j2]; rw [if_neg (by simp), if_pos (by omega), hw, if_pos (by omega), if_pos (by omega), hr, if_pos c1]) (by simpa using Ev.now false)
      · by_cases c2 : (xs.getD i z37).f0 = (xs.getD (i - 1) z37).f0
        · by_cases c3 : (xs.getD i z37).f1 ≤ (xs.getD (i - 1) z37).f1
          · have hbk : backAt xs i = true := by simp only [backAt, h0, c2, c3]; simp
            rw [hbk]
            exact Ev.step (f := fun _ => some false) (fun k => by
              simp only [impl_WayGraph.j2]; rw [if_neg (by simp), if_pos (by omega), hw, if_pos (by omega), if_pos (by omega), hr, if_neg c1, if_pos c2, if_pos c3]) (by simpa using Ev.now false)
          · have hbk : backAt xs i = false := by simp only [backAt, c1, c3]; simp
            rw [hbk]
            refine Ev.step (f := fun k => impl_WayGraph.l0 k xs (xs.length : Int) ((i + 1 : Nat) : Int) n xs) (fun k => by
              simp only [impl_WayGraph.j2]; rw [if_neg (by simp), if_pos (by omega), hw, if_pos (by omega), if_pos (by omega), hr, if_neg c1, if_pos c2, if_neg c3, hw1]) (by simpa using ih)
        · have hbk : backAt xs i = false := by simp only [backAt, c1, c2]; simp
          rw [hbk]
          refine Ev.step (f := fun k => impl_WayGraph.l0 k xs (xs.length : Int) ((i + 1 : Nat) : Int) n xs) (fun k => by
            simp only [impl_WayGraph.j2]; rw [if_neg (by simp), if_pos (by omega), hw, if_pos (by omega), if_pos (by omega), hr, if_neg c1, if_neg c2, hw1]) (by simpa using ih)
    · have hbk : backAt xs i = false := by simp only [backAt, h0]; simp
      rw [hbk]
      refine Ev.step (f := fun k => impl_WayGraph.l0 k xs (xs.length : Int) ((i + 1 : Nat) : Int) n xs) (fun k => by
        simp only [impl_WayGraph.j2]; rw [if_neg (by simp), if_neg (by omega), hw1]) (by simpa using ih)
theorem impl_l0 {n : Int} {xs : List S37} (hl : xs.length < 2 ^ 62) : ∀ d i : Nat, i + d = xs.length →
    Ev (fun k => impl_WayGraph.l0 k xs (xs.length : Int) (i : Int) n xs) (okFrom n xs d i) := by
  intro d
  induction d with
  | zero => intro i hi; exact Ev.step (f := fun _ => some true) (fun k => by simp only [impl_WayGraph.l0]; rw [if_neg (by omega)]) (Ev.now true)
  | succ d ih =>
    intro i hi
    refine Ev.step (f := fun k => impl_WayGraph.j2 k (i : Int) xs (xs.length : Int) (i : Int) (badAt n xs i) n xs (xs.getD i z37).f0 (xs.getD i z37).f1) (fun k => ?_) (impl_j2 hl hi (ih (i + 1) (by omega)))
    have hr : rd_T37 xs (i : Int) = xs.getD i z37 := by simp [rd_T37]
    simp only [impl_WayGraph.l0]
    rw [if_pos (by omega), if_pos (by omega), if_pos (by omega), hr]
    unfold badAt
    by_cases c1 : (xs.getD i z37).f0 < 0
    · rw [if_pos c1, decide_eq_true c1]; rfl
    · rw [if_neg c1]
      by_cases c2 : (xs.getD i z37).f0 ≥ (xs.getD i z37).f1
      · rw [if_pos c2, decide_eq_true c2]; simp
      · rw [if_neg c2, decide_eq_false c1, decide_eq_false c2]; simp
theorem impl_wayGraph {n : Int} {xs : List S37} (hl : xs.length < 2 ^ 62) : Ev (fun k => impl_WayGraph.f k n xs) (gOk n xs) := by
  unfold gOk
  by_cases h1 : n < 1
  · rw [decide_eq_false (show ¬ 1 ≤ n by omega)]
    refine Ev.congr (f := fun k => impl_WayGraph.j0 k true n xs) (fun k => by unfold impl_WayGraph.f; rw [if_pos h1]) ?_
    exact Ev.step (f := fun _ => some false) (fun k => by simp only [impl_WayGraph.j0]; rw [if_pos trivial]) (Ev.now false)
  · rw [decide_eq_true (show 1 ≤ n by omega)]
    refine Ev.congr (f := fun k => impl_WayGraph.j0 k (decide (n > 5)) n xs) (fun k => by unfold impl_WayGraph.f; rw [if_neg h1]) ?_
    by_cases h2 : n > 5
    · rw [decide_eq_true h2, decide_eq_false (show ¬ n ≤ 5 by omega)]
      exact Ev.step (f := fun _ => some false) (fun k => by simp only [impl_WayGraph.j0]; rw [if_pos trivial]) (Ev.now false)
    · rw [decide_eq_false h2, decide_eq_true (show n ≤ 5 by omega)]
      refine Ev.step (f := fun k => impl_WayGraph.l0 k xs (xs.length : Int) ((0 : Nat) : Int) n xs) (fun k => by simp only [impl_WayGraph.j0]; rw [if_neg (by simp)]; rfl) ?_
      simpa using impl_l0 (n := n) hl xs.length 0 (by omega)

theorem spec_j1 {n : Int} {xs : List S37} (hl : xs.length < 2 ^ 62) {d i : Nat} (hi : i + (d + 1) = xs.length) (r : Bool)
    (ih : Ev (fun k => spec_WayGraph.l0 k ((i + 1 : Nat) : Int) n xs) r) :
    Ev (fun k => spec_WayGraph.j1 k (i : Int) false n xs (xs.getD i z37).f0 (xs.getD i z37).f1) (!backAt xs i && r) := by
  have hw1 : wrap64 ((i : Int) + 1) = ((i + 1 : Nat) : Int) := by rw [wrap_id (by omega) (by omega)]; simp
  by_cases h0 : 0 < i
  · have hw : wrap64 ((i : Int) - 1) = ((i - 1 : Nat) : Int) := by rw [wrap_id (by omega) (by omega)]; omega
    have hr : rd_T37 xs ((i - 1 : Nat) : Int) = xs.getD (i - 1) z37 := by simp [rd_T37]
    by_cases c1 : (xs.getD i z37).f0 < (xs.getD (i - 1) z37).f0
    · have hbk : backAt xs i = true := by simp only [backAt, h0, c1]; rfl
      rw [hbk]
      exact Ev.step (f := fun _ => some false) (fun k => by
        simp only [spec_WayGraph.j1]; rw [if_neg (by simp), if_pos (by omega), hw, if_pos (by omega), if_pos (by omega), hr, if_pos c1]) (by simpa using Ev.now false)
    · by_cases c2 : (xs.getD i z37).f0 = (xs.getD (i - 1) z37).f0
      · by_cases c3 : (xs.getD i z37).f1 ≤ (xs.getD (i - 1) z37).f1
        · have hbk : backAt xs i = true := by simp only [backAt, h0, c2, c3]; simp
          rw [hbk]
          exact Ev.step (f := fun _ => some false) (fun k => by
            simp only [spec_WayGraph.j1]; rw [if_neg (by simp), if_pos (by omega), hw, if_pos (by omega), if_pos (by omega), hr, if_neg c1, if_pos c2, if_pos c3]) (by simpa using Ev.now false)
        · have hbk : backAt xs i = false := by simp only [backAt, c1, c3]; simp
          rw [hbk]
          refine Ev.step (f := fun k => spec_WayGraph.l0 k ((i + 1 : Nat) : Int) n xs) (fun k => by
            simp only [spec_WayGraph.j1]; rw [if_neg (by simp), if_pos (by omega), hw, if_pos (by omega), if_pos (by omega), hr, if_neg c1, if_pos c2, if_neg c3, hw1]) (by simpa using ih)
      · have hbk : backAt xs i = false := by simp only [backAt, c1, c2]; simp
        rw [hbk]
        refine Ev.step (f := fun k => spec_WayGraph.l0 k ((i + 1 : Nat) : Int) n xs) (fun k => by
          simp only [spec_WayGraph.j1]; rw [if_neg (by simp), if_pos (by omega), hw, if_pos (by omega), if_pos (by omega), hr, if_neg c1, if_neg c2, hw1]) (by simpa using ih)
  · have hbk : backAt xs i = false := by simp only [backAt, h0]; simp
    rw [hbk]
    refine Ev.step (f := fun k => spec_WayGraph.l0 k ((i + 1 : Nat) : Int) n xs) (fun k => by
      simp only [spec_WayGraph.j1]; rw [if_neg (by simp), if_neg (by omega), hw1]) (by simpa using ih)
theorem spec_l0_step {n : Int} {xs : List S37} {i : Nat} (hi : i < xs.length) : ∃ b : Bool,
    (b = (!(decide (0 ≤ (xs.getD i z37).f0) && decide ((xs.getD i z37).f0 ≤ wrap64 (n - 1)) && (decide (wrap64 ((xs.getD i z37).f0 + 1) ≤ (xs.getD i z37).f1) && decide ((xs.getD i z37).f1 ≤ wrap64 (n - 1)))))) ∧
    ∀ k, spec_WayGraph.l0 (k + 1) (i : Int) n xs = spec_WayGraph.j1 k (i : Int) b n xs (xs.getD i z37).f0 (xs.getD i z37).f1 := by
  refine ⟨_, rfl, fun k => ?_⟩
  have hr : rd_T37 xs (i : Int) = xs.getD i z37 := by simp [rd_T37]
  simp only [spec_WayGraph.l0]
  rw [if_pos (by omega), if_pos (by omega), hr, l6In_eq, l6In_eq]
  simp only [Option.bind_some]
  cases (decide (0 ≤ (xs.getD i z37).f0) && decide ((xs.getD i z37).f0 ≤ wrap64 (n - 1))) <;> simp
theorem spec_l0_ok {n : Int} (h1 : 1 ≤ n) (h5 : n ≤ 5) {xs : List S37} (hl : xs.length < 2 ^ 62) : ∀ d i : Nat, i + d = xs.length →
    Ev (fun k => spec_WayGraph.l0 k (i : Int) n xs) (okFrom n xs d i) := by
  intro d
  induction d with
  | zero =>
    intro i hi
    exact Ev.step (f := fun _ => some true) (fun k => by simp only [spec_WayGraph.l0]; rw [if_neg (by omega), l6In_eq]; simp [h1, h5]) (Ev.now true)
  | succ d ih =>
    intro i hi
    obtain ⟨b, hb, hs⟩ := spec_l0_step (n := n) (xs := xs) (i := i) (by omega)
    have hbad : b = badAt n xs i := by
      rw [hb]; unfold badAt
      rw [wrap_id (x := n - 1) (by omega) (by omega)]
      by_cases c1 : 0 ≤ (xs.getD i z37).f0
      · by_cases c2 : (xs.getD i z37).f0 ≤ n - 1
        · rw [wrap_id (x := (xs.getD i z37).f0 + 1) (by omega) (by omega), decide_eq_true c1, decide_eq_true c2, decide_eq_false (show ¬ (xs.getD i z37).f0 < 0 by omega)]
          by_cases c3 : (xs.getD i z37).f0 + 1 ≤ (xs.getD i z37).f1
          · rw [decide_eq_true c3, decide_eq_false (show ¬ (xs.getD i z37).f0 ≥ (xs.getD i z37).f1 by omega)]
            by_cases c4 : (xs.getD i z37).f1 ≤ n - 1
            · rw [decide_eq_true c4, decide_eq_false (show ¬ (xs.getD i z37).f1 ≥ n by omega)]; rfl
            · rw [decide_eq_false c4, decide_eq_true (show (xs.getD i z37).f1 ≥ n by omega)]; rfl
          · rw [decide_eq_false c3, decide_eq_true (show (xs.getD i z37).f0 ≥ (xs.getD i z37).f1 by omega)]; rfl
        · rw [decide_eq_true c1, decide_eq_false c2]
          by_cases c3 : (xs.getD i z37).f0 ≥ (xs.getD i z37).f1
          · rw [decide_eq_true c3]; simp
          · rw [decide_eq_true (show (xs.getD i z37).f1 ≥ n by omega)]; simp
      · rw [decide_eq_false c1, decide_eq_true (show (xs.getD i z37).f0 < 0 by omega)]; simp
    refine Ev.step (f := fun k => spec_WayGraph.j1 k (i : Int) b n xs (xs.getD i z37).f0 (xs.getD i z37).f1) hs ?_
    rw [okFrom, hbad]
    cases badAt n xs i with
    | true => exact Ev.step (f := fun _ => some false) (fun k => by simp only [spec_WayGraph.j1]; rw [if_pos trivial]) (by simpa using Ev.now false)
    | false => simpa using spec_j1 hl hi _ (ih (i + 1) (by omega))
theorem spec_l0_no {n : Int} (hn : ¬ (1 ≤ n ∧ n ≤ 5)) {xs : List S37} (hl : xs.length < 2 ^ 62) : ∀ d i : Nat, i + d = xs.length →
    Ev (fun k => spec_WayGraph.l0 k (i : Int) n xs) false := by
  intro d
  induction d with
  | zero =>
    intro i hi
    exact Ev.step (f := fun _ => some false) (fun k => by
      simp only [spec_WayGraph.l0]; rw [if_neg (by omega), l6In_eq]
      have : (decide (1 ≤ n) && decide (n ≤ 5)) = false := by
        by_cases h : 1 ≤ n
        · rw [decide_eq_false (show ¬ n ≤ 5 by omega)]; simp
        · rw [decide_eq_false h]; rfl
      rw [this]; rfl) (Ev.now false)
  | succ d ih =>
    intro i hi
    obtain ⟨b, hb, hs⟩ := spec_l0_step (n := n) (xs := xs) (i := i) (by omega)
    refine Ev.step (f := fun k => spec_WayGraph.j1 k (i : Int) b n xs (xs.getD i z37).f0 (xs.getD i z37).f1) hs ?_
    cases b with
    | true => exact Ev.step (f := fun _ => some false) (fun k => by simp only [spec_WayGraph.j1]; rw [if_pos trivial]) (by simpa using Ev.now false)
    | false => simpa using spec_j1 hl hi _ (ih (i + 1) (by omega))
theorem spec_wayGraph {n : Int} {xs : List S37} (hl : xs.length < 2 ^ 62) : Ev (fun k => spec_WayGraph.f k n xs) (gOk n xs) := by
  refine Ev.congr (f := fun k => spec_WayGraph.l0 k ((0 : Nat) : Int) n xs) (fun k => rfl) ?_
  unfold gOk
  by_cases h : 1 ≤ n ∧ n ≤ 5
  · rw [decide_eq_true h.1, decide_eq_true h.2]
    simpa using spec_l0_ok h.1 h.2 hl xs.length 0 (by omega)
  · have : (decide (1 ≤ n) && decide (n ≤ 5)) = false := by
      by_cases h1 : 1 ≤ n
      · rw [decide_eq_false (show ¬ n ≤ 5 by omega)]; simp
      · rw [decide_eq_false h1]; rfl
    rw [this]
    exact spec_l0_no h hl xs.length 0 (by omega)

/-! what is a graph -/
def lexlt (a b : Nat × Nat) : Prop := a.1 < b.1 ∨ a.1 = b.1 ∧ a.2 < b.2
instance (a b : Nat × Nat) : Decidable (lexlt a b) := inferInstanceAs (Decidable (_ ∨ _ ∧ _))
theorem lexlt_irrefl (a : Nat × Nat) : ¬ lexlt a a := by unfold lexlt; omega
theorem lexlt_trans (a b c : Nat × Nat) (h : lexlt a b) (k : lexlt b c) : lexlt a c := by unfold lexlt at *; omega
/-- a graph: its edges are some of all pairs, in order -/
structure Valid (m : Nat) (es : Ed) : Prop where
  pos : 1 ≤ m
  le : m ≤ 5
  sub : es.Sublist (pairs m)

theorem okFrom_at {n : Int} {xs : List S37} : ∀ d i : Nat, okFrom n xs d i = true → ∀ j, i ≤ j → j < i + d → badAt n xs j = false ∧ backAt xs j = false := by
  intro d
  induction d with
  | zero => intro i _ j h1 h2; omega
  | succ d ih =>
    intro i h j h1 h2
    rw [okFrom] at h
    simp only [Bool.and_eq_true, Bool.not_eq_true'] at h
    by_cases e : j = i
    · subst e; exact h.1
    · exact ih (i + 1) h.2 j (by omega) (by omega)
theorem pairs_sorted : ∀ m, m ≤ 5 → (pairs m).Pairwise lexlt := by
  intro m hm
  exact (show ∀ m, m < 6 → (pairs m).Pairwise lexlt by decide) m (by omega)
theorem mem_pairs : ∀ m, m ≤ 5 → ∀ a b, a < b → b < m → (a, b) ∈ pairs m := by
  intro m hm a b h1 h2
  have key : ∀ m, m < 6 → ∀ b, b < m → ∀ a, a < b → (pairs m).contains (a, b) = true := by decide
  exact List.contains_iff_mem.mp (key m (by omega) b h2 a h1)
theorem pairs_mem : ∀ m, m < 6 → ∀ e ∈ pairs m, e.1 < e.2 ∧ e.2 < m := by decide
theorem pairs_length : ∀ m, m < 6 → (pairs m).length ≤ 10 := by decide
theorem gOk_valid {n : Int} {xs : List S37} (h : gOk n xs = true) : ∃ (m : Nat) (es : Ed), n = (m : Int) ∧ xs = toS es ∧ Valid m es := by
  unfold gOk at h
  simp only [Bool.and_eq_true, decide_eq_true_eq] at h
  obtain ⟨⟨h1, h5⟩, hok⟩ := h
  have hat := okFrom_at xs.length 0 hok
  obtain ⟨m, rfl⟩ := Int.eq_ofNat_of_zero_le (show 0 ≤ n by omega)
  have hb : ∀ j (hj : j < xs.length), 0 ≤ (xs[j]).f0 ∧ (xs[j]).f0 < (xs[j]).f1 ∧ (xs[j]).f1 < (m : Int) := by
    intro j hj
    have := (hat j (by omega) (by omega)).1
    simp only [badAt, List.getD_eq_getElem?_getD, List.getElem?_eq_getElem hj, Option.getD_some, Bool.or_eq_false_iff, decide_eq_false_iff_not] at this
    omega
  have hk : ∀ j (hj : j + 1 < xs.length), (xs[j]).f0 < (xs[j + 1]).f0 ∨ (xs[j]).f0 = (xs[j + 1]).f0 ∧ (xs[j]).f1 < (xs[j + 1]).f1 := by
    intro j hj
    have := (hat (j + 1) (by omega) (by omega)).2
    simp only [backAt, List.getD_eq_getElem?_getD, List.getElem?_eq_getElem hj, Nat.add_sub_cancel, List.getElem?_eq_getElem (show j < xs.length by omega), Option.getD_some, Bool.and_eq_false_iff, Bool.or_eq_false_iff, decide_eq_false_iff_not] at this
    omega
  refine ⟨m, xs.map fun e => (e.f0.toNat, e.f1.toNat), rfl, ?_, by omega, by omega, ?_⟩
  · apply List.ext_getElem (by simp [toS])
    intro j h2 h3
    have := hb j h2
    have e0 : ((xs[j]).f0.toNat : Int) = (xs[j]).f0 := by omega
    have e1 : ((xs[j]).f1.toNat : Int) = (xs[j]).f1 := by omega
    simp only [toS, List.getElem_map, e0, e1]
  · apply sublist_of_sorted lexlt lexlt_irrefl lexlt_trans _ _ (pairs_sorted m (by omega))
    · rw [List.pairwise_iff_getElem]
      have step : ∀ (c i : Nat) (hj : i + c + 1 < xs.length), lexlt ((xs[i]).f0.toNat, (xs[i]).f1.toNat) ((xs[i + c + 1]).f0.toNat, (xs[i + c + 1]).f1.toNat) := by
        intro c
        induction c with
        | zero =>
          intro i hj
          have a := hb i (by omega); have b := hb (i + 1) (by omega); have c := hk i (by omega)
          unfold lexlt; simp only [Nat.add_zero]; omega
        | succ c ih =>
          intro i hj
          refine lexlt_trans _ _ _ (ih i (by omega)) ?_
          have a := hb (i + c + 1) (by omega); have b := hb (i + c + 1 + 1) (by omega); have c' := hk (i + c + 1) (by omega)
          unfold lexlt; simp only [show i + (c + 1) + 1 = i + c + 1 + 1 by omega]; omega
      intro i j hi hj hij
      simp only [List.length_map] at hi hj
      have := step (j - i - 1) i (by omega)
      simp only [show i + (j - i - 1) + 1 = j by omega] at this
      simpa using this
    · intro x hx
      obtain ⟨e, he, rfl⟩ := List.mem_map.mp hx
      obtain ⟨j, hj, rfl⟩ := List.getElem_of_mem he
      have := hb j hj
      exact mem_pairs m (by omega) _ _ (by omega) (by omega)
namespace Valid
variable {m : Nat} {es : Ed}
theorem inR (h : Valid m es) : InR m es := fun e he => by
  have := pairs_mem m (by have := h.le; omega) e (h.sub.subset he); omega
theorem lt (h : Valid m es) : ∀ e ∈ es, e.1 < e.2 := fun e he => (pairs_mem m (by have := h.le; omega) e (h.sub.subset he)).1
theorem len (h : Valid m es) : es.length ≤ 10 := Nat.le_trans h.sub.length_le (pairs_length m (by have := h.le; omega))
theorem sorted (h : Valid m es) : es.Pairwise lexlt := List.Pairwise.sublist h.sub (pairs_sorted m h.le)
theorem nodup (h : Valid m es) : es.Nodup := List.Pairwise.imp (fun {a b} hab => by rintro rfl; exact lexlt_irrefl _ hab) h.sorted
end Valid
end Go.Proofs.Ytjklkphhfkdkpaa.Lk
end

section
/-
  What the laws' drawing of a graph comes to: some number of nodes from 1 to 5 and some list of edges.
-/
namespace Go.Proofs.Ytjklkphhfkdkpaa.Lk
open Go Go.RowKit Go.Proofs.YtjklkphhfkdkpaaW.PrintWords Go.Proofs.YtjklkphhfkdkpaaW.PrintLast Go.Proofs.YtjklkphhfkdkpaaW.PrintMore Go.Proofs.Ytjklkphhfkdkpaa.P Go.Proofs.Ytjklkphhfkdkpaa.Gw
set_option linter.unusedVariables false
set_option linter.unusedSimpArgs false

theorem wf_u8 {x : Int} (h : (Lit.int .u8 x).wf = true) : 0 ≤ x ∧ x ≤ 255 := by
  have h : (decide (IntKind.u8.min ≤ x) && decide (x ≤ IntKind.u8.max)) = true := h
  simp only [Bool.and_eq_true, decide_eq_true_eq] at h
  have a : IntKind.u8.min = 0 := by decide
  have b : IntKind.u8.max = 255 := by decide
  omega
/-- a code that is read -/
structure Cod (b : List Int) : Prop where
  len : b.length ≤ 2000
  byte : ∀ x ∈ b, 0 ≤ x ∧ x ≤ 255
theorem Cod.rd {b : List Int} (h : Cod b) (i : Int) : 0 ≤ rd b i ∧ rd b i ≤ 255 := by
  unfold Go.Proofs.YtjklkphhfkdkpaaW.PrintWords.rd
  rw [List.getD_eq_getElem?_getD]
  cases hx : b[i.toNat]? with
  | none => simp
  | some x => exact h.byte x (List.mem_of_getElem? hx)
theorem tmod_range {x n : Int} (hx : 0 ≤ x) (hn : 1 ≤ n) : 0 ≤ Int.tmod x n ∧ Int.tmod x n < n :=
  ⟨Int.tmod_nonneg _ hx, Int.tmod_lt_of_pos _ (by omega)⟩
theorem pick_ev {b : List Int} (h : Cod b) (p : Nat) (hp : p ≤ 1000000) (n : Int) : ∃ r : Int, 0 ≤ r ∧ (r < n ∨ r = 0) ∧ Ev (fun k => spec_l6Rd_pick.f k b (p : Int) n) (r, ((p + 1 : Nat) : Int)) := by
  have hw : wrap64 ((p : Int) + 1) = ((p + 1 : Nat) : Int) := by rw [wrap_id (by omega) (by omega)]; simp
  have hw1 : wrap64 (((p + 1 : Nat) : Int) - 1) = (p : Int) := by rw [wrap_id (by omega) (by omega)]; omega
  by_cases h1 : n < 1
  · refine ⟨0, by omega, .inr rfl, ?_⟩
    simp only [spec_l6Rd_pick.f, if_pos h1, hw]
    exact Ev.step (f := fun _ => some (0, ((p + 1 : Nat) : Int))) (fun k => by simp only [spec_l6Rd_pick.j0]; rw [if_pos trivial]) (Ev.now _)
  · by_cases h2 : b.length = 0
    · refine ⟨0, by omega, .inr rfl, ?_⟩
      have e : ((b.length : Int) == 0) = true := by rw [h2]; rfl
      simp only [spec_l6Rd_pick.f, if_neg h1, hw, e]
      exact Ev.step (f := fun _ => some (0, ((p + 1 : Nat) : Int))) (fun k => by simp only [spec_l6Rd_pick.j0]; rw [if_pos trivial]) (Ev.now _)
    · have e : ((b.length : Int) == 0) = false := by simpa using h2
      have hl := h.len
      by_cases h3 : (p : Int) < (b.length : Int)
      · have hr := h.rd (p : Int)
        have hx := tmod_range (x := wrap64 (rd b (p : Int))) (n := n) (by rw [wrap_id (by omega) (by omega)]; omega) (by omega)
        refine ⟨_, hx.1, .inl hx.2, ?_⟩
        simp only [spec_l6Rd_pick.f, if_neg h1, hw, e]
        refine Ev.step (f := fun _ => some (Int.tmod (wrap64 (rd b (p : Int))) n, ((p + 1 : Nat) : Int))) (fun k => ?_) (Ev.now _)
        simp only [spec_l6Rd_pick.j0, hw1]
        rw [if_neg (by simp), if_pos h3, if_pos (by omega), if_neg (by omega)]
      · have m1 := tmod_range (x := (p : Int)) (n := (b.length : Int)) (by omega) (by omega)
        have w7 : wrap64 (wrap64 ((p : Int) * 7) + 3) = (p : Int) * 7 + 3 := by rw [wrap_id (x := (p : Int) * 7) (by omega) (by omega), wrap_id (by omega) (by omega)]
        have m2 := tmod_range (x := (p : Int) * 7 + 3) (n := (b.length : Int)) (by omega) (by omega)
        have r1 := h.rd (Int.tmod (p : Int) (b.length : Int))
        have r2 := h.rd (Int.tmod ((p : Int) * 7 + 3) (b.length : Int))
        have q0 : 0 ≤ Int.tdiv (p : Int) (b.length : Int) ∧ Int.tdiv (p : Int) (b.length : Int) ≤ (p : Int) := by
          rw [Int.tdiv_eq_ediv_of_nonneg (by omega)]
          exact ⟨Int.ediv_nonneg (by omega) (by omega), Int.ediv_le_self _ (by omega)⟩
        generalize hA : rd b (Int.tmod (p : Int) (b.length : Int)) = A at r1
        generalize hB : rd b (Int.tmod ((p : Int) * 7 + 3) (b.length : Int)) = B at r2
        generalize hQ : Int.tdiv (p : Int) (b.length : Int) = Q at q0
        have wx : wrap64 (wrap64 (wrap64 (wrap64 (wrap64 A * 131) + wrap64 (wrap64 B * 1117)) + wrap64 ((p : Int) * 29)) + wrap64 (wrap64 Q * 53)) = A * 131 + B * 1117 + (p : Int) * 29 + Q * 53 := by
          rw [wrap_id (x := A) (by omega) (by omega), wrap_id (x := A * 131) (by omega) (by omega), wrap_id (x := B) (by omega) (by omega), wrap_id (x := B * 1117) (by omega) (by omega),
            wrap_id (x := (p : Int) * 29) (by omega) (by omega), wrap_id (x := Q) (by omega) (by omega), wrap_id (x := Q * 53) (by omega) (by omega), wrap_id (x := A * 131 + B * 1117) (by omega) (by omega),
            wrap_id (x := A * 131 + B * 1117 + (p : Int) * 29) (by omega) (by omega), wrap_id (by omega) (by omega)]
        obtain ⟨X, hX⟩ := Int.eq_ofNat_of_zero_le (show 0 ≤ A * 131 + B * 1117 + (p : Int) * 29 + Q * 53 by omega)
        have hXlt : X < 2 ^ 40 := by omega
        have wd : wrap64 (Int.tdiv (X : Int) 64) = ((X / 64 : Nat) : Int) := by
          rw [Int.tdiv_eq_ediv_of_nonneg (by omega)]
          rw [wrap_id (by omega) (by omega)]; simp
        have hxor : Go.bits .xor .i64 (X : Int) ((X / 64 : Nat) : Int) = ((X ^^^ (X / 64) : Nat) : Int) := xor_nat (by omega) (by omega)
        have m3 := tmod_range (x := ((X ^^^ (X / 64) : Nat) : Int)) (n := n) (by omega) (by omega)
        refine ⟨_, m3.1, .inl m3.2, ?_⟩
        simp only [spec_l6Rd_pick.f, if_neg h1, hw, e]
        refine Ev.step (f := fun _ => some (Int.tmod ((X ^^^ (X / 64) : Nat) : Int) n, ((p + 1 : Nat) : Int))) (fun k => ?_) (Ev.now _)
        simp only [spec_l6Rd_pick.j0, hw1, w7, hA, hB, hQ, wx, hX]
        rw [if_neg (by simp), if_neg h3, if_neg (by omega), if_pos m1.1, if_pos m1.2, if_pos m2.1, if_pos m2.2, if_neg (by omega), wd, hxor]

theorem open_ev {l : List Int} (hl : l.length ≤ 1048576) (hb : ∀ x ∈ l, (Lit.int .u8 x).wf = true) : ∃ b, Cod b ∧ spec_l6Open.f l = some (b, 0) := by
  have hb' : ∀ x ∈ l, 0 ≤ x ∧ x ≤ 255 := fun x hx => wf_u8 (hb x hx)
  unfold spec_l6Open.f
  by_cases h : (l.length : Int) > 2000
  · rw [if_pos h, if_pos (by omega)]
    exact ⟨_, ⟨by rw [List.length_take]; omega, fun x hx => hb' x (List.mem_of_mem_take hx)⟩, rfl⟩
  · rw [if_neg h]; exact ⟨_, ⟨by omega, hb'⟩, rfl⟩

/-- what a drawn graph is -/
structure Drawn (m : Nat) (xs : List S37) (p : Nat) : Prop where
  pos : 1 ≤ m
  le : m ≤ 5
  len : xs.length ≤ 100
  at_ : p ≤ 200
theorem graph_l {b : List Int} (h : Cod b) {m : Nat} (hm : m ≤ 5) (kind : Int) (hk : 0 ≤ kind) : ∀ (d a : Nat), a + d = m → ∀ (p : Nat) (xs : List S37), p + 5 * d ≤ 1000 → xs.length + 5 * d ≤ 1000 →
    ∃ (xs' : List S37) (p' : Nat), xs'.length ≤ xs.length + 5 * d + 1 ∧ p' ≤ p + 5 * d + 1 ∧ Ev (fun k => spec_l91Graph.l0 k (m : Int) kind (a : Int) b (p : Int) (m : Int) xs) ((m : Int), xs', (p' : Int)) := by
  intro d
  induction d with
  | zero =>
    intro a ha p xs hp hx
    obtain ⟨r, _, _, hr⟩ := pick_ev h p (by omega) 40
    by_cases h0 : r = 0
    · refine ⟨xs ++ [⟨wrap64 ((m : Int) - 1), 0⟩], p + 1, by simp, by omega, ?_⟩
      refine Ev.step (fun k => rfl) ?_
      simp only [spec_l91Graph.l0, if_neg (show ¬ (a : Int) < (m : Int) by omega)]
      refine Ev.bind hr ?_
      simp only [if_pos h0, if_pos (show xs.length < 8796093022208 by omega)]; exact Ev.now _
    · refine ⟨xs, p + 1, by omega, by omega, ?_⟩
      refine Ev.step (fun k => rfl) ?_
      simp only [spec_l91Graph.l0, if_neg (show ¬ (a : Int) < (m : Int) by omega)]
      refine Ev.bind hr ?_
      simp only [if_neg h0]; exact Ev.now _
  | succ d ih =>
    intro a ha p xs hp hx
    have inner : ∀ (e c : Nat), c + e = m → e ≤ 5 → ∀ (p : Nat) (xs : List S37), p + e + 5 * d ≤ 1000 → xs.length + e + 5 * d ≤ 1000 →
        ∃ (xs' : List S37) (p' : Nat), xs'.length ≤ xs.length + e + 5 * d + 1 ∧ p' ≤ p + e + 5 * d + 1 ∧ Ev (fun k => spec_l91Graph.l1 k (m : Int) kind (a : Int) (c : Int) b (p : Int) (m : Int) xs) ((m : Int), xs', (p' : Int)) := by
      intro e
      induction e with
      | zero =>
        intro c hc _ p xs hp hx
        obtain ⟨xs', p', h1, h2, h3⟩ := ih (a + 1) (by omega) p xs (by omega) (by omega)
        refine ⟨xs', p', by omega, by omega, ?_⟩
        refine Ev.step (f := fun k => spec_l91Graph.l0 k (m : Int) kind ((a + 1 : Nat) : Int) b (p : Int) (m : Int) xs) (fun k => ?_) h3
        simp only [spec_l91Graph.l1]
        rw [if_neg (by omega), wrap_id (by omega) (by omega)]; simp
      | succ e ihe =>
        intro c hc he p xs hp hx
        have hwc : wrap64 ((c : Int) + 1) = ((c + 1 : Nat) : Int) := by rw [wrap_id (by omega) (by omega)]; simp
        have hlt : (c : Int) < (m : Int) := by omega
        have hxl : xs.length < 8796093022208 := by omega
        obtain ⟨xa, pa, a1, a2, a3⟩ := ihe (c + 1) (by omega) (by omega) p (xs ++ [⟨(a : Int), (c : Int)⟩]) (by omega) (by simp; omega)
        obtain ⟨xb, pb, b1, b2, b3⟩ := ihe (c + 1) (by omega) (by omega) p xs (by omega) (by omega)
        obtain ⟨r, _, _, hr⟩ := pick_ev h p (by omega) 5
        obtain ⟨xc, pc, c1, c2, c3⟩ := ihe (c + 1) (by omega) (by omega) (p + 1) (xs ++ [⟨(a : Int), (c : Int)⟩]) (by omega) (by simp; omega)
        obtain ⟨xd, pd, d1, d2, d3⟩ := ihe (c + 1) (by omega) (by omega) (p + 1) xs (by omega) (by omega)
        simp only [List.length_append, List.length_singleton] at a1 c1
        have yes : ∃ (xs' : List S37) (p' : Nat), xs'.length ≤ xs.length + (e + 1) + 5 * d + 1 ∧ p' ≤ p + (e + 1) + 5 * d + 1 ∧ Ev (fun k => spec_l91Graph.l1 k (m : Int) kind (a : Int) (wrap64 ((c : Int) + 1)) b (p : Int) (m : Int) (xs ++ [⟨(a : Int), (c : Int)⟩])) ((m : Int), xs', (p' : Int)) :=
          ⟨xa, pa, by omega, by omega, by rw [hwc]; exact a3⟩
        have no : ∃ (xs' : List S37) (p' : Nat), xs'.length ≤ xs.length + (e + 1) + 5 * d + 1 ∧ p' ≤ p + (e + 1) + 5 * d + 1 ∧ Ev (fun k => spec_l91Graph.l1 k (m : Int) kind (a : Int) (wrap64 ((c : Int) + 1)) b (p : Int) (m : Int) xs) ((m : Int), xs', (p' : Int)) :=
          ⟨xb, pb, by omega, by omega, by rw [hwc]; exact b3⟩
        have pk : ∃ (xs' : List S37) (p' : Nat), xs'.length ≤ xs.length + (e + 1) + 5 * d + 1 ∧ p' ≤ p + (e + 1) + 5 * d + 1 ∧ Ev (fun k => (spec_l6Rd_pick.f k b (p : Int) 5).bind fun bt => if bt.1 > 1 then (if xs.length < 8796093022208 then spec_l91Graph.l1 k (m : Int) kind (a : Int) (wrap64 ((c : Int) + 1)) b bt.2 (m : Int) (xs ++ [⟨(a : Int), (c : Int)⟩]) else none) else spec_l91Graph.l1 k (m : Int) kind (a : Int) (wrap64 ((c : Int) + 1)) b bt.2 (m : Int) xs) ((m : Int), xs', (p' : Int)) := by
          by_cases hr1 : r > 1
          · refine ⟨xc, pc, by omega, by omega, Ev.bind hr ?_⟩
            simp only [if_pos hr1, if_pos hxl, hwc]; exact c3
          · refine ⟨xd, pd, by omega, by omega, Ev.bind hr ?_⟩
            simp only [if_neg hr1, hwc]; exact d3
        have fin : ∀ g : Nat → Option (Int × List S37 × Int), (∀ k, spec_l91Graph.l1 (k + 1) (m : Int) kind (a : Int) (c : Int) b (p : Int) (m : Int) xs = g k) →
            (∃ (xs' : List S37) (p' : Nat), xs'.length ≤ xs.length + (e + 1) + 5 * d + 1 ∧ p' ≤ p + (e + 1) + 5 * d + 1 ∧ Ev g ((m : Int), xs', (p' : Int))) →
            ∃ (xs' : List S37) (p' : Nat), xs'.length ≤ xs.length + (e + 1) + 5 * d + 1 ∧ p' ≤ p + (e + 1) + 5 * d + 1 ∧ Ev (fun k => spec_l91Graph.l1 k (m : Int) kind (a : Int) (c : Int) b (p : Int) (m : Int) xs) ((m : Int), xs', (p' : Int)) :=
          fun g hg ⟨xs', p', h1, h2, h3⟩ => ⟨xs', p', h1, h2, Ev.step hg h3⟩
        by_cases k0 : kind = 0
        · exact fin _ (fun k => by simp only [spec_l91Graph.l1]; rw [if_pos hlt, if_pos k0, if_pos hxl]) yes
        by_cases k1 : kind = 1
        · have k2 : ¬ kind > 1 := by omega
          by_cases c1 : (c : Int) = wrap64 ((a : Int) + 1)
          · exact fin _ (fun k => by simp only [spec_l91Graph.l1]; rw [if_pos hlt, if_neg k0, if_pos k1, if_pos c1, if_pos hxl]) yes
          · by_cases c2 : (a : Int) = 0
            · by_cases c3 : (c : Int) = wrap64 ((m : Int) - 1)
              · exact fin _ (fun k => by simp only [spec_l91Graph.l1]; rw [if_pos hlt, if_neg k0, if_pos k1, if_neg c1, if_pos c2, if_pos c3, if_pos hxl]) yes
              · exact fin _ (fun k => by simp only [spec_l91Graph.l1]; rw [if_pos hlt, if_neg k0, if_pos k1, if_neg c1, if_pos c2, if_neg c3, if_neg k2]) no
            · exact fin _ (fun k => by simp only [spec_l91Graph.l1]; rw [if_pos hlt, if_neg k0, if_pos k1, if_neg c1, if_neg c2, if_neg k2]) no
        · have k2 : kind > 1 := by omega
          exact fin _ (fun k => by simp only [spec_l91Graph.l1]; rw [if_pos hlt, if_neg k0, if_neg k1, if_pos k2]) pk
    by_cases hlt : a + 1 ≤ m
    · obtain ⟨xs', p', h1, h2, h3⟩ := inner (m - (a + 1)) (a + 1) (by omega) (by omega) p xs (by omega) (by omega)
      refine ⟨xs', p', by omega, by omega, ?_⟩
      refine Ev.step (f := fun k => spec_l91Graph.l1 k (m : Int) kind (a : Int) ((a + 1 : Nat) : Int) b (p : Int) (m : Int) xs) (fun k => ?_) h3
      simp only [spec_l91Graph.l0]
      rw [if_pos (by omega), wrap_id (by omega) (by omega)]; simp
    · omega
theorem graph_ev {b : List Int} (h : Cod b) : ∃ (m : Nat) (xs : List S37) (p : Nat), Drawn m xs p ∧ Ev (fun k => spec_l91Graph.f k b 0) ((m : Int), xs, (p : Int)) := by
  obtain ⟨r1, a1, b1, e1⟩ := pick_ev h 0 (by omega) 5
  obtain ⟨r2, a2, b2, e2⟩ := pick_ev h 1 (by omega) 4
  obtain ⟨r, rfl⟩ := Int.eq_ofNat_of_zero_le a1
  obtain ⟨xs', p', h1, h2, h3⟩ := graph_l h (m := 1 + r) (by omega) r2 a2 (1 + r) 0 (by omega) 2 [] (by omega) (by simp only [List.length_nil]; omega)
  simp only [List.length_nil] at h1
  refine ⟨1 + r, xs', p', ⟨by omega, by omega, by omega, by omega⟩, ?_⟩
  unfold spec_l91Graph.f
  refine Ev.bind e1 (Ev.bind e2 ?_)
  have hw : wrap64 (1 + (r : Int)) = ((1 + r : Nat) : Int) := by rw [wrap_id (by omega) (by omega)]; simp
  simp only [hw]; exact h3
theorem some_ev {l : List Int} (hl : l.length ≤ 1048576) (hb : ∀ x ∈ l, (Lit.int .u8 x).wf = true) : ∃ (m : Nat) (xs : List S37), 1 ≤ m ∧ m ≤ 5 ∧ xs.length < 2 ^ 62 ∧ Ev (fun k => spec_l91Some.f k l) ((m : Int), xs) := by
  obtain ⟨b, hc, ho⟩ := open_ev hl hb
  obtain ⟨m, xs, p, hd, he⟩ := graph_ev hc
  refine ⟨m, xs, hd.pos, hd.le, by have := hd.len; omega, ?_⟩
  unfold spec_l91Some.f
  simp only [ho, Option.bind_some]
  exact Ev.bind he (Ev.now _)
end Go.Proofs.Ytjklkphhfkdkpaa.Lk
end

section
/-
  WayIn, of the program and of the reference: both tell 'wIn'; the direction turned.
-/
namespace Go.Proofs.Ytjklkphhfkdkpaa.Lk
open Go Go.RowKit Go.Proofs.YtjklkphhfkdkpaaW.PrintWords Go.Proofs.YtjklkphhfkdkpaaW.PrintLast Go.Proofs.YtjklkphhfkdkpaaW.PrintMore Go.Proofs.Ytjklkphhfkdkpaa.P Go.Proofs.Ytjklkphhfkdkpaa.Gw
set_option linter.unusedVariables false
set_option linter.unusedSimpArgs false

/-- a direction of a graph -/
def wIn (n : Int) (xs : List S37) (o : Int) : Bool := gOk n xs && (decide (0 ≤ o) && decide (o < ((2 ^ xs.length : Nat) : Int)))
theorem gOk_len {n : Int} {xs : List S37} (h : gOk n xs = true) : xs.length ≤ 10 := by
  obtain ⟨m, es, _, rfl, hv⟩ := gOk_valid h
  rw [toS_length]; exact hv.len
theorem pow_le {l : Nat} (h : l ≤ 10) : 2 ^ l ≤ 1024 := Nat.pow_le_pow_right (n := 2) (j := 10) (by omega) h
theorem impl_wayIn {n o : Int} {xs : List S37} (hl : xs.length < 2 ^ 62) : Ev (fun k => impl_WayIn.f k n xs o) (wIn n xs o) := by
  unfold impl_WayIn.f wIn
  refine Ev.bind (impl_wayGraph hl) ?_
  cases hg : gOk n xs with
  | false => simpa using Ev.now false
  | true =>
    have h10 := gOk_len hg
    simp only [if_true, Bool.true_and, shl_nat (show xs.length ≤ 61 by omega)]
    by_cases h : o ≥ 0
    · simp only [if_pos h]; rw [decide_eq_true (show 0 ≤ o from h)]; exact Ev.now _
    · simp only [if_neg h]; rw [decide_eq_false (show ¬ 0 ≤ o from h)]; exact Ev.now _
theorem spec_wayIn {n o : Int} {xs : List S37} (hl : xs.length < 2 ^ 62) : Ev (fun k => spec_WayIn.f k n xs o) (wIn n xs o) := by
  unfold spec_WayIn.f wIn
  refine Ev.bind (spec_wayGraph hl) ?_
  cases hg : gOk n xs with
  | false => simpa using Ev.now false
  | true =>
    have h10 := gOk_len hg
    have hp := pow_le h10
    simp only [if_true, Bool.true_and, shl_nat (show xs.length ≤ 61 by omega)]
    generalize 2 ^ xs.length = p at hp
    rw [wrap_id (x := (p : Int) - 1) (by omega) (by omega)]
    simp only [l6In_eq, Option.bind_some]
    have : decide (o ≤ (p : Int) - 1) = decide (o < (p : Int)) := by rw [decide_eq_decide]; omega
    rw [this]; exact Ev.now _
theorem wIn_valid {n o : Int} {xs : List S37} (h : wIn n xs o = true) : ∃ (m : Nat) (es : Ed) (b : Nat), n = (m : Int) ∧ xs = toS es ∧ Valid m es ∧ o = (b : Int) ∧ b < 2 ^ es.length := by
  unfold wIn at h
  simp only [Bool.and_eq_true, decide_eq_true_eq] at h
  obtain ⟨m, es, rfl, rfl, hv⟩ := gOk_valid h.1
  obtain ⟨b, rfl⟩ := Int.eq_ofNat_of_zero_le h.2.1
  refine ⟨m, es, b, rfl, rfl, hv, rfl, ?_⟩
  have := h.2.2; rw [toS_length] at this
  exact Int.ofNat_lt.mp this
theorem valid_gOk_iff {m : Nat} {es : Ed} (hv : Valid m es) : gOk (m : Int) (toS es) = true := by
  unfold gOk
  have h1 := hv.pos; have h5 := hv.le
  rw [decide_eq_true (show 1 ≤ (m : Int) by omega), decide_eq_true (show (m : Int) ≤ 5 by omega)]
  have key : ∀ d i : Nat, i + d = (toS es).length → okFrom (m : Int) (toS es) d i = true := by
    intro d
    induction d with
    | zero => intro i _; rfl
    | succ d ih =>
      intro i hi
      rw [okFrom, ih (i + 1) (by omega)]
      rw [toS_length] at hi
      have hi' : i < es.length := by omega
      have g : ∀ j (hj : j < es.length), (toS es).getD j z37 = ⟨((es[j]).1 : Int), ((es[j]).2 : Int)⟩ := fun j hj => by
        simp [toS, List.getD_eq_getElem?_getD, List.getElem?_map, List.getElem?_eq_getElem hj]
      have hlt := hv.lt _ (List.getElem_mem hi')
      have hr := hv.inR _ (List.getElem_mem hi')
      have hb : badAt (m : Int) (toS es) i = false := by
        simp only [badAt, g i hi', Bool.or_eq_false_iff, decide_eq_false_iff_not]; omega
      have hk : backAt (toS es) i = false := by
        by_cases h0 : 0 < i
        · have hs := List.pairwise_iff_getElem.mp hv.sorted (i - 1) i (by omega) hi' (by omega)
          unfold lexlt at hs
          simp only [backAt, g i hi', g (i - 1) (by omega), Bool.and_eq_false_iff, Bool.or_eq_false_iff, decide_eq_false_iff_not]
          omega
        · simp [backAt, h0]
      rw [hb, hk]; rfl
  rw [key _ 0 (by omega)]; rfl
theorem wIn_iff {m : Nat} {es : Ed} (hv : Valid m es) (b : Nat) : wIn (m : Int) (toS es) (b : Int) = decide (b < 2 ^ es.length) := by
  unfold wIn; rw [valid_gOk_iff hv, toS_length, decide_eq_true (show (0 : Int) ≤ (b : Int) by omega), Bool.true_and, Bool.true_and, decide_eq_decide]
  exact Int.ofNat_lt
/-- turned: all bits the other way -/
def tn (l b : Nat) : Nat := 2 ^ l - 1 - b
theorem tn_lt {l b : Nat} : tn l b < 2 ^ l := by unfold tn; have := Nat.two_pow_pos l; omega
theorem tn_bit {l b : Nat} (h : b < 2 ^ l) (i : Nat) : (tn l b).testBit i = (decide (i < l) && !b.testBit i) := by
  unfold tn; rw [show 2 ^ l - 1 - b = 2 ^ l - (b + 1) by omega]; exact Nat.testBit_two_pow_sub_succ h i
theorem tn_xor {l b : Nat} (h : b < 2 ^ l) : b ^^^ (2 ^ l - 1) = tn l b := by
  apply Nat.eq_of_testBit_eq; intro i
  rw [tn_bit h, Nat.testBit_xor, full_bit]
  by_cases hi : i < l
  · simp [hi]
  · simp [hi, Nat.testBit_lt_two_pow (Nat.lt_of_lt_of_le h (Nat.pow_le_pow_right (n := 2) (by omega) (Nat.le_of_not_lt hi)))]
theorem tn_tn {l b : Nat} (h : b < 2 ^ l) : tn l (tn l b) = b := by unfold tn; omega
theorem dirs_tn : ∀ (es : Ed) (b : Nat), b < 2 ^ es.length → dirs es (tn es.length b) = rev (dirs es b) := by
  intro es b hb
  apply List.ext_getElem? ; intro i
  rw [rev, List.getElem?_map, dirs_get, dirs_get]
  cases h : es[i]? with
  | none => rfl
  | some e =>
    have hi : i < es.length := (List.getElem?_eq_some_iff.mp h).1
    simp only [Option.map_some, tn_bit hb, hi, decide_true, Bool.true_and]
    cases b.testBit i <;> rfl
end Go.Proofs.Ytjklkphhfkdkpaa.Lk
end

section
/-
  Directed edges of a graph and a direction: facts that both sides use.
-/
namespace Go.Proofs.Ytjklkphhfkdkpaa.Lk
open Go Go.RowKit Go.Proofs.YtjklkphhfkdkpaaW.PrintWords Go.Proofs.YtjklkphhfkdkpaaW.PrintLast Go.Proofs.YtjklkphhfkdkpaaW.PrintMore Go.Proofs.Ytjklkphhfkdkpaa.P Go.Proofs.Ytjklkphhfkdkpaa.Gw
set_option linter.unusedVariables false
set_option linter.unusedSimpArgs false
theorem dirs_inR {m : Nat} {es : Ed} (hv : InR m es) (b : Nat) : InR m (dirs es b) := by
  intro e he
  obtain ⟨i, hi⟩ := List.getElem?_of_mem he
  rw [dirs_get] at hi
  obtain ⟨x, hx, rfl⟩ := Option.map_eq_some_iff.mp hi
  have := hv x (List.mem_of_getElem? hx)
  cases b.testBit i <;> simp [this.1, this.2]
theorem take_inR {m : Nat} {ds : Ed} (h : InR m ds) (i : Nat) : InR m (ds.take i) := fun e he => h e (List.mem_of_mem_take he)
theorem dirs_getD {es : Ed} {b i : Nat} (hi : i < es.length) : (dirs es b).getD i (0, 0) = bif b.testBit i then ((es.getD i (0, 0)).2, (es.getD i (0, 0)).1) else es.getD i (0, 0) := by
  simp only [List.getD_eq_getElem?_getD, dirs_get, List.getElem?_eq_getElem hi, Option.map_some, Option.getD_some]
theorem take_snoc {ds : Ed} {i : Nat} (hi : i < ds.length) : ds.take (i + 1) = ds.take i ++ [ds.getD i (0, 0)] := by
  rw [List.take_succ_eq_append_getElem hi, List.getD_eq_getElem?_getD, List.getElem?_eq_getElem hi]; rfl
theorem getD_mem {ds : Ed} {i : Nat} (hi : i < ds.length) : ds.getD i (0, 0) ∈ ds := by
  rw [List.getD_eq_getElem?_getD, List.getElem?_eq_getElem hi]; exact List.getElem_mem hi
theorem dirs_nodup {m : Nat} {es : Ed} (hv : Valid m es) (b : Nat) : (dirs es b).Nodup := by
  have key : (dirs es b).map (fun e => if e.1 < e.2 then e else (e.2, e.1)) = es := by
    apply List.ext_getElem?; intro i
    rw [List.getElem?_map, dirs_get]
    cases h : es[i]? with
    | none => rfl
    | some e =>
      have := hv.lt e (List.mem_of_getElem? h)
      simp only [Option.map_some]
      cases b.testBit i
      · simp [this]
      · simp only [cond_true]; rw [if_neg (by omega)]
  have h2 := hv.nodup
  rw [← key] at h2
  have h3 := List.pairwise_map.mp h2
  exact List.Pairwise.imp (fun {a b} hab e => hab (by rw [e])) h3
theorem five {m : Nat} {es : Ed} (hv : Valid m es) : m ≤ 5 := hv.le
theorem rows_small {m : Nat} (hm : m ≤ 5) {ds : Ed} (hd : InR m ds) (u : Nat) : (rowsOf m ds).getD u 0 < 32 := by
  rw [List.getD_eq_getElem?_getD]
  cases h : (rowsOf m ds)[u]? with
  | none => simp
  | some r => exact pow5 hm (rowsOf_lt hd r (List.mem_of_getElem? h))
end Go.Proofs.Ytjklkphhfkdkpaa.Lk
end

section
/-
  impl.count, told by how many numbers do.
-/
namespace Go.Proofs.Ytjklkphhfkdkpaa.Lk
open Go Go.RowKit Go.Proofs.YtjklkphhfkdkpaaW.PrintWords Go.Proofs.YtjklkphhfkdkpaaW.PrintLast Go.Proofs.YtjklkphhfkdkpaaW.PrintMore Go.Proofs.Ytjklkphhfkdkpaa.P Go.Proofs.Ytjklkphhfkdkpaa.Gw
set_option linter.unusedVariables false
set_option linter.unusedSimpArgs false
theorem cntP_le (p : Nat → Bool) : ∀ n, cntP p n ≤ n
  | 0 => Nat.le_refl _
  | n + 1 => by
      have := cntP_le p n
      rw [cntP]; cases p n <;> simp <;> omega
theorem ev_all {g : Nat → Int → Option Bool} {p : Nat → Bool} : ∀ n : Nat, (∀ o : Nat, o < n → Ev (fun k => g k (o : Int)) (p o)) → ∃ K, ∀ k, K ≤ k → ∀ o : Nat, o < n → g k (o : Int) = some (p o)
  | 0, _ => ⟨0, fun k _ o h => absurd h (Nat.not_lt_zero o)⟩
  | n + 1, h => by
      obtain ⟨K1, h1⟩ := ev_all n (fun o ho => h o (by omega))
      obtain ⟨K2, h2⟩ := h n (by omega)
      refine ⟨max K1 K2, fun k hk o ho => ?_⟩
      by_cases e : o = n
      · subst e; exact h2 k (Nat.le_trans (Nat.le_max_right ..) hk)
      · exact h1 k (Nat.le_trans (Nat.le_max_left ..) hk) o (by omega)
theorem cntL_run {g : Int → Option Bool} {p : Nat → Bool} {n : Nat} (hn : n ≤ 1024) (h : ∀ o : Nat, o < n → g (o : Int) = some (p o)) : ∀ d x f : Nat, x + d = n → d < f → cntL g f (n : Int) ((cntP p x : Nat) : Int) (x : Int) = some ((cntP p n : Nat) : Int) := by
  intro d
  induction d with
  | zero =>
    intro x f hx hf
    obtain ⟨f, rfl⟩ : ∃ f', f = f' + 1 := ⟨f - 1, by omega⟩
    obtain rfl : x = n := by omega
    rw [cntL, if_neg (Int.lt_irrefl _)]
  | succ d ih =>
    intro x f hx hf
    obtain ⟨f, rfl⟩ : ∃ f', f = f' + 1 := ⟨f - 1, by omega⟩
    have hle := cntP_le p x
    have hk := ih (x + 1) f (by omega) (by omega)
    rw [cntP] at hk
    have hw1 : wrap64 ((x : Int) + 1) = ((x + 1 : Nat) : Int) := by rw [wrap_id (by omega) (by omega)]; simp
    have hw2 : wrap64 (((cntP p x : Nat) : Int) + 1) = ((1 + cntP p x : Nat) : Int) := by clear hw1; rw [wrap_id (by omega) (by omega)]; omega
    have g1 : (x : Int) < (n : Int) := by clear hw1 hw2; omega
    rw [cntL, if_pos g1, h x (by clear hw1 hw2; omega), Option.bind_some, hw1, hw2]
    cases hp : p x with
    | true => rw [hp] at hk; rw [if_pos rfl]; exact hk
    | false => rw [hp] at hk; rw [if_neg (by simp)]; simpa using hk
theorem cntL_ev {g : Nat → Int → Option Bool} {p : Nat → Bool} {n : Nat} (hn : n ≤ 1024) (h : ∀ o : Nat, o < n → Ev (fun k => g k (o : Int)) (p o)) : Ev (fun k => cntL (g k) k (n : Int) 0 0) ((cntP p n : Nat) : Int) := by
  obtain ⟨K, hK⟩ := ev_all n h
  refine ⟨max K (n + 1), fun k hk => ?_⟩
  exact cntL_run hn (hK k (Nat.le_trans (Nat.le_max_left ..) hk)) n 0 k (by omega) (by have := Nat.le_max_right K (n + 1); omega)
end Go.Proofs.Ytjklkphhfkdkpaa.Lk
end

section
/-
  math/bits.OnesCount, at numbers below 1024: how many bits are 1.
-/
namespace Go.Proofs.Ytjklkphhfkdkpaa.Lk
open Go Go.RowKit Go.Proofs.YtjklkphhfkdkpaaW.PrintWords Go.Proofs.YtjklkphhfkdkpaaW.PrintLast Go.Proofs.YtjklkphhfkdkpaaW.PrintMore Go.Proofs.Ytjklkphhfkdkpaa.P Go.Proofs.Ytjklkphhfkdkpaa.Gw
set_option linter.unusedVariables false
set_option linter.unusedSimpArgs false
def popc (s : Nat) : Nat := s % 2 + s / 2 % 2 + s / 4 % 2 + s / 8 % 2 + s / 16 % 2 + s / 32 % 2 + s / 64 % 2 + s / 128 % 2 + s / 256 % 2 + s / 512 % 2
def onesOk (s : Nat) : Bool := match bits_OnesCount.f (s : Int) with
  | some r => r == (popc s : Int)
  | none => false
theorem ones_all : ∀ s, s < 1024 → onesOk s = true := by decide +kernel
theorem ones_eq {s : Nat} (h : s < 1024) : bits_OnesCount.f (s : Int) = some (popc s : Int) := by
  have := ones_all s h
  unfold onesOk at this
  cases hr : bits_OnesCount.f (s : Int) with
  | none => rw [hr] at this; cases this
  | some r => rw [hr] at this; simp only [beq_iff_eq] at this; rw [this]
end Go.Proofs.Ytjklkphhfkdkpaa.Lk
end

section
/-
  The program's ends and nextOf: the rows of next nodes.
-/
namespace Go.Proofs.Ytjklkphhfkdkpaa.Lk
open Go Go.RowKit Go.Proofs.YtjklkphhfkdkpaaW.PrintWords Go.Proofs.YtjklkphhfkdkpaaW.PrintLast Go.Proofs.YtjklkphhfkdkpaaW.PrintMore Go.Proofs.Ytjklkphhfkdkpaa.P Go.Proofs.Ytjklkphhfkdkpaa.Gw
set_option linter.unusedVariables false
set_option linter.unusedSimpArgs false
theorem ends_eq {es : Ed} {b i : Nat} (hb : b < 2 ^ 62) (hl : es.length ≤ 60) (hi : i < es.length) (n : Int) :
    impl_ends.f n (toS es) (b : Int) (i : Int) = some ((((dirs es b).getD i (0, 0)).1 : Int), (((dirs es b).getD i (0, 0)).2 : Int)) := by
  unfold impl_ends.f
  rw [if_pos (by omega), if_pos (by rw [toS_length]; omega), rd_toS, dirs_getD hi]
  cases ht : b.testBit i with
  | true => rw [if_pos ((bit_one hb (by omega)).mpr ht)]; rfl
  | false => rw [if_neg (by rw [bit_one hb (by omega), ht]; simp)]; rfl
theorem next_l {m : Nat} {es : Ed} (hv : Valid m es) {b : Nat} (hb : b < 2 ^ es.length) : ∀ d i : Nat, i + d = es.length →
    Ev (fun k => impl_nextOf.l0 k (b : Int) (toI (rowsOf m ((dirs es b).take i))) (es.length : Int) (i : Int) (m : Int) (toS es)) (toI (rowsOf m (dirs es b))) := by
  have hD := dirs_length es b
  have hR := dirs_inR hv.inR b
  have h10 := hv.len
  have hp := pow_le hv.len
  intro d
  induction d with
  | zero =>
    intro i hi
    refine Ev.step (f := fun _ => some (toI (rowsOf m (dirs es b)))) (fun k => ?_) (Ev.now _)
    simp only [impl_nextOf.l0]
    rw [if_neg (by omega), List.take_of_length_le (by omega)]
  | succ d ih =>
    intro i hi
    refine Ev.step (f := fun k => impl_nextOf.l0 k (b : Int) (toI (rowsOf m ((dirs es b).take (i + 1)))) (es.length : Int) ((i + 1 : Nat) : Int) (m : Int) (toS es)) (fun k => ?_) (ih (i + 1) (by omega))
    simp only [impl_nextOf.l0]
    rw [if_pos (by omega), ends_eq (by omega) (by omega) (by omega)]
    simp only [Option.bind_some]
    have he := hR _ (getD_mem (ds := dirs es b) (i := i) (by omega))
    have hlt := rows_small hv.le (take_inR hR i) ((dirs es b).getD i (0, 0)).1
    rw [if_pos (by omega), if_pos (by rw [toI_length, rowsOf_length]; omega), if_pos (by omega), rd_toI, shl_nat (by have := hv.le; omega), or_nat (by omega) (small (n := 5) (by omega) (Nat.pow_lt_pow_right (by omega) (by have := hv.le; omega))), Int.toNat_natCast, set_toI, wrap_id (by omega) (by omega)]
    rw [take_snoc (by omega)]
    simp only [rowsOf, List.foldl_append, List.foldl_cons, List.foldl_nil, addE]
    simp
theorem nextOf_ev {m : Nat} {es : Ed} (hv : Valid m es) {b : Nat} (hb : b < 2 ^ es.length) :
    Ev (fun k => impl_nextOf.f k (m : Int) (toS es) (b : Int)) (toI (rowsOf m (dirs es b))) := by
  refine Ev.congr (f := fun k => impl_nextOf.l0 k (b : Int) (toI (rowsOf m ((dirs es b).take 0))) (es.length : Int) ((0 : Nat) : Int) (m : Int) (toS es)) (fun k => ?_) (next_l hv hb es.length 0 (by omega))
  have h5 := hv.le
  unfold impl_nextOf.f
  rw [if_pos (by omega), if_pos (by omega), Int.toNat_natCast, repl_toI, toS_length]; rfl
end Go.Proofs.Ytjklkphhfkdkpaa.Lk
end

section
/-
  The program's outOf: how many edges lead from each node.
-/
namespace Go.Proofs.Ytjklkphhfkdkpaa.Lk
open Go Go.RowKit Go.Proofs.YtjklkphhfkdkpaaW.PrintWords Go.Proofs.YtjklkphhfkdkpaaW.PrintLast Go.Proofs.YtjklkphhfkdkpaaW.PrintMore Go.Proofs.Ytjklkphhfkdkpaa.P Go.Proofs.Ytjklkphhfkdkpaa.Gw
set_option linter.unusedVariables false
set_option linter.unusedSimpArgs false
theorem popc_five : ∀ s, s < 32 → popc s = pc5 s := by decide +kernel
theorem iOut_l {rows outs : List Nat} (hr : ∀ u, rows.getD u 0 < 32) (hlen : outs.length = rows.length) (hl5 : rows.length ≤ 5) (ho : ∀ u, pc5 (rows.getD u 0) = outs.getD u 0) : ∀ d i : Nat, i + d = rows.length →
    Ev (fun k => impl_outOf.l0 k (toI (outs.take i ++ rows.drop i)) (rows.length : Int) (i : Int)) (toI outs) := by
  intro d
  induction d with
  | zero =>
    intro i hi
    refine Ev.step (f := fun _ => some (toI outs)) (fun k => ?_) (Ev.now _)
    simp only [impl_outOf.l0]
    rw [if_neg (by omega), List.take_of_length_le (by omega), List.drop_eq_nil_of_le (by omega), List.append_nil]
  | succ d ih =>
    intro i hi
    have hil : i < rows.length := by omega
    have hk := ih (i + 1) (by omega)
    have hL : (outs.take i ++ rows.drop i).length = rows.length := by rw [List.length_append, List.length_take, List.length_drop]; omega
    have hti : (outs.take i).length = i := by rw [List.length_take]; omega
    have hg : (outs.take i ++ rows.drop i).getD i 0 = rows.getD i 0 := by
      rw [List.getD_eq_getElem?_getD, List.getElem?_append_right (by omega), hti, Nat.sub_self, List.getElem?_drop, Nat.add_zero, ← List.getD_eq_getElem?_getD]
    have hs : (outs.take i ++ rows.drop i).set i (outs.getD i 0) = outs.take (i + 1) ++ rows.drop (i + 1) := by
      rw [List.set_append_right _ _ (by omega), hti, Nat.sub_self, List.drop_eq_getElem_cons hil, List.set_cons_zero, List.take_succ_eq_append_getElem (by omega), List.append_assoc, List.singleton_append, List.getD_eq_getElem?_getD, List.getElem?_eq_getElem (by omega)]
      rfl
    have hri := hr i
    have hon := ones_eq (s := rows.getD i 0) (by omega)
    rw [popc_five _ hri, ho] at hon
    have hw1 : wrap64 ((i : Int) + 1) = ((i + 1 : Nat) : Int) := by rw [wrap_id (by omega) (by omega)]; simp
    have g1 : (i : Int) < (rows.length : Int) := by clear hw1; omega
    have g2 : (i : Int) < ((toI (outs.take i ++ rows.drop i)).length : Int) := by clear hw1; rw [toI_length, hL]; omega
    have hu : IntKind.u64.wrap ((rows.getD i 0 : Nat) : Int) = ((rows.getD i 0 : Nat) : Int) := by
      clear hw1
      generalize rows.getD i 0 = x at hri
      exact (show ∀ x : Nat, x < 32 → IntKind.u64.wrap (x : Int) = (x : Int) by decide) x hri
    refine Ev.step (fun k => ?_) hk
    simp only [impl_outOf.l0]
    rw [if_pos g1, if_pos (Int.natCast_nonneg i), if_pos g2, rd_toI, hg, hu, hon]
    simp only [Option.bind_some]
    rw [Int.toNat_natCast, set_toI, hs, hw1]
theorem iOut_ev {m : Nat} {es : Ed} (hv : Valid m es) {b : Nat} (hb : b < 2 ^ es.length) :
    Ev (fun k => impl_outOf.f k (m : Int) (toS es) (b : Int)) (toI (outsOf m (dirs es b))) := by
  have h5 := hv.le
  have hR := dirs_inR hv.inR b
  unfold impl_outOf.f
  refine Ev.bind (nextOf_ev hv hb) ?_
  have h := iOut_l (rows := rowsOf m (dirs es b)) (outs := outsOf m (dirs es b)) (rows_small h5 hR) (by rw [rowsOf_length, outsOf_length]) (by rw [rowsOf_length]; exact h5) (fun u => pc_row h5 hR (dirs_nodup hv b) u) m 0 (by rw [rowsOf_length]; omega)
  rw [List.take_zero, List.drop_zero, List.nil_append] at h
  rw [toI_length]
  exact h
end Go.Proofs.Ytjklkphhfkdkpaa.Lk
end

section
/-
  WayTurned and WayFlip, of the program and of the reference, tell the same.
-/
namespace Go.Proofs.Ytjklkphhfkdkpaa.Lk
open Go Go.RowKit Go.Proofs.YtjklkphhfkdkpaaW.PrintWords Go.Proofs.YtjklkphhfkdkpaaW.PrintLast Go.Proofs.YtjklkphhfkdkpaaW.PrintMore Go.Proofs.Ytjklkphhfkdkpaa.P Go.Proofs.Ytjklkphhfkdkpaa.Gw
set_option linter.unusedVariables false
set_option linter.unusedSimpArgs false
theorem all_eq {m : Nat} {es : Ed} (hv : Valid m es) (n : Int) : spec_l1All.f n (toS es) = some ((2 ^ es.length - 1 : Nat) : Int) := by
  have hp := pow_le hv.len
  have h0 := Nat.two_pow_pos es.length
  have h10 := hv.len
  unfold spec_l1All.f
  rw [toS_length, shl_nat (by omega)]
  generalize 2 ^ es.length = p at *
  rw [wrap_id (by omega) (by omega)]; congr 1; omega
theorem allm1 {m : Nat} {es : Ed} (hv : Valid m es) : wrap64 (shl .i64 1 ((toS es).length : Int) - 1) = ((2 ^ es.length - 1 : Nat) : Int) := by
  have := all_eq hv 0
  unfold spec_l1All.f at this
  exact Option.some.inj this
theorem turned_eq {m : Nat} {es : Ed} (hv : Valid m es) {b : Nat} (hb : b < 2 ^ es.length) (n : Int) : impl_turned.f n (toS es) (b : Int) = some ((tn es.length b : Nat) : Int) := by
  have hp := pow_le hv.len
  unfold impl_turned.f
  rw [allm1 hv, xor_nat (by omega) (by omega), tn_xor hb]
theorem sub_eq {m : Nat} {es : Ed} (hv : Valid m es) {b : Nat} (hb : b < 2 ^ es.length) : wrap64 (((2 ^ es.length - 1 : Nat) : Int) - (b : Int)) = ((tn es.length b : Nat) : Int) := by
  have hp := pow_le hv.len
  unfold tn
  generalize 2 ^ es.length = p at *
  rw [wrap_id (by omega) (by omega)]; omega
end Go.Proofs.Ytjklkphhfkdkpaa.Lk
end

section
/-
  slices.Equal of two lists of numbers.
-/
namespace Go.Proofs.Ytjklkphhfkdkpaa.Lk
open Go Go.RowKit Go.Proofs.YtjklkphhfkdkpaaW.PrintWords Go.Proofs.YtjklkphhfkdkpaaW.PrintLast Go.Proofs.YtjklkphhfkdkpaaW.PrintMore Go.Proofs.Ytjklkphhfkdkpaa.P Go.Proofs.Ytjklkphhfkdkpaa.Gw
set_option linter.unusedVariables false
set_option linter.unusedSimpArgs false
theorem sliceEq_ev {A B : List Int} (hA : A.length < 2 ^ 62) : Ev (fun k => slices_Equal_int_int.f k A B) (decide (A = B)) := by
  by_cases hl : A.length = B.length
  · have key : ∀ d i : Nat, i + d = A.length → Ev (fun k => slices_Equal_int_int.l0 k A B (A.length : Int) (i : Int)) (decide (A.drop i = B.drop i)) := by
      intro d
      induction d with
      | zero =>
        intro i hi
        refine Ev.step (f := fun _ => some (decide (A.drop i = B.drop i))) (fun k => ?_) (Ev.now _)
        simp only [slices_Equal_int_int.l0]
        rw [if_neg (by omega), List.drop_eq_nil_of_le (by omega), List.drop_eq_nil_of_le (by omega), decide_eq_true rfl]
      | succ d ih =>
        intro i hi
        have hk := ih (i + 1) (by omega)
        have hiA : i < A.length := by omega
        have hiB : i < B.length := by omega
        have e1 : A.drop i = rd A (i : Int) :: A.drop (i + 1) := by
          rw [List.drop_eq_getElem_cons hiA, rd, Int.toNat_natCast, List.getD_eq_getElem?_getD, List.getElem?_eq_getElem hiA]; rfl
        have e2 : B.drop i = rd B (i : Int) :: B.drop (i + 1) := by
          rw [List.drop_eq_getElem_cons hiB, rd, Int.toNat_natCast, List.getD_eq_getElem?_getD, List.getElem?_eq_getElem hiB]; rfl
        have hw1 : wrap64 ((i : Int) + 1) = ((i + 1 : Nat) : Int) := by rw [wrap_id (by omega) (by omega)]; simp
        have g1 : (i : Int) < (A.length : Int) := Int.ofNat_lt.mpr hiA
        have g2 : (i : Int) < (B.length : Int) := Int.ofNat_lt.mpr hiB
        rw [e1, e2]
        by_cases h : rd A (i : Int) = rd B (i : Int)
        · have : decide (rd A (i : Int) :: A.drop (i + 1) = rd B (i : Int) :: B.drop (i + 1)) = decide (A.drop (i + 1) = B.drop (i + 1)) := by
            rw [h, decide_eq_decide]; simp
          rw [this]
          refine Ev.step (fun k => ?_) hk
          simp only [slices_Equal_int_int.l0]
          rw [if_pos g1, if_pos (Int.natCast_nonneg i), if_pos g1, if_pos g2, if_pos h, hw1]
        · have : decide (rd A (i : Int) :: A.drop (i + 1) = rd B (i : Int) :: B.drop (i + 1)) = false := by
            rw [decide_eq_false_iff_not]; simp [h]
          rw [this]
          refine Ev.step (f := fun _ => some false) (fun k => ?_) (Ev.now _)
          simp only [slices_Equal_int_int.l0]
          rw [if_pos g1, if_pos (Int.natCast_nonneg i), if_pos g1, if_pos g2, if_neg h]
    have h := key A.length 0 (by omega)
    rw [List.drop_zero, List.drop_zero] at h
    unfold slices_Equal_int_int.f
    simp only [if_pos (show (A.length : Int) = (B.length : Int) by omega)]
    exact h
  · have : decide (A = B) = false := by rw [decide_eq_false_iff_not]; intro h; exact hl (congrArg List.length h)
    rw [this]
    unfold slices_Equal_int_int.f
    simp only [if_neg (show ¬ ((A.length : Int) = (B.length : Int)) by omega)]
    exact Ev.now _
theorem toI_inj {A B : List Nat} : toI A = toI B ↔ A = B := by
  constructor
  · intro h
    have : A.map (fun x : Nat => (x : Int)) = B.map (fun x : Nat => (x : Int)) := h
    exact (List.map_inj_right (fun x y hxy => by omega)).mp this
  · rintro rfl; rfl
end Go.Proofs.Ytjklkphhfkdkpaa.Lk
end

section
/-
  The program's ScoreEven.
-/
namespace Go.Proofs.Ytjklkphhfkdkpaa.Lk
open Go Go.RowKit Go.Proofs.YtjklkphhfkdkpaaW.PrintWords Go.Proofs.YtjklkphhfkdkpaaW.PrintLast Go.Proofs.YtjklkphhfkdkpaaW.PrintMore Go.Proofs.Ytjklkphhfkdkpaa.P Go.Proofs.Ytjklkphhfkdkpaa.Gw
set_option linter.unusedVariables false
set_option linter.unusedSimpArgs false
/-- as many edges lead from each node as to it -/
def evenF (m : Nat) (ds : Ed) : Bool := decide (outsOf m ds = outsOf m (rev ds))
theorem impl_ScoreEven_no {n o : Int} {ys : List S37} (hl : ys.length < 2 ^ 62) (hw : wIn n ys o = false) : Ev (fun k => impl_ScoreEven.f k n ys o) false := by
  unfold impl_ScoreEven.f; exact Ev.bind (impl_wayIn hl) (by simpa [hw] using Ev.now _)
theorem impl_ScoreEven_ev {m : Nat} {es : Ed} (hv : Valid m es) {b : Nat} (hb : b < 2 ^ es.length) : Ev (fun k => impl_ScoreEven.f k (m : Int) (toS es) (b : Int)) (evenF m (dirs es b)) := by
  unfold impl_ScoreEven.f
  refine Ev.bind (impl_wayIn (by rw [toS_length]; have := hv.len; omega)) ?_
  rw [wIn_iff hv, decide_eq_true hb]
  simp only [if_true]
  refine Ev.bind (iOut_ev hv hb) ?_
  simp only [turned_eq hv hb, Option.bind_some]
  have h := iOut_ev hv (b := tn es.length b) tn_lt
  rw [dirs_tn es b hb] at h
  refine Ev.bind h ?_
  have he := sliceEq_ev (A := toI (outsOf m (dirs es b))) (B := toI (outsOf m (rev (dirs es b)))) (by rw [toI_length, outsOf_length]; have := hv.le; omega)
  have : decide (toI (outsOf m (dirs es b)) = toI (outsOf m (rev (dirs es b)))) = evenF m (dirs es b) := by rw [evenF, decide_eq_decide, toI_inj]
  rw [this] at he
  exact Ev.bind he (Ev.now _)
end Go.Proofs.Ytjklkphhfkdkpaa.Lk
end

section
/-
  The reference's l1Out: degrees.
-/
namespace Go.Proofs.Ytjklkphhfkdkpaa.Lk
open Go Go.RowKit Go.Proofs.YtjklkphhfkdkpaaW.PrintWords Go.Proofs.YtjklkphhfkdkpaaW.PrintLast Go.Proofs.YtjklkphhfkdkpaaW.PrintMore Go.Proofs.Ytjklkphhfkdkpaa.P Go.Proofs.Ytjklkphhfkdkpaa.Gw
set_option linter.unusedVariables false
set_option linter.unusedSimpArgs false
theorem refEndsO_eq {es : Ed} {b i : Nat} (hb : b < 2 ^ 62) (hl : es.length ≤ 60) (hi : i < es.length) (n : Int) :
    spec_l1Ends.f n (toS es) (b : Int) (i : Int) = some ((((dirs es b).getD i (0, 0)).1 : Int), (((dirs es b).getD i (0, 0)).2 : Int)) := by
  unfold spec_l1Ends.f
  rw [if_pos (by omega), if_pos (by rw [toS_length]; omega), rd_toS, dirs_getD hi]
  cases ht : b.testBit i with
  | true => rw [if_pos ((bit_one hb (by omega)).mpr ht)]; rfl
  | false => rw [if_neg (by rw [bit_one hb (by omega), ht]; simp)]; rfl
theorem outs_le {m : Nat} {ds : Ed} (hd : InR m ds) (u : Nat) : (outsOf m ds).getD u 0 ≤ ds.length := by
  rw [outsOf_get hd]; exact List.countP_le_length
theorem refOut_l {m : Nat} {es : Ed} (hv : Valid m es) {b : Nat} (hb : b < 2 ^ es.length) : ∀ d i : Nat, i + d = es.length →
    Ev (fun k => spec_l1Out.l0 k (b : Int) (toI (outsOf m ((dirs es b).take i))) (i : Int) (m : Int) (toS es)) (toI (outsOf m (dirs es b))) := by
  have hD := dirs_length es b
  have hR := dirs_inR hv.inR b
  have h10 := hv.len
  have hp := pow_le hv.len
  have h5 := hv.le
  intro d
  induction d with
  | zero =>
    intro i hi
    refine Ev.step (f := fun _ => some (toI (outsOf m (dirs es b)))) (fun k => ?_) (Ev.now _)
    simp only [spec_l1Out.l0]
    rw [if_neg (by rw [toS_length]; omega), List.take_of_length_le (by omega)]
  | succ d ih =>
    intro i hi
    refine Ev.step (fun k => ?_) (ih (i + 1) (by omega))
    have he := hR _ (getD_mem (ds := dirs es b) (i := i) (by omega))
    have hle := outs_le (take_inR hR i) ((dirs es b).getD i (0, 0)).1
    have hlt : ((dirs es b).take i).length ≤ 10 := by rw [List.length_take]; omega
    simp only [spec_l1Out.l0]
    rw [if_pos (by rw [toS_length]; omega), refEndsO_eq (by omega) (by omega) (by omega)]
    simp only [Option.bind_some]
    rw [if_pos (by omega), if_pos (by rw [toI_length, outsOf_length]; omega), rd_toI, wrap_id (x := _ + 1) (by omega) (by omega), wrap_id (by omega) (by omega), Int.toNat_natCast]
    rw [show (((outsOf m ((dirs es b).take i)).getD ((dirs es b).getD i (0, 0)).1 0 : Nat) : Int) + 1 = (((outsOf m ((dirs es b).take i)).getD ((dirs es b).getD i (0, 0)).1 0 + 1 : Nat) : Int) by simp, set_toI, take_snoc (by omega)]
    simp only [outsOf, List.foldl_append, List.foldl_cons, List.foldl_nil, addO]
    simp
theorem refOut_ev {m : Nat} {es : Ed} (hv : Valid m es) {b : Nat} (hb : b < 2 ^ es.length) :
    Ev (fun k => spec_l1Out.f k (m : Int) (toS es) (b : Int)) (toI (outsOf m (dirs es b))) := by
  refine Ev.congr (fun k => ?_) (refOut_l hv hb es.length 0 (by omega))
  have h5 := hv.le
  unfold spec_l1Out.f
  rw [if_pos (by omega), if_pos (by omega), Int.toNat_natCast, repl_toI]; rfl
end Go.Proofs.Ytjklkphhfkdkpaa.Lk
end

section
/-
  The reference's rows, packed into numbers.
-/
namespace Go.Proofs.Ytjklkphhfkdkpaa.Lk
open Go Go.RowKit Go.Proofs.YtjklkphhfkdkpaaW.PrintWords Go.Proofs.YtjklkphhfkdkpaaW.PrintLast Go.Proofs.YtjklkphhfkdkpaaW.PrintMore Go.Proofs.Ytjklkphhfkdkpaa.P Go.Proofs.Ytjklkphhfkdkpaa.Gw
set_option linter.unusedVariables false
set_option linter.unusedSimpArgs false
def rowU (l : List Nat) : Nat → Nat
  | 0 => 0
  | i + 1 => 16 * rowU l i + l.getD i 0
theorem rowU_lt {l : List Nat} (h : ∀ u, l.getD u 0 < 16) : ∀ i, rowU l i < 16 ^ i
  | 0 => by simp [rowU]
  | i + 1 => by
      have ih := rowU_lt h i
      have hi := h i
      rw [rowU, Nat.pow_succ]; omega
theorem rowU_inj {l l' : List Nat} (h : ∀ u, l.getD u 0 < 16) (h' : ∀ u, l'.getD u 0 < 16) : ∀ i, rowU l i = rowU l' i → ∀ j, j < i → l.getD j 0 = l'.getD j 0
  | 0, _, j, hj => by omega
  | i + 1, he, j, hj => by
      have hi := h i
      have hi' := h' i
      rw [rowU, rowU] at he
      by_cases e : j = i
      · subst e; omega
      · exact rowU_inj h h' i (by omega) j (by omega)
theorem rowU_eq {l l' : List Nat} (h : ∀ u, l.getD u 0 < 16) (h' : ∀ u, l'.getD u 0 < 16) {m : Nat} (hl : l.length = m) (hl' : l'.length = m) : rowU l m = rowU l' m ↔ l = l' := by
  constructor
  · intro he
    apply List.ext_getElem?
    intro j
    by_cases hj : j < m
    · have := rowU_inj h h' m he j hj
      rw [List.getD_eq_getElem?_getD, List.getD_eq_getElem?_getD, List.getElem?_eq_getElem (by omega), List.getElem?_eq_getElem (by omega)] at this
      rw [List.getElem?_eq_getElem (by omega), List.getElem?_eq_getElem (by omega)]
      simpa using this
    · rw [List.getElem?_eq_none (by omega), List.getElem?_eq_none (by omega)]
  · rintro rfl; rfl
theorem outs_16 {m : Nat} {es : Ed} (hv : Valid m es) (b u : Nat) : (outsOf m (dirs es b)).getD u 0 < 16 := by
  have := outs_le (dirs_inR hv.inR b) u
  rw [dirs_length] at this
  have := hv.len; omega
theorem row_ev {m : Nat} {es : Ed} (hv : Valid m es) {b : Nat} (hb : b < 2 ^ es.length) : Ev (fun k => spec_l4Row.f k (m : Int) (toS es) (b : Int)) ((rowU (outsOf m (dirs es b)) m : Nat) : Int) := by
  have h5 := hv.le
  have h16 := outs_16 hv b
  have hlen := outsOf_length m (dirs es b)
  unfold spec_l4Row.f
  refine Ev.bind (refOut_ev hv hb) ?_
  clear hb
  generalize outsOf m (dirs es b) = l at *
  have key : ∀ d i : Nat, i + d = m → Ev (fun k => spec_l4Row.l0 k ((rowU l i : Nat) : Int) (toI l) (i : Int) (m : Int) (toS es)) ((rowU l m : Nat) : Int) := by
    intro d
    induction d with
    | zero =>
      intro i hi
      obtain rfl : i = m := by omega
      refine Ev.step (f := fun _ => some ((rowU l i : Nat) : Int)) (fun k => ?_) (Ev.now _)
      simp only [spec_l4Row.l0]
      rw [if_neg (Int.lt_irrefl _)]
    | succ d ih =>
      intro i hi
      have hk := ih (i + 1) (by omega)
      have h1 := rowU_lt h16 i
      have hp : 16 ^ i ≤ 16 ^ 5 := Nat.pow_le_pow_right (by omega) (by omega)
      have h2 := h16 i
      have hw1 : wrap64 ((i : Int) + 1) = ((i + 1 : Nat) : Int) := by rw [wrap_id (by omega) (by omega)]; simp
      have hw2 : wrap64 (16 * ((rowU l i : Nat) : Int)) = ((16 * rowU l i : Nat) : Int) := by clear hw1; rw [wrap_id (by omega) (by omega)]; simp
      have hw3 : wrap64 (((16 * rowU l i : Nat) : Int) + ((l.getD i 0 : Nat) : Int)) = ((rowU l (i + 1) : Nat) : Int) := by clear hw1 hw2; rw [rowU, wrap_id (by omega) (by omega)]; simp
      have g1 : (i : Int) < (m : Int) := by clear hw1 hw2 hw3; omega
      have g2 : (i : Int) < ((toI l).length : Int) := by clear hw1 hw2 hw3; rw [toI_length]; omega
      refine Ev.step (fun k => ?_) hk
      simp only [spec_l4Row.l0]
      rw [if_pos g1, if_pos (Int.natCast_nonneg i), if_pos g2, rd_toI, hw2, hw3, hw1]
  exact key m 0 (by omega)
end Go.Proofs.Ytjklkphhfkdkpaa.Lk
end

section
/-
  The reference's test for even directions.
-/
namespace Go.Proofs.Ytjklkphhfkdkpaa.Lk
open Go Go.RowKit Go.Proofs.YtjklkphhfkdkpaaW.PrintWords Go.Proofs.YtjklkphhfkdkpaaW.PrintLast Go.Proofs.YtjklkphhfkdkpaaW.PrintMore Go.Proofs.Ytjklkphhfkdkpaa.P Go.Proofs.Ytjklkphhfkdkpaa.Gw
set_option linter.unusedVariables false
set_option linter.unusedSimpArgs false
theorem l4Even_ev {m : Nat} {es : Ed} (hv : Valid m es) {b : Nat} (hb : b < 2 ^ es.length) : Ev (fun k => spec_l4Even.f k (m : Int) (toS es) (b : Int)) (evenF m (dirs es b)) := by
  unfold spec_l4Even.f
  refine Ev.bind (row_ev hv hb) ?_
  simp only [all_eq hv, sub_eq hv hb, Option.bind_some]
  have h := row_ev hv (b := tn es.length b) tn_lt
  have hb16 := outs_16 hv (tn es.length b)
  rw [dirs_tn es b hb] at h hb16
  refine Ev.bind h ?_
  have : (((rowU (outsOf m (dirs es b)) m : Nat) : Int) == ((rowU (outsOf m (rev (dirs es b))) m : Nat) : Int)) = evenF m (dirs es b) := by
    rw [evenF, Bool.eq_iff_iff, beq_iff_eq, decide_eq_true_eq, ← rowU_eq (outs_16 hv b) hb16 (outsOf_length _ _) (outsOf_length _ _)]; omega
  rw [this]; exact Ev.now _
end Go.Proofs.Ytjklkphhfkdkpaa.Lk
end

section
/-
  ScoreEvens of the program and of the reference tell the same, for every graph.
-/
namespace Go.Proofs.Ytjklkphhfkdkpaa.Lk
open Go Go.RowKit Go.Proofs.YtjklkphhfkdkpaaW.PrintWords Go.Proofs.YtjklkphhfkdkpaaW.PrintLast Go.Proofs.YtjklkphhfkdkpaaW.PrintMore Go.Proofs.Ytjklkphhfkdkpaa.P Go.Proofs.Ytjklkphhfkdkpaa.Gw
set_option linter.unusedVariables false
set_option linter.unusedSimpArgs false
def cScoreEvens (m : Nat) (es : Ed) : Nat := cntP (fun o => evenF m (dirs es o)) (2 ^ es.length)
theorem lenScoreEvens {m : Nat} {es : Ed} (hv : Valid m es) : (toS es).length < 2 ^ 62 := by rw [toS_length]; have := hv.len; omega
theorem impl_ScoreEvens_no {n : Int} {ys : List S37} (hl : ys.length < 2 ^ 62) (hw : gOk n ys = false) : Ev (fun k => impl_ScoreEvens.f k n ys) (0, false) := by
  unfold impl_ScoreEvens.f; exact Ev.bind (impl_wayGraph hl) (by simpa [hw] using Ev.now _)
theorem spec_ScoreEvens_no {n : Int} {ys : List S37} (hl : ys.length < 2 ^ 62) (hw : gOk n ys = false) : Ev (fun k => spec_ScoreEvens.f k n ys) (0, false) := by
  unfold spec_ScoreEvens.f; exact Ev.bind (spec_wayGraph hl) (by simpa [hw] using Ev.now _)
theorem impl_ScoreEvens_ev {m : Nat} {es : Ed} (hv : Valid m es) : Ev (fun k => impl_ScoreEvens.f k (m : Int) (toS es)) (((cScoreEvens m es : Nat) : Int), true) := by
  have h10 := hv.len
  have hp := pow_le h10
  unfold impl_ScoreEvens.f
  refine Ev.bind (impl_wayGraph (lenScoreEvens hv)) ?_
  rw [valid_gOk_iff hv]
  simp only [if_true, toS_length, shl_nat (show es.length ≤ 61 by omega)]
  have h := cntL_ev (g := fun k o => impl_ScoreEven.f k (m : Int) (toS es) o) (p := fun o => evenF m (dirs es o)) hp (fun o ho => impl_ScoreEven_ev hv ho)
  exact Ev.bind h (Ev.now _)
theorem spec_ScoreEvens_l {m : Nat} {es : Ed} (hv : Valid m es) : ∀ d o : Nat, o + d = 2 ^ es.length →
    Ev (fun k => spec_ScoreEvens.l0 k ((cntP (fun o => evenF m (dirs es o)) o : Nat) : Int) (o : Int) (m : Int) (toS es)) (((cScoreEvens m es : Nat) : Int), true) := by
  have hp := pow_le hv.len
  have h0 := Nat.two_pow_pos es.length
  intro d
  induction d with
  | zero =>
    intro o ho
    obtain rfl : o = 2 ^ es.length := by omega
    refine Ev.step (f := fun _ => some (((cScoreEvens m es : Nat) : Int), true)) (fun k => ?_) (Ev.now _)
    simp only [spec_ScoreEvens.l0, all_eq hv, Option.bind_some]; rw [if_neg (by omega)]; rfl
  | succ d ih =>
    intro o hod
    have hk := ih (o + 1) (by omega)
    have hle := cntP_le (fun o => evenF m (dirs es o)) o
    rw [cntP] at hk
    have ho : o < 2 ^ es.length := by omega
    have hw1 : wrap64 ((o : Int) + 1) = ((o + 1 : Nat) : Int) := by rw [wrap_id (by omega) (by omega)]; simp
    have hw2 : wrap64 (((cntP (fun o => evenF m (dirs es o)) o : Nat) : Int) + 1) = ((1 + cntP (fun o => evenF m (dirs es o)) o : Nat) : Int) := by clear hw1; rw [wrap_id (by omega) (by omega)]; omega
    refine Ev.step (fun k => rfl) ?_
    simp only [spec_ScoreEvens.l0, all_eq hv, Option.bind_some, if_pos (show (o : Int) ≤ ((2 ^ es.length - 1 : Nat) : Int) by clear hw1 hw2; omega)]
    refine Ev.bind (l4Even_ev hv ho) ?_
    cases hs : (evenF m (dirs es o)) with
    | true => simp only [hs, cond_true] at hk; simp only [if_true, hw1, hw2]; exact hk
    | false => simp only [hs, cond_false, Nat.zero_add] at hk; simp only [Bool.false_eq_true, if_false, hw1]; exact hk
theorem spec_ScoreEvens_ev {m : Nat} {es : Ed} (hv : Valid m es) : Ev (fun k => spec_ScoreEvens.f k (m : Int) (toS es)) (((cScoreEvens m es : Nat) : Int), true) := by
  unfold spec_ScoreEvens.f
  refine Ev.bind (spec_wayGraph (lenScoreEvens hv)) ?_
  rw [valid_gOk_iff hv]
  simp only [if_true]
  exact spec_ScoreEvens_l hv (2 ^ es.length) 0 (by omega)
theorem same_ScoreEvens (n : Int) (ys : List S37) (hl : ys.length < 2 ^ 62) : ∃ r : Int × Bool, Ev (fun k => spec_ScoreEvens.f k n ys) r ∧ Ev (fun k => impl_ScoreEvens.f k n ys) r := by
  cases hw : gOk n ys with
  | false => exact ⟨_, spec_ScoreEvens_no hl hw, impl_ScoreEvens_no hl hw⟩
  | true =>
    obtain ⟨m, es, rfl, rfl, hv⟩ := gOk_valid hw
    exact ⟨_, spec_ScoreEvens_ev hv, impl_ScoreEvens_ev hv⟩
end Go.Proofs.Ytjklkphhfkdkpaa.Lk
end
