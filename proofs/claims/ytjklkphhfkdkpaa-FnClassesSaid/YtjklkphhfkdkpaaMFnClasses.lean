/-
  FnClasses: what the program's functions and the reference's compute, joined from several texts.
-/
import Derived.Test.YtjklkphhfkdkpaaOps
import Derived.Test.YtjklkphhfkdkpaaPx5
import Derived.Test.YtjklkphhfkdkpaaPx6
import Derived.Test.YtjklkphhfkdkpaaPx18
import Derived.Test.YtjklkphhfkdkpaaPx2
import Derived.Test.YtjklkphhfkdkpaaPx3
import Derived.Test.YtjklkphhfkdkpaaPx1
import Derived.Test.YtjklkphhfkdkpaaPx23
import Derived.Test.YtjklkphhfkdkpaaClo
import Derived.Test.YtjklkphhfkdkpaaCoreT
import Derived.Test.YtjklkphhfkdkpaaPx76
import Derived.Test.YtjklkphhfkdkpaaPx77
import Derived.Test.YtjklkphhfkdkpaaPx11
import Derived.Test.YtjklkphhfkdkpaaPx75
import Derived.Test.YtjklkphhfkdkpaaPx78
import Derived.Test.YtjklkphhfkdkpaaPx79
import Derived.Test.YtjklkphhfkdkpaaPx12
import Derived.Test.YtjklkphhfkdkpaaPx13
import Derived.Test.YtjklkphhfkdkpaaPx87
import Derived.Test.YtjklkphhfkdkpaaPx14
import Derived.Test.YtjklkphhfkdkpaaPx15
import Derived.Test.YtjklkphhfkdkpaaPx16
import Derived.Test.YtjklkphhfkdkpaaPx88
import Derived.Test.YtjklkphhfkdkpaaPx25
import Derived.Test.YtjklkphhfkdkpaaPx26
import Derived.Test.YtjklkphhfkdkpaaPx27
import Derived.Test.YtjklkphhfkdkpaaKClass
import Derived.Test.YtjklkphhfkdkpaaPx19
import Derived.Test.YtjklkphhfkdkpaaPx20
import Derived.Test.YtjklkphhfkdkpaaPx21
section
/-
  WayGraph, of the program and of the reference: both tell 'gOk', for every graph; what is a graph is a sublist of all pairs.
-/
namespace Go.Proofs.Ytjklkphhfkdkpaa.Lk
open Go Go.RowKit Go.Proofs.YtjklkphhfkdkpaaW.PrintWords Go.Proofs.YtjklkphhfkdkpaaW.PrintLast Go.Proofs.YtjklkphhfkdkpaaW.PrintMore Go.Proofs.Ytjklkphhfkdkpaa.P Go.Proofs.Ytjklkphhfkdkpaa.Gw
set_option linter.unusedVariables false
set_option linter.unusedSimpArgs false

/-- edges as Go has them -/
def toS (es : Ed) : List S37 := es.map fun e => (⟨(e.1 : Int), (e.2 : Int)⟩ : S37)
theorem toS_length (es : Ed) : (toS es).length = es.length := by simp [toS]
theorem rd_toS (es : Ed) (i : Nat) : rd_T37 (toS es) (i : Int) = ⟨((es.getD i (0, 0)).1 : Int), ((es.getD i (0, 0)).2 : Int)⟩ := by
  simp [rd_T37, toS, List.getD_eq_getElem?_getD]; cases es[i]? <;> simp [z37]

theorem l6In_eq (a b c : Int) : spec_l6In.f a b c = some (decide (b ≤ a) && decide (a ≤ c)) := by
  unfold spec_l6In.f
  by_cases h : a ≥ b
  · rw [if_pos h]; simp [show b ≤ a from h]
  · rw [if_neg h]; simp [show ¬ b ≤ a from h]

def badAt (n : Int) (xs : List S37) (i : Nat) : Bool := decide ((xs.getD i z37).f0 < 0) || decide ((xs.getD i z37).f0 ≥ (xs.getD i z37).f1) || decide ((xs.getD i z37).f1 ≥ n)
def backAt (xs : List S37) (i : Nat) : Bool := decide (0 < i) && (decide ((xs.getD i z37).f0 < (xs.getD (i - 1) z37).f0) || (decide ((xs.getD i z37).f0 = (xs.getD (i - 1) z37).f0) && decide ((xs.getD i z37).f1 ≤ (xs.getD (i - 1) z37).f1)))
def okFrom (n : Int) (xs : List S37) : Nat → Nat → Bool
  | 0, _ => true
  | d + 1, i => !badAt n xs i && !backAt xs i && okFrom n xs d (i + 1)
def gOk (n : Int) (xs : List S37) : Bool := decide (1 ≤ n) && decide (n ≤ 5) && okFrom n xs xs.length 0

theorem impl_j2 {n : Int} {xs : List S37} (hl : xs.length < 2 ^ 62) {d i : Nat} (hi : i + (d + 1) = xs.length)
    (ih : Ev (fun k => impl_WayGraph.l0 k xs (xs.length : Int) ((i + 1 : Nat) : Int) n xs) (okFrom n xs d (i + 1))) :
    Ev (fun k => impl_WayGraph.j2 k (i : Int) xs (xs.length : Int) (i : Int) (badAt n xs i) n xs (xs.getD i z37).f0 (xs.getD i z37).f1) (okFrom n xs (d + 1) i) := by
  have hw1 : wrap64 ((i : Int) + 1) = ((i + 1 : Nat) : Int) := by rw [wrap_id (by omega) (by omega)]; simp
  rw [okFrom]
  cases hb : badAt n xs i with
  | true => exact Ev.step (f := fun _ => some false) (fun k => by simp only [impl_WayGraph.j2]; rw [if_pos trivial]) (by simpa using Ev.now false)
  | false =>
    by_cases h0 : 0 < i
    · have hw : wrap64 ((i : Int) - 1) = ((i - 1 : Nat) : Int) := by rw [wrap_id (by omega) (by omega)]; omega
      have hr : rd_T37 xs ((i - 1 : Nat) : Int) = xs.getD (i - 1) z37 := by simp [rd_T37]
      by_cases c1 : (xs.getD i z37).f0 < (xs.getD (i - 1) z37).f0
      · have hbk : backAt xs i = true := by simp only [backAt, h0, c1]; rfl
        rw [hbk]
        exact Ev.step (f := fun _ => some false) (fun k => by
          simp only [impl_WayGraph.j2]; rw [if_neg (by simp), if_pos (by omega), hw, if_pos (by omega), if_pos (by omega), hr, if_pos c1]) (by simpa using Ev.now false)
      · by_cases c2 : (xs.getD i z37).f0 = (xs.getD (i - 1) z37).f0
        · by_cases c3 : (xs.getD i z37).f1 ≤ (xs.getD (i - 1) z37).f1
          · have hbk : backAt xs i = true := by simp only [backAt, h0, c2, c3]; simp
            rw [hbk]
            exact Ev.step (f := fun _ => some false) (fun k => by
              simp only [impl_WayGraph.j2]; rw [if_neg (by simp), if_pos (by omega), hw, if_pos (by omega), if_pos (by omega), hr, if_neg c1, if_pos c2, if_pos c3]) (by simpa using Ev.now false)
          · have hbk : backAt xs i = false := by simp only [backAt, c1, c3]; simp
            rw [hbk]
            refine Ev.step (f := fun k => impl_WayGraph.l0 k xs (xs.length : Int) ((i + 1 : Nat) : Int) n xs) (fun k => by
              simp only [impl_WayGraph.j2]; rw [if_neg (by simp), if_pos (by omega), hw, if_pos (by omega), if_pos (by omega), hr, if_neg c1, if_pos c2, if_neg c3, hw1]) (by simpa using ih)
        · have hbk : backAt xs i = false := by simp only [backAt, c1, c2]; simp
          rw [hbk]
          refine Ev.step (f := fun k => impl_WayGraph.l0 k xs (xs.length : Int) ((i + 1 : Nat) : Int) n xs) (fun k => by
            simp only [impl_WayGraph.j2]; rw [if_neg (by simp), if_pos (by omega), hw, if_pos (by omega), if_pos (by omega), hr, if_neg c1, if_neg c2, hw1]) (by simpa using ih)
    · have hbk : backAt xs i = false := by simp only [backAt, h0]; simp
      rw [hbk]
      refine Ev.step (f := fun k => impl_WayGraph.l0 k xs (xs.length : Int) ((i + 1 : Nat) : Int) n xs) (fun k => by
        simp only [impl_WayGraph.j2]; rw [if_neg (by simp), if_neg (by omega), hw1]) (by simpa using ih)
theorem impl_l0 {n : Int} {xs : List S37} (hl : xs.length < 2 ^ 62) : ∀ d i : Nat, i + d = xs.length →
    Ev (fun k => impl_WayGraph.l0 k xs (xs.length : Int) (i : Int) n xs) (okFrom n xs d i) := by
  intro d
  induction d with
  | zero => intro i hi; exact Ev.step (f := fun _ => some true) (fun k => by simp only [impl_WayGraph.l0]; rw [if_neg (by omega)]) (Ev.now true)
  | succ d ih =>
    intro i hi
    refine Ev.step (f := fun k => impl_WayGraph.j2 k (i : Int) xs (xs.length : Int) (i : Int) (badAt n xs i) n xs (xs.getD i z37).f0 (xs.getD i z37).f1) (fun k => ?_) (impl_j2 hl hi (ih (i + 1) (by omega)))
    have hr : rd_T37 xs (i : Int) = xs.getD i z37 := by simp [rd_T37]
    simp only [impl_WayGraph.l0]
    rw [if_pos (by omega), if_pos (by omega), if_pos (by omega), hr]
    unfold badAt
    by_cases c1 : (xs.getD i z37).f0 < 0
    · rw [if_pos c1, decide_eq_true c1]; rfl
    · rw [if_neg c1]
      by_cases c2 : (xs.getD i z37).f0 ≥ (xs.getD i z37).f1
      · rw [if_pos c2, decide_eq_true c2]; simp
      · rw [if_neg c2, decide_eq_false c1, decide_eq_false c2]; simp
theorem impl_wayGraph {n : Int} {xs : List S37} (hl : xs.length < 2 ^ 62) : Ev (fun k => impl_WayGraph.f k n xs) (gOk n xs) := by
  unfold gOk
  by_cases h1 : n < 1
  · rw [decide_eq_false (show ¬ 1 ≤ n by omega)]
    refine Ev.congr (f := fun k => impl_WayGraph.j0 k true n xs) (fun k => by unfold impl_WayGraph.f; rw [if_pos h1]) ?_
    exact Ev.step (f := fun _ => some false) (fun k => by simp only [impl_WayGraph.j0]; rw [if_pos trivial]) (Ev.now false)
  · rw [decide_eq_true (show 1 ≤ n by omega)]
    refine Ev.congr (f := fun k => impl_WayGraph.j0 k (decide (n > 5)) n xs) (fun k => by unfold impl_WayGraph.f; rw [if_neg h1]) ?_
    by_cases h2 : n > 5
    · rw [decide_eq_true h2, decide_eq_false (show ¬ n ≤ 5 by omega)]
      exact Ev.step (f := fun _ => some false) (fun k => by simp only [impl_WayGraph.j0]; rw [if_pos trivial]) (Ev.now false)
    · rw [decide_eq_false h2, decide_eq_true (show n ≤ 5 by omega)]
      refine Ev.step (f := fun k => impl_WayGraph.l0 k xs (xs.length : Int) ((0 : Nat) : Int) n xs) (fun k => by simp only [impl_WayGraph.j0]; rw [if_neg (by simp)]; rfl) ?_
      simpa using impl_l0 (n := n) hl xs.length 0 (by omega)

theorem spec_j1 {n : Int} {xs : List S37} (hl : xs.length < 2 ^ 62) {d i : Nat} (hi : i + (d + 1) = xs.length) (r : Bool)
    (ih : Ev (fun k => spec_WayGraph.l0 k ((i + 1 : Nat) : Int) n xs) r) :
    Ev (fun k => spec_WayGraph.j1 k (i : Int) false n xs (xs.getD i z37).f0 (xs.getD i z37).f1) (!backAt xs i && r) := by
  have hw1 : wrap64 ((i : Int) + 1) = ((i + 1 : Nat) : Int) := by rw [wrap_id (by omega) (by omega)]; simp
  by_cases h0 : 0 < i
  · have hw : wrap64 ((i : Int) - 1) = ((i - 1 : Nat) : Int) := by rw [wrap_id (by omega) (by omega)]; omega
    have hr : rd_T37 xs ((i - 1 : Nat) : Int) = xs.getD (i - 1) z37 := by simp [rd_T37]
    by_cases c1 : (xs.getD i z37).f0 < (xs.getD (i - 1) z37).f0
    · have hbk : backAt xs i = true := by simp only [backAt, h0, c1]; rfl
      rw [hbk]
      exact Ev.step (f := fun _ => some false) (fun k => by
        simp only [spec_WayGraph.j1]; rw [if_neg (by simp), if_pos (by omega), hw, if_pos (by omega), if_pos (by omega), hr, if_pos c1]) (by simpa using Ev.now false)
    · by_cases c2 : (xs.getD i z37).f0 = (xs.getD (i - 1) z37).f0
      · by_cases c3 : (xs.getD i z37).f1 ≤ (xs.getD (i - 1) z37).f1
        · have hbk : backAt xs i = true := by simp only [backAt, h0, c2, c3]; simp
          rw [hbk]
          exact Ev.step (f := fun _ => some false) (fun k => by
            simp only [spec_WayGraph.j1]; rw [if_neg (by simp), if_pos (by omega), hw, if_pos (by omega), if_pos (by omega), hr, if_neg c1, if_pos c2, if_pos c3]) (by simpa using Ev.now false)
        · have hbk : backAt xs i = false := by simp only [backAt, c1, c3]; simp
          rw [hbk]
          refine Ev.step (f := fun k => spec_WayGraph.l0 k ((i + 1 : Nat) : Int) n xs) (fun k => by
            simp only [spec_WayGraph.j1]; rw [if_neg (by simp), if_pos (by omega), hw, if_pos (by omega), if_pos (by omega), hr, if_neg c1, if_pos c2, if_neg c3, hw1]) (by simpa using ih)
      · have hbk : backAt xs i = false := by simp only [backAt, c1, c2]; simp
        rw [hbk]
        refine Ev.step (f := fun k => spec_WayGraph.l0 k ((i + 1 : Nat) : Int) n xs) (fun k => by
          simp only [spec_WayGraph.j1]; rw [if_neg (by simp), if_pos (by omega), hw, if_pos (by omega), if_pos (by omega), hr, if_neg c1, if_neg c2, hw1]) (by simpa using ih)
  · have hbk : backAt xs i = false := by simp only [backAt, h0]; simp
    rw [hbk]
    refine Ev.step (f := fun k => spec_WayGraph.l0 k ((i + 1 : Nat) : Int) n xs) (fun k => by
      simp only [spec_WayGraph.j1]; rw [if_neg (by simp), if_neg (by omega), hw1]) (by simpa using ih)
theorem spec_l0_step {n : Int} {xs : List S37} {i : Nat} (hi : i < xs.length) : ∃ b : Bool,
    (b = (!(decide (0 ≤ (xs.getD i z37).f0) && decide ((xs.getD i z37).f0 ≤ wrap64 (n - 1)) && (decide (wrap64 ((xs.getD i z37).f0 + 1) ≤ (xs.getD i z37).f1) && decide ((xs.getD i z37).f1 ≤ wrap64 (n - 1)))))) ∧
    ∀ k, spec_WayGraph.l0 (k + 1) (i : Int) n xs = spec_WayGraph.j1 k (i : Int) b n xs (xs.getD i z37).f0 (xs.getD i z37).f1 := by
  refine ⟨_, rfl, fun k => ?_⟩
  have hr : rd_T37 xs (i : Int) = xs.getD i z37 := by simp [rd_T37]
  simp only [spec_WayGraph.l0]
  rw [if_pos (by omega), if_pos (by omega), hr, l6In_eq, l6In_eq]
  simp only [Option.bind_some]
  cases (decide (0 ≤ (xs.getD i z37).f0) && decide ((xs.getD i z37).f0 ≤ wrap64 (n - 1))) <;> simp
theorem spec_l0_ok {n : Int} (h1 : 1 ≤ n) (h5 : n ≤ 5) {xs : List S37} (hl : xs.length < 2 ^ 62) : ∀ d i : Nat, i + d = xs.length →
    Ev (fun k => spec_WayGraph.l0 k (i : Int) n xs) (okFrom n xs d i) := by
  intro d
  induction d with
  | zero =>
    intro i hi
    exact Ev.step (f := fun _ => some true) (fun k => by simp only [spec_WayGraph.l0]; rw [if_neg (by omega), l6In_eq]; simp [h1, h5]) (Ev.now true)
  | succ d ih =>
    intro i hi
    obtain ⟨b, hb, hs⟩ := spec_l0_step (n := n) (xs := xs) (i := i) (by omega)
    have hbad : b = badAt n xs i := by
      rw [hb]; unfold badAt
      rw [wrap_id (x := n - 1) (by omega) (by omega)]
      by_cases c1 : 0 ≤ (xs.getD i z37).f0
      · by_cases c2 : (xs.getD i z37).f0 ≤ n - 1
        · rw [wrap_id (x := (xs.getD i z37).f0 + 1) (by omega) (by omega), decide_eq_true c1, decide_eq_true c2, decide_eq_false (show ¬ (xs.getD i z37).f0 < 0 by omega)]
          by_cases c3 : (xs.getD i z37).f0 + 1 ≤ (xs.getD i z37).f1
          · rw [decide_eq_true c3, decide_eq_false (show ¬ (xs.getD i z37).f0 ≥ (xs.getD i z37).f1 by omega)]
            by_cases c4 : (xs.getD i z37).f1 ≤ n - 1
            · rw [decide_eq_true c4, decide_eq_false (show ¬ (xs.getD i z37).f1 ≥ n by omega)]; rfl
            · rw [decide_eq_false c4, decide_eq_true (show (xs.getD i z37).f1 ≥ n by omega)]; rfl
          · rw [decide_eq_false c3, decide_eq_true (show (xs.getD i z37).f0 ≥ (xs.getD i z37).f1 by omega)]; rfl
        · rw [decide_eq_true c1, decide_eq_false c2]
          by_cases c3 : (xs.getD i z37).f0 ≥ (xs.getD i z37).f1
          · rw [decide_eq_true c3]; simp
          · rw [decide_eq_true (show (xs.getD i z37).f1 ≥ n by omega)]; simp
      · rw [decide_eq_false c1, decide_eq_true (show (xs.getD i z37).f0 < 0 by omega)]; simp
    refine Ev.step (f := fun k => spec_WayGraph.j1 k (i : Int) b n xs (xs.getD i z37).f0 (xs.getD i z37).f1) hs ?_
    rw [okFrom, hbad]
    cases badAt n xs i with
    | true => exact Ev.step (f := fun _ => some false) (fun k => by simp only [spec_WayGraph.j1]; rw [if_pos trivial]) (by simpa using Ev.now false)
    | false => simpa using spec_j1 hl hi _ (ih (i + 1) (by omega))
theorem spec_l0_no {n : Int} (hn : ¬ (1 ≤ n ∧ n ≤ 5)) {xs : List S37} (hl : xs.length < 2 ^ 62) : ∀ d i : Nat, i + d = xs.length →
    Ev (fun k => spec_WayGraph.l0 k (i : Int) n xs) false := by
  intro d
  induction d with
  | zero =>
    intro i hi
    exact Ev.step (f := fun _ => some false) (fun k => by
      simp only [spec_WayGraph.l0]; rw [if_neg (by omega), l6In_eq]
      have : (decide (1 ≤ n) && decide (n ≤ 5)) = false := by
        by_cases h : 1 ≤ n
        · rw [decide_eq_false (show ¬ n ≤ 5 by omega)]; simp
        · rw [decide_eq_false h]; rfl
      rw [this]; rfl) (Ev.now false)
  | succ d ih =>
    intro i hi
    obtain ⟨b, hb, hs⟩ := spec_l0_step (n := n) (xs := xs) (i := i) (by omega)
    refine Ev.step (f := fun k => spec_WayGraph.j1 k (i : Int) b n xs (xs.getD i z37).f0 (xs.getD i z37).f1) hs ?_
    cases b with
    | true => exact Ev.step (f := fun _ => some false) (fun k => by simp only [spec_WayGraph.j1]; rw [if_pos trivial]) (by simpa using Ev.now false)
    | false => simpa using spec_j1 hl hi _ (ih (i + 1) (by omega))
theorem spec_wayGraph {n : Int} {xs : List S37} (hl : xs.length < 2 ^ 62) : Ev (fun k => spec_WayGraph.f k n xs) (gOk n xs) := by
  refine Ev.congr (f := fun k => spec_WayGraph.l0 k ((0 : Nat) : Int) n xs) (fun k => rfl) ?_
  unfold gOk
  by_cases h : 1 ≤ n ∧ n ≤ 5
  · rw [decide_eq_true h.1, decide_eq_true h.2]
    simpa using spec_l0_ok h.1 h.2 hl xs.length 0 (by omega)
  · have : (decide (1 ≤ n) && decide (n ≤ 5)) = false := by
      by_cases h1 : 1 ≤ n
      · rw [decide_eq_false (show ¬ n ≤ 5 by omega)]; simp
      · rw [decide_eq_false h1]; rfl
    rw [this]
    exact spec_l0_no h hl xs.length 0 (by omega)

/-! what is a graph -/
def lexlt (a b : Nat × Nat) : Prop := a.1 < b.1 ∨ a.1 = b.1 ∧ a.2 < b.2
instance (a b : Nat × Nat) : Decidable (lexlt a b) := inferInstanceAs (Decidable (_ ∨ _ ∧ _))
theorem lexlt_irrefl (a : Nat × Nat) : ¬ lexlt a a := by unfold lexlt; omega
theorem lexlt_trans (a b c : Nat × Nat) (h : lexlt a b) (k : lexlt b c) : lexlt a c := by unfold lexlt at *; omega
/-- a graph: its edges are some of all pairs, in order -/
structure Valid (m : Nat) (es : Ed) : Prop where
  pos : 1 ≤ m
  le : m ≤ 5
  sub : es.Sublist (pairs m)

theorem okFrom_at {n : Int} {xs : List S37} : ∀ d i : Nat, okFrom n xs d i = true → ∀ j, i ≤ j → j < i + d → badAt n xs j = false ∧ backAt xs j = false := by
  intro d
  induction d with
  | zero => intro i _ j h1 h2; omega
  | succ d ih =>
    intro i h j h1 h2
    rw [okFrom] at h
    simp only [Bool.and_eq_true, Bool.not_eq_true'] at h
    by_cases e : j = i
    · subst e; exact h.1
    · exact ih (i + 1) h.2 j (by omega) (by omega)
theorem pairs_sorted : ∀ m, m ≤ 5 → (pairs m).Pairwise lexlt := by
  intro m hm
  exact (show ∀ m, m < 6 → (pairs m).Pairwise lexlt by decide) m (by omega)
theorem mem_pairs : ∀ m, m ≤ 5 → ∀ a b, a < b → b < m → (a, b) ∈ pairs m := by
  intro m hm a b h1 h2
  have key : ∀ m, m < 6 → ∀ b, b < m → ∀ a, a < b → (pairs m).contains (a, b) = true := by decide
  exact List.contains_iff_mem.mp (key m (by omega) b h2 a h1)
theorem pairs_mem : ∀ m, m < 6 → ∀ e ∈ pairs m, e.1 < e.2 ∧ e.2 < m := by decide
theorem pairs_length : ∀ m, m < 6 → (pairs m).length ≤ 10 := by decide
theorem gOk_valid {n : Int} {xs : List S37} (h : gOk n xs = true) : ∃ (m : Nat) (es : Ed), n = (m : Int) ∧ xs = toS es ∧ Valid m es := by
  unfold gOk at h
  simp only [Bool.and_eq_true, decide_eq_true_eq] at h
  obtain ⟨⟨h1, h5⟩, hok⟩ := h
  have hat := okFrom_at xs.length 0 hok
  obtain ⟨m, rfl⟩ := Int.eq_ofNat_of_zero_le (show 0 ≤ n by omega)
  have hb : ∀ j (hj : j < xs.length), 0 ≤ (xs[j]).f0 ∧ (xs[j]).f0 < (xs[j]).f1 ∧ (xs[j]).f1 < (m : Int) := by
    intro j hj
    have := (hat j (by omega) (by omega)).1
    simp only [badAt, List.getD_eq_getElem?_getD, List.getElem?_eq_getElem hj, Option.getD_some, Bool.or_eq_false_iff, decide_eq_false_iff_not] at this
    omega
  have hk : ∀ j (hj : j + 1 < xs.length), (xs[j]).f0 < (xs[j + 1]).f0 ∨ (xs[j]).f0 = (xs[j + 1]).f0 ∧ (xs[j]).f1 < (xs[j + 1]).f1 := by
    intro j hj
    have := (hat (j + 1) (by omega) (by omega)).2
    simp only [backAt, List.getD_eq_getElem?_getD, List.getElem?_eq_getElem hj, Nat.add_sub_cancel, List.getElem?_eq_getElem (show j < xs.length by omega), Option.getD_some, Bool.and_eq_false_iff, Bool.or_eq_false_iff, decide_eq_false_iff_not] at this
    omega
  refine ⟨m, xs.map fun e => (e.f0.toNat, e.f1.toNat), rfl, ?_, by omega, by omega, ?_⟩
  · apply List.ext_getElem (by simp [toS])
    intro j h2 h3
    have := hb j h2
    have e0 : ((xs[j]).f0.toNat : Int) = (xs[j]).f0 := by omega
    have e1 : ((xs[j]).f1.toNat : Int) = (xs[j]).f1 := by omega
    simp only [toS, List.getElem_map, e0, e1]
  · apply sublist_of_sorted lexlt lexlt_irrefl lexlt_trans _ _ (pairs_sorted m (by omega))
    · rw [List.pairwise_iff_getElem]
      have step : ∀ (c i : Nat) (hj : i + c + 1 < xs.length), lexlt ((xs[i]).f0.toNat, (xs[i]).f1.toNat) ((xs[i + c + 1]).f0.toNat, (xs[i + c + 1]).f1.toNat) := by
        intro c
        induction c with
        | zero =>
          intro i hj
          have a := hb i (by omega); have b := hb (i + 1) (by omega); have c := hk i (by omega)
          unfold lexlt; simp only [Nat.add_zero]; omega
        | succ c ih =>
          intro i hj
          refine lexlt_trans _ _ _ (ih i (by omega)) ?_
          have a := hb (i + c + 1) (by omega); have b := hb (i + c + 1 + 1) (by omega); have c' := hk (i + c + 1) (by omega)
          unfold lexlt; simp only [show i + (c + 1) + 1 = i + c + 1 + 1 by omega]; omega
      intro i j hi hj hij
      simp only [List.length_map] at hi hj
      have := step (j - i - 1) i (by omega)
      simp only [show i + (j - i - 1) + 1 = j by omega] at this
      simpa using this
    · intro x hx
      obtain ⟨e, he, rfl⟩ := List.mem_map.mp hx
      obtain ⟨j, hj, rfl⟩ := List.getElem_of_mem he
      have := hb j hj
      exact mem_pairs m (by omega) _ _ (by omega) (by omega)
namespace Valid
variable {m : Nat} {es : Ed}
theorem inR (h : Valid m es) : InR m es := fun e he => by
  have := pairs_mem m (by have := h.le; omega) e (h.sub.subset he); omega
theorem lt (h : Valid m es) : ∀ e ∈ es, e.1 < e.2 := fun e he => (pairs_mem m (by have := h.le; omega) e (h.sub.subset he)).1
theorem len (h : Valid m es) : es.length ≤ 10 := Nat.le_trans h.sub.length_le (pairs_length m (by have := h.le; omega))
theorem sorted (h : Valid m es) : es.Pairwise lexlt := List.Pairwise.sublist h.sub (pairs_sorted m h.le)
theorem nodup (h : Valid m es) : es.Nodup := List.Pairwise.imp (fun {a b} hab => by rintro rfl; exact lexlt_irrefl _ hab) h.sorted
end Valid
end Go.Proofs.Ytjklkphhfkdkpaa.Lk
end

section
/-
  What the laws' drawing of a graph comes to: some number of nodes from 1 to 5 and some list of edges.
-/
namespace Go.Proofs.Ytjklkphhfkdkpaa.Lk
open Go Go.RowKit Go.Proofs.YtjklkphhfkdkpaaW.PrintWords Go.Proofs.YtjklkphhfkdkpaaW.PrintLast Go.Proofs.YtjklkphhfkdkpaaW.PrintMore Go.Proofs.Ytjklkphhfkdkpaa.P Go.Proofs.Ytjklkphhfkdkpaa.Gw
set_option linter.unusedVariables false
set_option linter.unusedSimpArgs false

theorem wf_u8 {x : Int} (h : (Lit.int .u8 x).wf = true) : 0 ≤ x ∧ x ≤ 255 := by
  have h : (decide (IntKind.u8.min ≤ x) && decide (x ≤ IntKind.u8.max)) = true := h
  simp only [Bool.and_eq_true, decide_eq_true_eq] at h
  have a : IntKind.u8.min = 0 := by decide
  have b : IntKind.u8.max = 255 := by decide
  omega
/-- a code that is read -/
structure Cod (b : List Int) : Prop where
  len : b.length ≤ 2000
  byte : ∀ x ∈ b, 0 ≤ x ∧ x ≤ 255
theorem Cod.rd {b : List Int} (h : Cod b) (i : Int) : 0 ≤ rd b i ∧ rd b i ≤ 255 := by
  unfold Go.Proofs.YtjklkphhfkdkpaaW.PrintWords.rd
  rw [List.getD_eq_getElem?_getD]
  cases hx : b[i.toNat]? with
  | none => simp
  | some x => exact h.byte x (List.mem_of_getElem? hx)
theorem tmod_range {x n : Int} (hx : 0 ≤ x) (hn : 1 ≤ n) : 0 ≤ Int.tmod x n ∧ Int.tmod x n < n :=
  ⟨Int.tmod_nonneg _ hx, Int.tmod_lt_of_pos _ (by omega)⟩
theorem pick_ev {b : List Int} (h : Cod b) (p : Nat) (hp : p ≤ 1000000) (n : Int) : ∃ r : Int, 0 ≤ r ∧ (r < n ∨ r = 0) ∧ Ev (fun k => spec_l6Rd_pick.f k b (p : Int) n) (r, ((p + 1 : Nat) : Int)) := by
  have hw : wrap64 ((p : Int) + 1) = ((p + 1 : Nat) : Int) := by rw [wrap_id (by omega) (by omega)]; simp
  have hw1 : wrap64 (((p + 1 : Nat) : Int) - 1) = (p : Int) := by rw [wrap_id (by omega) (by omega)]; omega
  by_cases h1 : n < 1
  · refine ⟨0, by omega, .inr rfl, ?_⟩
    simp only [spec_l6Rd_pick.f, if_pos h1, hw]
    exact Ev.step (f := fun _ => some (0, ((p + 1 : Nat) : Int))) (fun k => by simp only [spec_l6Rd_pick.j0]; rw [if_pos trivial]) (Ev.now _)
  · by_cases h2 : b.length = 0
    · refine ⟨0, by omega, .inr rfl, ?_⟩
      have e : ((b.length : Int) == 0) = true := by rw [h2]; rfl
      simp only [spec_l6Rd_pick.f, if_neg h1, hw, e]
      exact Ev.step (f := fun _ => some (0, ((p + 1 : Nat) : Int))) (fun k => by simp only [spec_l6Rd_pick.j0]; rw [if_pos trivial]) (Ev.now _)
    · have e : ((b.length : Int) == 0) = false := by simpa using h2
      have hl := h.len
      by_cases h3 : (p : Int) < (b.length : Int)
      · have hr := h.rd (p : Int)
        have hx := tmod_range (x := wrap64 (rd b (p : Int))) (n := n) (by rw [wrap_id (by omega) (by omega)]; omega) (by omega)
        refine ⟨_, hx.1, .inl hx.2, ?_⟩
        simp only [spec_l6Rd_pick.f, if_neg h1, hw, e]
        refine Ev.step (f := fun _ => some (Int.tmod (wrap64 (rd b (p : Int))) n, ((p + 1 : Nat) : Int))) (fun k => ?_) (Ev.now _)
        simp only [spec_l6Rd_pick.j0, hw1]
        rw [if_neg (by simp), if_pos h3, if_pos (by omega), if_neg (by omega)]
      · have m1 := tmod_range (x := (p : Int)) (n := (b.length : Int)) (by omega) (by omega)
        have w7 : wrap64 (wrap64 ((p : Int) * 7) + 3) = (p : Int) * 7 + 3 := by rw [wrap_id (x := (p : Int) * 7) (by omega) (by omega), wrap_id (by omega) (by omega)]
        have m2 := tmod_range (x := (p : Int) * 7 + 3) (n := (b.length : Int)) (by omega) (by omega)
        have r1 := h.rd (Int.tmod (p : Int) (b.length : Int))
        have r2 := h.rd (Int.tmod ((p : Int) * 7 + 3) (b.length : Int))
        have q0 : 0 ≤ Int.tdiv (p : Int) (b.length : Int) ∧ Int.tdiv (p : Int) (b.length : Int) ≤ (p : Int) := by
          rw [Int.tdiv_eq_ediv_of_nonneg (by omega)]
          exact ⟨Int.ediv_nonneg (by omega) (by omega), Int.ediv_le_self _ (by omega)⟩
        generalize hA : rd b (Int.tmod (p : Int) (b.length : Int)) = A at r1
        generalize hB : rd b (Int.tmod ((p : Int) * 7 + 3) (b.length : Int)) = B at r2
        generalize hQ : Int.tdiv (p : Int) (b.length : Int) = Q at q0
        have wx : wrap64 (wrap64 (wrap64 (wrap64 (wrap64 A * 131) + wrap64 (wrap64 B * 1117)) + wrap64 ((p : Int) * 29)) + wrap64 (wrap64 Q * 53)) = A * 131 + B * 1117 + (p : Int) * 29 + Q * 53 := by
          rw [wrap_id (x := A) (by omega) (by omega), wrap_id (x := A * 131) (by omega) (by omega), wrap_id (x := B) (by omega) (by omega), wrap_id (x := B * 1117) (by omega) (by omega),
            wrap_id (x := (p : Int) * 29) (by omega) (by omega), wrap_id (x := Q) (by omega) (by omega), wrap_id (x := Q * 53) (by omega) (by omega), wrap_id (x := A * 131 + B * 1117) (by omega) (by omega),
            wrap_id (x := A * 131 + B * 1117 + (p : Int) * 29) (by omega) (by omega), wrap_id (by omega) (by omega)]
        obtain ⟨X, hX⟩ := Int.eq_ofNat_of_zero_le (show 0 ≤ A * 131 + B * 1117 + (p : Int) * 29 + Q * 53 by omega)
        have hXlt : X < 2 ^ 40 := by omega
        have wd : wrap64 (Int.tdiv (X : Int) 64) = ((X / 64 : Nat) : Int) := by
          rw [Int.tdiv_eq_ediv_of_nonneg (by omega)]
          rw [wrap_id (by omega) (by omega)]; simp
        have hxor : Go.bits .xor .i64 (X : Int) ((X / 64 : Nat) : Int) = ((X ^^^ (X / 64) : Nat) : Int) := xor_nat (by omega) (by omega)
        have m3 := tmod_range (x := ((X ^^^ (X / 64) : Nat) : Int)) (n := n) (by omega) (by omega)
        refine ⟨_, m3.1, .inl m3.2, ?_⟩
        simp only [spec_l6Rd_pick.f, if_neg h1, hw, e]
        refine Ev.step (f := fun _ => some (Int.tmod ((X ^^^ (X / 64) : Nat) : Int) n, ((p + 1 : Nat) : Int))) (fun k => ?_) (Ev.now _)
        simp only [spec_l6Rd_pick.j0, hw1, w7, hA, hB, hQ, wx, hX]
        rw [if_neg (by simp), if_neg h3, if_neg (by omega), if_pos m1.1, if_pos m1.2, if_pos m2.1, if_pos m2.2, if_neg (by omega), wd, hxor]

theorem open_ev {l : List Int} (hl : l.length ≤ 1048576) (hb : ∀ x ∈ l, (Lit.int .u8 x).wf = true) : ∃ b, Cod b ∧ spec_l6Open.f l = some (b, 0) := by
  have hb' : ∀ x ∈ l, 0 ≤ x ∧ x ≤ 255 := fun x hx => wf_u8 (hb x hx)
  unfold spec_l6Open.f
  by_cases h : (l.length : Int) > 2000
  · rw [if_pos h, if_pos (by omega)]
    exact ⟨_, ⟨by rw [List.length_take]; omega, fun x hx => hb' x (List.mem_of_mem_take hx)⟩, rfl⟩
  · rw [if_neg h]; exact ⟨_, ⟨by omega, hb'⟩, rfl⟩

/-- what a drawn graph is -/
structure Drawn (m : Nat) (xs : List S37) (p : Nat) : Prop where
  pos : 1 ≤ m
  le : m ≤ 5
  len : xs.length ≤ 100
  at_ : p ≤ 200
theorem graph_l {b : List Int} (h : Cod b) {m : Nat} (hm : m ≤ 5) (kind : Int) (hk : 0 ≤ kind) : ∀ (d a : Nat), a + d = m → ∀ (p : Nat) (xs : List S37), p + 5 * d ≤ 1000 → xs.length + 5 * d ≤ 1000 →
    ∃ (xs' : List S37) (p' : Nat), xs'.length ≤ xs.length + 5 * d + 1 ∧ p' ≤ p + 5 * d + 1 ∧ Ev (fun k => spec_l91Graph.l0 k (m : Int) kind (a : Int) b (p : Int) (m : Int) xs) ((m : Int), xs', (p' : Int)) := by
  intro d
  induction d with
  | zero =>
    intro a ha p xs hp hx
    obtain ⟨r, _, _, hr⟩ := pick_ev h p (by omega) 40
    by_cases h0 : r = 0
    · refine ⟨xs ++ [⟨wrap64 ((m : Int) - 1), 0⟩], p + 1, by simp, by omega, ?_⟩
      refine Ev.step (fun k => rfl) ?_
      simp only [spec_l91Graph.l0, if_neg (show ¬ (a : Int) < (m : Int) by omega)]
      refine Ev.bind hr ?_
      simp only [if_pos h0, if_pos (show xs.length < 8796093022208 by omega)]; exact Ev.now _
    · refine ⟨xs, p + 1, by omega, by omega, ?_⟩
      refine Ev.step (fun k => rfl) ?_
      simp only [spec_l91Graph.l0, if_neg (show ¬ (a : Int) < (m : Int) by omega)]
      refine Ev.bind hr ?_
      simp only [if_neg h0]; exact Ev.now _
  | succ d ih =>
    intro a ha p xs hp hx
    have inner : ∀ (e c : Nat), c + e = m → e ≤ 5 → ∀ (p : Nat) (xs : List S37), p + e + 5 * d ≤ 1000 → xs.length + e + 5 * d ≤ 1000 →
        ∃ (xs' : List S37) (p' : Nat), xs'.length ≤ xs.length + e + 5 * d + 1 ∧ p' ≤ p + e + 5 * d + 1 ∧ Ev (fun k => spec_l91Graph.l1 k (m : Int) kind (a : Int) (c : Int) b (p : Int) (m : Int) xs) ((m : Int), xs', (p' : Int)) := by
      intro e
      induction e with
      | zero =>
        intro c hc _ p xs hp hx
        obtain ⟨xs', p', h1, h2, h3⟩ := ih (a + 1) (by omega) p xs (by omega) (by omega)
        refine ⟨xs', p', by omega, by omega, ?_⟩
        refine Ev.step (f := fun k => spec_l91Graph.l0 k (m : Int) kind ((a + 1 : Nat) : Int) b (p : Int) (m : Int) xs) (fun k => ?_) h3
        simp only [spec_l91Graph.l1]
        rw [if_neg (by omega), wrap_id (by omega) (by omega)]; simp
      | succ e ihe =>
        intro c hc he p xs hp hx
        have hwc : wrap64 ((c : Int) + 1) = ((c + 1 : Nat) : Int) := by rw [wrap_id (by omega) (by omega)]; simp
        have hlt : (c : Int) < (m : Int) := by omega
        have hxl : xs.length < 8796093022208 := by omega
        obtain ⟨xa, pa, a1, a2, a3⟩ := ihe (c + 1) (by omega) (by omega) p (xs ++ [⟨(a : Int), (c : Int)⟩]) (by omega) (by simp; omega)
        obtain ⟨xb, pb, b1, b2, b3⟩ := ihe (c + 1) (by omega) (by omega) p xs (by omega) (by omega)
        obtain ⟨r, _, _, hr⟩ := pick_ev h p (by omega) 5
        obtain ⟨xc, pc, c1, c2, c3⟩ := ihe (c + 1) (by omega) (by omega) (p + 1) (xs ++ [⟨(a : Int), (c : Int)⟩]) (by omega) (by simp; omega)
        obtain ⟨xd, pd, d1, d2, d3⟩ := ihe (c + 1) (by omega) (by omega) (p + 1) xs (by omega) (by omega)
        simp only [List.length_append, List.length_singleton] at a1 c1
        have yes : ∃ (xs' : List S37) (p' : Nat), xs'.length ≤ xs.length + (e + 1) + 5 * d + 1 ∧ p' ≤ p + (e + 1) + 5 * d + 1 ∧ Ev (fun k => spec_l91Graph.l1 k (m : Int) kind (a : Int) (wrap64 ((c : Int) + 1)) b (p : Int) (m : Int) (xs ++ [⟨(a : Int), (c : Int)⟩])) ((m : Int), xs', (p' : Int)) :=
          ⟨xa, pa, by omega, by omega, by rw [hwc]; exact a3⟩
        have no : ∃ (xs' : List S37) (p' : Nat), xs'.length ≤ xs.length + (e + 1) + 5 * d + 1 ∧ p' ≤ p + (e + 1) + 5 * d + 1 ∧ Ev (fun k => spec_l91Graph.l1 k (m : Int) kind (a : Int) (wrap64 ((c : Int) + 1)) b (p : Int) (m : Int) xs) ((m : Int), xs', (p' : Int)) :=
          ⟨xb, pb, by omega, by omega, by rw [hwc]; exact b3⟩
        have pk : ∃ (xs' : List S37) (p' : Nat), xs'.length ≤ xs.length + (e + 1) + 5 * d + 1 ∧ p' ≤ p + (e + 1) + 5 * d + 1 ∧ Ev (fun k => (spec_l6Rd_pick.f k b (p : Int) 5).bind fun bt => if bt.1 > 1 then (if xs.length < 8796093022208 then spec_l91Graph.l1 k (m : Int) kind (a : Int) (wrap64 ((c : Int) + 1)) b bt.2 (m : Int) (xs ++ [⟨(a : Int), (c : Int)⟩]) else none) else spec_l91Graph.l1 k (m : Int) kind (a : Int) (wrap64 ((c : Int) + 1)) b bt.2 (m : Int) xs) ((m : Int), xs', (p' : Int)) := by
          by_cases hr1 : r > 1
          · refine ⟨xc, pc, by omega, by omega, Ev.bind hr ?_⟩
            simp only [if_pos hr1, if_pos hxl, hwc]; exact c3
          · refine ⟨xd, pd, by omega, by omega, Ev.bind hr ?_⟩
            simp only [if_neg hr1, hwc]; exact d3
        have fin : ∀ g : Nat → Option (Int × List S37 × Int), (∀ k, spec_l91Graph.l1 (k + 1) (m : Int) kind (a : Int) (c : Int) b (p : Int) (m : Int) xs = g k) →
            (∃ (xs' : List S37) (p' : Nat), xs'.length ≤ xs.length + (e + 1) + 5 * d + 1 ∧ p' ≤ p + (e + 1) + 5 * d + 1 ∧ Ev g ((m : Int), xs', (p' : Int))) →
            ∃ (xs' : List S37) (p' : Nat), xs'.length ≤ xs.length + (e + 1) + 5 * d + 1 ∧ p' ≤ p + (e + 1) + 5 * d + 1 ∧ Ev (fun k => spec_l91Graph.l1 k (m : Int) kind (a : Int) (c : Int) b (p : Int) (m : Int) xs) ((m : Int), xs', (p' : Int)) :=
          fun g hg ⟨xs', p', h1, h2, h3⟩ => ⟨xs', p', h1, h2, Ev.step hg h3⟩
        by_cases k0 : kind = 0
        · exact fin _ (fun k => by simp only [spec_l91Graph.l1]; rw [if_pos hlt, if_pos k0, if_pos hxl]) yes
        by_cases k1 : kind = 1
        · have k2 : ¬ kind > 1 := by omega
          by_cases c1 : (c : Int) = wrap64 ((a : Int) + 1)
          · exact fin _ (fun k => by simp only [spec_l91Graph.l1]; rw [if_pos hlt, if_neg k0, if_pos k1, if_pos c1, if_pos hxl]) yes
          · by_cases c2 : (a : Int) = 0
            · by_cases c3 : (c : Int) = wrap64 ((m : Int) - 1)
              · exact fin _ (fun k => by simp only [spec_l91Graph.l1]; rw [if_pos hlt, if_neg k0, if_pos k1, if_neg c1, if_pos c2, if_pos c3, if_pos hxl]) yes
              · exact fin _ (fun k => by simp only [spec_l91Graph.l1]; rw [if_pos hlt, if_neg k0, if_pos k1, if_neg c1, if_pos c2, if_neg c3, if_neg k2]) no
            · exact fin _ (fun k => by simp only [spec_l91Graph.l1]; rw [if_pos hlt, if_neg k0, if_pos k1, if_neg c1, if_neg c2, if_neg k2]) no
        · have k2 : kind > 1 := by omega
          exact fin _ (fun k => by simp only [spec_l91Graph.l1]; rw [if_pos hlt, if_neg k0, if_neg k1, if_pos k2]) pk
    by_cases hlt : a + 1 ≤ m
    · obtain ⟨xs', p', h1, h2, h3⟩ := inner (m - (a + 1)) (a + 1) (by omega) (by omega) p xs (by omega) (by omega)
      refine ⟨xs', p', by omega, by omega, ?_⟩
      refine Ev.step (f := fun k => spec_l91Graph.l1 k (m : Int) kind (a : Int) ((a + 1 : Nat) : Int) b (p : Int) (m : Int) xs) (fun k => ?_) h3
      simp only [spec_l91Graph.l0]
      rw [if_pos (by omega), wrap_id (by omega) (by omega)]; simp
    · omega
theorem graph_ev {b : List Int} (h : Cod b) : ∃ (m : Nat) (xs : List S37) (p : Nat), Drawn m xs p ∧ Ev (fun k => spec_l91Graph.f k b 0) ((m : Int), xs, (p : Int)) := by
  obtain ⟨r1, a1, b1, e1⟩ := pick_ev h 0 (by omega) 5
  obtain ⟨r2, a2, b2, e2⟩ := pick_ev h 1 (by omega) 4
  obtain ⟨r, rfl⟩ := Int.eq_ofNat_of_zero_le a1
  obtain ⟨xs', p', h1, h2, h3⟩ := graph_l h (m := 1 + r) (by omega) r2 a2 (1 + r) 0 (by omega) 2 [] (by omega) (by simp only [List.length_nil]; omega)
  simp only [List.length_nil] at h1
  refine ⟨1 + r, xs', p', ⟨by omega, by omega, by omega, by omega⟩, ?_⟩
  unfold spec_l91Graph.f
  refine Ev.bind e1 (Ev.bind e2 ?_)
  have hw : wrap64 (1 + (r : Int)) = ((1 + r : Nat) : Int) := by rw [wrap_id (by omega) (by omega)]; simp
  simp only [hw]; exact h3
theorem some_ev {l : List Int} (hl : l.length ≤ 1048576) (hb : ∀ x ∈ l, (Lit.int .u8 x).wf = true) : ∃ (m : Nat) (xs : List S37), 1 ≤ m ∧ m ≤ 5 ∧ xs.length < 2 ^ 62 ∧ Ev (fun k => spec_l91Some.f k l) ((m : Int), xs) := by
  obtain ⟨b, hc, ho⟩ := open_ev hl hb
  obtain ⟨m, xs, p, hd, he⟩ := graph_ev hc
  refine ⟨m, xs, hd.pos, hd.le, by have := hd.len; omega, ?_⟩
  unfold spec_l91Some.f
  simp only [ho, Option.bind_some]
  exact Ev.bind he (Ev.now _)
end Go.Proofs.Ytjklkphhfkdkpaa.Lk
end

section
/-
  WayIn, of the program and of the reference: both tell 'wIn'; the direction turned.
-/
namespace Go.Proofs.Ytjklkphhfkdkpaa.Lk
open Go Go.RowKit Go.Proofs.YtjklkphhfkdkpaaW.PrintWords Go.Proofs.YtjklkphhfkdkpaaW.PrintLast Go.Proofs.YtjklkphhfkdkpaaW.PrintMore Go.Proofs.Ytjklkphhfkdkpaa.P Go.Proofs.Ytjklkphhfkdkpaa.Gw
set_option linter.unusedVariables false
set_option linter.unusedSimpArgs false

theorem pow_le {l : Nat} (h : l ≤ 10) : 2 ^ l ≤ 1024 := Nat.pow_le_pow_right (n := 2) (j := 10) (by omega) h
theorem valid_gOk_iff {m : Nat} {es : Ed} (hv : Valid m es) : gOk (m : Int) (toS es) = true := by
  unfold gOk
  have h1 := hv.pos; have h5 := hv.le
  rw [decide_eq_true (show 1 ≤ (m : Int) by omega), decide_eq_true (show (m : Int) ≤ 5 by omega)]
  have key : ∀ d i : Nat, i + d = (toS es).length → okFrom (m : Int) (toS es) d i = true := by
    intro d
    induction d with
    | zero => intro i _; rfl
    | succ d ih =>
      intro i hi
      rw [okFrom, ih (i + 1) (by omega)]
      rw [toS_length] at hi
      have hi' : i < es.length := by omega
      have g : ∀ j (hj : j < es.length), (toS es).getD j z37 = ⟨((es[j]).1 : Int), ((es[j]).2 : Int)⟩ := fun j hj => by
        simp [toS, List.getD_eq_getElem?_getD, List.getElem?_map, List.getElem?_eq_getElem hj]
      have hlt := hv.lt _ (List.getElem_mem hi')
      have hr := hv.inR _ (List.getElem_mem hi')
      have hb : badAt (m : Int) (toS es) i = false := by
        simp only [badAt, g i hi', Bool.or_eq_false_iff, decide_eq_false_iff_not]; omega
      have hk : backAt (toS es) i = false := by
        by_cases h0 : 0 < i
        · have hs := List.pairwise_iff_getElem.mp hv.sorted (i - 1) i (by omega) hi' (by omega)
          unfold lexlt at hs
          simp only [backAt, g i hi', g (i - 1) (by omega), Bool.and_eq_false_iff, Bool.or_eq_false_iff, decide_eq_false_iff_not]
          omega
        · simp [backAt, h0]
      rw [hb, hk]; rfl
  rw [key _ 0 (by omega)]; rfl
/-- turned: all bits the other way -/
def tn (l b : Nat) : Nat := 2 ^ l - 1 - b
theorem tn_lt {l b : Nat} : tn l b < 2 ^ l := by unfold tn; have := Nat.two_pow_pos l; omega
theorem tn_bit {l b : Nat} (h : b < 2 ^ l) (i : Nat) : (tn l b).testBit i = (decide (i < l) && !b.testBit i) := by
  unfold tn; rw [show 2 ^ l - 1 - b = 2 ^ l - (b + 1) by omega]; exact Nat.testBit_two_pow_sub_succ h i
theorem tn_xor {l b : Nat} (h : b < 2 ^ l) : b ^^^ (2 ^ l - 1) = tn l b := by
  apply Nat.eq_of_testBit_eq; intro i
  rw [tn_bit h, Nat.testBit_xor, full_bit]
  by_cases hi : i < l
  · simp [hi]
  · simp [hi, Nat.testBit_lt_two_pow (Nat.lt_of_lt_of_le h (Nat.pow_le_pow_right (n := 2) (by omega) (Nat.le_of_not_lt hi)))]
theorem dirs_tn : ∀ (es : Ed) (b : Nat), b < 2 ^ es.length → dirs es (tn es.length b) = rev (dirs es b) := by
  intro es b hb
  apply List.ext_getElem? ; intro i
  rw [rev, List.getElem?_map, dirs_get, dirs_get]
  cases h : es[i]? with
  | none => rfl
  | some e =>
    have hi : i < es.length := (List.getElem?_eq_some_iff.mp h).1
    simp only [Option.map_some, tn_bit hb, hi, decide_true, Bool.true_and]
    cases b.testBit i <;> rfl
end Go.Proofs.Ytjklkphhfkdkpaa.Lk
end

section
/-
  Directed edges of a graph and a direction: facts that both sides use.
-/
namespace Go.Proofs.Ytjklkphhfkdkpaa.Lk
open Go Go.RowKit Go.Proofs.YtjklkphhfkdkpaaW.PrintWords Go.Proofs.YtjklkphhfkdkpaaW.PrintLast Go.Proofs.YtjklkphhfkdkpaaW.PrintMore Go.Proofs.Ytjklkphhfkdkpaa.P Go.Proofs.Ytjklkphhfkdkpaa.Gw
set_option linter.unusedVariables false
set_option linter.unusedSimpArgs false
theorem dirs_inR {m : Nat} {es : Ed} (hv : InR m es) (b : Nat) : InR m (dirs es b) := by
  intro e he
  obtain ⟨i, hi⟩ := List.getElem?_of_mem he
  rw [dirs_get] at hi
  obtain ⟨x, hx, rfl⟩ := Option.map_eq_some_iff.mp hi
  have := hv x (List.mem_of_getElem? hx)
  cases b.testBit i <;> simp [this.1, this.2]
theorem take_inR {m : Nat} {ds : Ed} (h : InR m ds) (i : Nat) : InR m (ds.take i) := fun e he => h e (List.mem_of_mem_take he)
theorem dirs_getD {es : Ed} {b i : Nat} (hi : i < es.length) : (dirs es b).getD i (0, 0) = bif b.testBit i then ((es.getD i (0, 0)).2, (es.getD i (0, 0)).1) else es.getD i (0, 0) := by
  simp only [List.getD_eq_getElem?_getD, dirs_get, List.getElem?_eq_getElem hi, Option.map_some, Option.getD_some]
theorem take_snoc {ds : Ed} {i : Nat} (hi : i < ds.length) : ds.take (i + 1) = ds.take i ++ [ds.getD i (0, 0)] := by
  rw [List.take_succ_eq_append_getElem hi, List.getD_eq_getElem?_getD, List.getElem?_eq_getElem hi]; rfl
theorem getD_mem {ds : Ed} {i : Nat} (hi : i < ds.length) : ds.getD i (0, 0) ∈ ds := by
  rw [List.getD_eq_getElem?_getD, List.getElem?_eq_getElem hi]; exact List.getElem_mem hi
theorem dirs_nodup {m : Nat} {es : Ed} (hv : Valid m es) (b : Nat) : (dirs es b).Nodup := by
  have key : (dirs es b).map (fun e => if e.1 < e.2 then e else (e.2, e.1)) = es := by
    apply List.ext_getElem?; intro i
    rw [List.getElem?_map, dirs_get]
    cases h : es[i]? with
    | none => rfl
    | some e =>
      have := hv.lt e (List.mem_of_getElem? h)
      simp only [Option.map_some]
      cases b.testBit i
      · simp [this]
      · simp only [cond_true]; rw [if_neg (by omega)]
  have h2 := hv.nodup
  rw [← key] at h2
  have h3 := List.pairwise_map.mp h2
  exact List.Pairwise.imp (fun {a b} hab e => hab (by rw [e])) h3
theorem rows_small {m : Nat} (hm : m ≤ 5) {ds : Ed} (hd : InR m ds) (u : Nat) : (rowsOf m ds).getD u 0 < 32 := by
  rw [List.getD_eq_getElem?_getD]
  cases h : (rowsOf m ds)[u]? with
  | none => simp
  | some r => exact pow5 hm (rowsOf_lt hd r (List.mem_of_getElem? h))
end Go.Proofs.Ytjklkphhfkdkpaa.Lk
end

section
/-
  impl.count, told by how many numbers do.
-/
namespace Go.Proofs.Ytjklkphhfkdkpaa.Lk
open Go Go.RowKit Go.Proofs.YtjklkphhfkdkpaaW.PrintWords Go.Proofs.YtjklkphhfkdkpaaW.PrintLast Go.Proofs.YtjklkphhfkdkpaaW.PrintMore Go.Proofs.Ytjklkphhfkdkpaa.P Go.Proofs.Ytjklkphhfkdkpaa.Gw
set_option linter.unusedVariables false
set_option linter.unusedSimpArgs false
theorem cntP_le (p : Nat → Bool) : ∀ n, cntP p n ≤ n
  | 0 => Nat.le_refl _
  | n + 1 => by
      have := cntP_le p n
      rw [cntP]; cases p n <;> simp <;> omega
theorem ev_all {g : Nat → Int → Option Bool} {p : Nat → Bool} : ∀ n : Nat, (∀ o : Nat, o < n → Ev (fun k => g k (o : Int)) (p o)) → ∃ K, ∀ k, K ≤ k → ∀ o : Nat, o < n → g k (o : Int) = some (p o)
  | 0, _ => ⟨0, fun k _ o h => absurd h (Nat.not_lt_zero o)⟩
  | n + 1, h => by
      obtain ⟨K1, h1⟩ := ev_all n (fun o ho => h o (by omega))
      obtain ⟨K2, h2⟩ := h n (by omega)
      refine ⟨max K1 K2, fun k hk o ho => ?_⟩
      by_cases e : o = n
      · subst e; exact h2 k (Nat.le_trans (Nat.le_max_right ..) hk)
      · exact h1 k (Nat.le_trans (Nat.le_max_left ..) hk) o (by omega)
theorem cntL_run {g : Int → Option Bool} {p : Nat → Bool} {n : Nat} (hn : n ≤ 1024) (h : ∀ o : Nat, o < n → g (o : Int) = some (p o)) : ∀ d x f : Nat, x + d = n → d < f → cntL g f (n : Int) ((cntP p x : Nat) : Int) (x : Int) = some ((cntP p n : Nat) : Int) := by
  intro d
  induction d with
  | zero =>
    intro x f hx hf
    obtain ⟨f, rfl⟩ : ∃ f', f = f' + 1 := ⟨f - 1, by omega⟩
    obtain rfl : x = n := by omega
    rw [cntL, if_neg (Int.lt_irrefl _)]
  | succ d ih =>
    intro x f hx hf
    obtain ⟨f, rfl⟩ : ∃ f', f = f' + 1 := ⟨f - 1, by omega⟩
    have hle := cntP_le p x
    have hk := ih (x + 1) f (by omega) (by omega)
    rw [cntP] at hk
    have hw1 : wrap64 ((x : Int) + 1) = ((x + 1 : Nat) : Int) := by rw [wrap_id (by omega) (by omega)]; simp
    have hw2 : wrap64 (((cntP p x : Nat) : Int) + 1) = ((1 + cntP p x : Nat) : Int) := by clear hw1; rw [wrap_id (by omega) (by omega)]; omega
    have g1 : (x : Int) < (n : Int) := by clear hw1 hw2; omega
    rw [cntL, if_pos g1, h x (by clear hw1 hw2; omega), Option.bind_some, hw1, hw2]
    cases hp : p x with
    | true => rw [hp] at hk; rw [if_pos rfl]; exact hk
    | false => rw [hp] at hk; rw [if_neg (by simp)]; simpa using hk
theorem cntL_ev {g : Nat → Int → Option Bool} {p : Nat → Bool} {n : Nat} (hn : n ≤ 1024) (h : ∀ o : Nat, o < n → Ev (fun k => g k (o : Int)) (p o)) : Ev (fun k => cntL (g k) k (n : Int) 0 0) ((cntP p n : Nat) : Int) := by
  obtain ⟨K, hK⟩ := ev_all n h
  refine ⟨max K (n + 1), fun k hk => ?_⟩
  exact cntL_run hn (hK k (Nat.le_trans (Nat.le_max_left ..) hk)) n 0 k (by omega) (by have := Nat.le_max_right K (n + 1); omega)
end Go.Proofs.Ytjklkphhfkdkpaa.Lk
end

section
/-
  The program's ends and nextOf: the rows of next nodes.
-/
namespace Go.Proofs.Ytjklkphhfkdkpaa.Lk
open Go Go.RowKit Go.Proofs.YtjklkphhfkdkpaaW.PrintWords Go.Proofs.YtjklkphhfkdkpaaW.PrintLast Go.Proofs.YtjklkphhfkdkpaaW.PrintMore Go.Proofs.Ytjklkphhfkdkpaa.P Go.Proofs.Ytjklkphhfkdkpaa.Gw
set_option linter.unusedVariables false
set_option linter.unusedSimpArgs false
theorem ends_eq {es : Ed} {b i : Nat} (hb : b < 2 ^ 62) (hl : es.length ≤ 60) (hi : i < es.length) (n : Int) :
    impl_ends.f n (toS es) (b : Int) (i : Int) = some ((((dirs es b).getD i (0, 0)).1 : Int), (((dirs es b).getD i (0, 0)).2 : Int)) := by
  unfold impl_ends.f
  rw [if_pos (by omega), if_pos (by rw [toS_length]; omega), rd_toS, dirs_getD hi]
  cases ht : b.testBit i with
  | true => rw [if_pos ((bit_one hb (by omega)).mpr ht)]; rfl
  | false => rw [if_neg (by rw [bit_one hb (by omega), ht]; simp)]; rfl
theorem next_l {m : Nat} {es : Ed} (hv : Valid m es) {b : Nat} (hb : b < 2 ^ es.length) : ∀ d i : Nat, i + d = es.length →
    Ev (fun k => impl_nextOf.l0 k (b : Int) (toI (rowsOf m ((dirs es b).take i))) (es.length : Int) (i : Int) (m : Int) (toS es)) (toI (rowsOf m (dirs es b))) := by
  have hD := dirs_length es b
  have hR := dirs_inR hv.inR b
  have h10 := hv.len
  have hp := pow_le hv.len
  intro d
  induction d with
  | zero =>
    intro i hi
    refine Ev.step (f := fun _ => some (toI (rowsOf m (dirs es b)))) (fun k => ?_) (Ev.now _)
    simp only [impl_nextOf.l0]
    rw [if_neg (by omega), List.take_of_length_le (by omega)]
  | succ d ih =>
    intro i hi
    refine Ev.step (f := fun k => impl_nextOf.l0 k (b : Int) (toI (rowsOf m ((dirs es b).take (i + 1)))) (es.length : Int) ((i + 1 : Nat) : Int) (m : Int) (toS es)) (fun k => ?_) (ih (i + 1) (by omega))
    simp only [impl_nextOf.l0]
    rw [if_pos (by omega), ends_eq (by omega) (by omega) (by omega)]
    simp only [Option.bind_some]
    have he := hR _ (getD_mem (ds := dirs es b) (i := i) (by omega))
    have hlt := rows_small hv.le (take_inR hR i) ((dirs es b).getD i (0, 0)).1
    rw [if_pos (by omega), if_pos (by rw [toI_length, rowsOf_length]; omega), if_pos (by omega), rd_toI, shl_nat (by have := hv.le; omega), or_nat (by omega) (small (n := 5) (by omega) (Nat.pow_lt_pow_right (by omega) (by have := hv.le; omega))), Int.toNat_natCast, set_toI, wrap_id (by omega) (by omega)]
    rw [take_snoc (by omega)]
    simp only [rowsOf, List.foldl_append, List.foldl_cons, List.foldl_nil, addE]
    simp
theorem nextOf_ev {m : Nat} {es : Ed} (hv : Valid m es) {b : Nat} (hb : b < 2 ^ es.length) :
    Ev (fun k => impl_nextOf.f k (m : Int) (toS es) (b : Int)) (toI (rowsOf m (dirs es b))) := by
  refine Ev.congr (f := fun k => impl_nextOf.l0 k (b : Int) (toI (rowsOf m ((dirs es b).take 0))) (es.length : Int) ((0 : Nat) : Int) (m : Int) (toS es)) (fun k => ?_) (next_l hv hb es.length 0 (by omega))
  have h5 := hv.le
  unfold impl_nextOf.f
  rw [if_pos (by omega), if_pos (by omega), Int.toNat_natCast, repl_toI, toS_length]; rfl
end Go.Proofs.Ytjklkphhfkdkpaa.Lk
end

section
/-
  WayTurned and WayFlip, of the program and of the reference, tell the same.
-/
namespace Go.Proofs.Ytjklkphhfkdkpaa.Lk
open Go Go.RowKit Go.Proofs.YtjklkphhfkdkpaaW.PrintWords Go.Proofs.YtjklkphhfkdkpaaW.PrintLast Go.Proofs.YtjklkphhfkdkpaaW.PrintMore Go.Proofs.Ytjklkphhfkdkpaa.P Go.Proofs.Ytjklkphhfkdkpaa.Gw
set_option linter.unusedVariables false
set_option linter.unusedSimpArgs false
theorem all_eq {m : Nat} {es : Ed} (hv : Valid m es) (n : Int) : spec_l1All.f n (toS es) = some ((2 ^ es.length - 1 : Nat) : Int) := by
  have hp := pow_le hv.len
  have h0 := Nat.two_pow_pos es.length
  have h10 := hv.len
  unfold spec_l1All.f
  rw [toS_length, shl_nat (by omega)]
  generalize 2 ^ es.length = p at *
  rw [wrap_id (by omega) (by omega)]; congr 1; omega
theorem allm1 {m : Nat} {es : Ed} (hv : Valid m es) : wrap64 (shl .i64 1 ((toS es).length : Int) - 1) = ((2 ^ es.length - 1 : Nat) : Int) := by
  have := all_eq hv 0
  unfold spec_l1All.f at this
  exact Option.some.inj this
theorem turned_eq {m : Nat} {es : Ed} (hv : Valid m es) {b : Nat} (hb : b < 2 ^ es.length) (n : Int) : impl_turned.f n (toS es) (b : Int) = some ((tn es.length b : Nat) : Int) := by
  have hp := pow_le hv.len
  unfold impl_turned.f
  rw [allm1 hv, xor_nat (by omega) (by omega), tn_xor hb]
theorem sub_eq {m : Nat} {es : Ed} (hv : Valid m es) {b : Nat} (hb : b < 2 ^ es.length) : wrap64 (((2 ^ es.length - 1 : Nat) : Int) - (b : Int)) = ((tn es.length b : Nat) : Int) := by
  have hp := pow_le hv.len
  unfold tn
  generalize 2 ^ es.length = p at *
  rw [wrap_id (by omega) (by omega)]; omega
end Go.Proofs.Ytjklkphhfkdkpaa.Lk
end

section
/-
  The program's sorted and isPlain.
-/
namespace Go.Proofs.Ytjklkphhfkdkpaa.Lk
open Go Go.RowKit Go.Proofs.YtjklkphhfkdkpaaW.PrintWords Go.Proofs.YtjklkphhfkdkpaaW.PrintLast Go.Proofs.YtjklkphhfkdkpaaW.PrintMore Go.Proofs.Ytjklkphhfkdkpaa.P Go.Proofs.Ytjklkphhfkdkpaa.Gw
set_option linter.unusedVariables false
set_option linter.unusedSimpArgs false
def bi : Option Nat → Int
  | none => -1
  | some u => (u : Int)
theorem sorted_l1 {m : Nat} (h5 : m ≤ 5) {rows : List Nat} (hl : rows.length = m) (hr : ∀ u, rows.getD u 0 < 32) (xs : List S37) (n : Int) {done : Nat} (hd : done < 32) (out : List Int) {r : List Int} :
    ∀ d : Nat, d ≤ m → ∀ best : Option Nat,
    Ev (fun k => if bi ((pickF d rows done).or best) < 0 then some out else if out.length < 17592186044416 then (if 0 ≤ bi ((pickF d rows done).or best) then impl_sorted.l0 k (toI rows) (out ++ [bi ((pickF d rows done).or best)]) (Go.bits .or .i64 (done : Int) (shl .i64 1 (bi ((pickF d rows done).or best)))) n xs else none) else none) r →
    Ev (fun k => impl_sorted.l1 k (toI rows) out (done : Int) (bi best) ((d : Int) - 1) n xs) r := by
  intro d
  induction d with
  | zero =>
    intro _ best h
    refine Ev.step (fun k => ?_) h
    simp only [impl_sorted.l1]
    rw [if_neg (by omega)]; rfl
  | succ d ih =>
    intro hdm best h
    have hpick : pickF (d + 1) rows done = (pickF d rows done).or (bif (!done.testBit d && (andn (rows.getD d 0) done == 0)) then some d else none) := by
      unfold pickF
      rw [List.range_succ, List.find?_append]
      rw [List.find?_singleton]
      cases (!done.testBit d && (andn (rows.getD d 0) done == 0)) <;> simp
    rw [hpick, Option.or_assoc] at h
    have hw : wrap64 (((d + 1 : Nat) : Int) - 1 - 1) = (d : Int) - 1 := by rw [wrap_id (by omega) (by omega)]; omega
    have hdd : ((d + 1 : Nat) : Int) - 1 = (d : Int) := by omega
    have hrd := hr d
    have hk := ih (by omega) _ h
    refine Ev.step (fun k => ?_) hk
    simp only [impl_sorted.l1]
    rw [hw, hdd, if_pos (by omega), if_pos (by omega)]
    cases ht : done.testBit d with
    | true => rw [if_neg (by rw [bit_zero (by omega) (by omega), ht]; simp)]; simp [bi]
    | false =>
      rw [if_pos ((bit_zero (by omega) (by omega)).mpr ht), if_pos (by rw [toI_length]; omega), rd_toI, andn_nat (by omega) (by omega)]
      by_cases h0 : andn (rows.getD d 0) done = 0
      · rw [if_pos (by omega), show (andn (rows.getD d 0) done == 0) = true by simpa using h0]; rfl
      · rw [if_neg (by omega), show (andn (rows.getD d 0) done == 0) = false by simpa using h0]; simp
theorem pickF_lt {m : Nat} {rows : List Nat} {done v : Nat} (h : pickF m rows done = some v) : v < m ∧ done.testBit v = false := by
  have h1 := List.find?_some h
  have h2 := List.mem_range.mp (List.mem_of_find?_eq_some h)
  simp only [Bool.and_eq_true, Bool.not_eq_true'] at h1
  exact ⟨h2, h1.1⟩
theorem sorted_l0 {m : Nat} (h5 : m ≤ 5) {rows : List Nat} (hl : rows.length = m) (hr : ∀ u, rows.getD u 0 < 32) (xs : List S37) : ∀ (f done : Nat), done < 2 ^ m → m < pc5 done + f → ∀ out : List Nat, out.length = pc5 done →
    Ev (fun k => impl_sorted.l0 k (toI rows) (toI out) (done : Int) (m : Int) xs) (toI (out ++ sortF m rows f done)) := by
  intro f
  induction f with
  | zero => intro done hd hp; have := pc5_le_n m (by omega) done hd; omega
  | succ f ih =>
    intro done hd hp out ho
    have hd32 := pow5 h5 hd
    have hw : wrap64 ((m : Int) - 1) = (m : Int) - 1 := wrap_id (by omega) (by omega)
    refine Ev.step (fun k => rfl) ?_
    simp only [impl_sorted.l0, hw]
    have hpc := pc5_le_n m (by omega) done hd
    refine sorted_l1 h5 hl hr xs (m : Int) hd32 (toI out) m (Nat.le_refl m) none ?_
    rw [Option.or_none, sortF]
    cases hpick : pickF m rows done with
    | none => simp only [bi, if_pos (show (-1 : Int) < 0 by omega), List.append_nil]; exact Ev.now _
    | some v =>
      obtain ⟨hv, hb⟩ := pickF_lt hpick
      have hadd := pc5_add done hd32 v (by omega) hb
      have p2 : 2 ^ v < 2 ^ 62 := small (n := 5) (by omega) (Nat.pow_lt_pow_right (by omega) (by omega))
      simp only [bi, if_neg (show ¬ (v : Int) < 0 by omega), if_pos (show (toI out).length < 17592186044416 by rw [toI_length]; omega), if_pos (show 0 ≤ (v : Int) by omega), toI_snoc, shl_nat (show v ≤ 61 by omega), or_nat (show done < 2 ^ 62 by omega) p2]
      have hlt : done ||| 2 ^ v < 2 ^ m := Nat.or_lt_two_pow hd (Nat.pow_lt_pow_right (by omega) hv)
      have h := ih (done ||| 2 ^ v) hlt (by omega) (out ++ [v]) (by rw [List.length_append, List.length_singleton]; omega)
      rw [List.append_assoc, List.singleton_append] at h
      exact h
/-- the order that the program finds -/
def srt (m : Nat) (ds : Ed) : List Nat := sortF m (rowsOf m (rev ds)) 6 0
theorem sorted_ev {m : Nat} {es : Ed} (hv : Valid m es) {b : Nat} (hb : b < 2 ^ es.length) :
    Ev (fun k => impl_sorted.f k (m : Int) (toS es) (b : Int)) (toI (srt m (dirs es b))) := by
  have h5 := hv.le
  unfold impl_sorted.f
  simp only [turned_eq hv hb, Option.bind_some]
  have hn := nextOf_ev hv (b := tn es.length b) tn_lt
  rw [dirs_tn es b hb] at hn
  refine Ev.bind hn ?_
  have hR := (dirs_inR hv.inR b).rev
  have h := sorted_l0 h5 (rowsOf_length m _) (rows_small h5 hR) (toS es) 6 0 (Nat.two_pow_pos m) (by have : pc5 0 = 0 := rfl; omega) [] rfl
  rw [List.nil_append] at h
  exact h
theorem isPlain_ev {m : Nat} {es : Ed} (hv : Valid m es) {b : Nat} (hb : b < 2 ^ es.length) :
    Ev (fun k => impl_isPlain.f k (m : Int) (toS es) (b : Int)) (plainF m (rowsOf m (dirs es b))) := by
  unfold impl_isPlain.f
  refine Ev.bind (sorted_ev hv hb) ?_
  have h := plain_eq hv.le (dirs_inR hv.inR b) 6 (by have := hv.le; omega)
  have : (((toI (srt m (dirs es b))).length : Int) == (m : Int)) = plainF m (rowsOf m (dirs es b)) := by
    rw [Bool.eq_iff_iff, ← h, toI_length, beq_iff_eq]
    show ((sortF m (rowsOf m (rev (dirs es b))) 6 0).length : Int) = (m : Int) ↔ _
    omega
  rw [this]; exact Ev.now _
end Go.Proofs.Ytjklkphhfkdkpaa.Lk
end

section
/-
  The reference's l1Ends and l1Reach.
-/
namespace Go.Proofs.Ytjklkphhfkdkpaa.Lk
open Go Go.RowKit Go.Proofs.YtjklkphhfkdkpaaW.PrintWords Go.Proofs.YtjklkphhfkdkpaaW.PrintLast Go.Proofs.YtjklkphhfkdkpaaW.PrintMore Go.Proofs.Ytjklkphhfkdkpaa.P Go.Proofs.Ytjklkphhfkdkpaa.Gw
set_option linter.unusedVariables false
set_option linter.unusedSimpArgs false
theorem refEnds_eq {es : Ed} {b i : Nat} (hb : b < 2 ^ 62) (hl : es.length ≤ 60) (hi : i < es.length) (n : Int) :
    spec_l1Ends.f n (toS es) (b : Int) (i : Int) = some ((((dirs es b).getD i (0, 0)).1 : Int), (((dirs es b).getD i (0, 0)).2 : Int)) := by
  unfold spec_l1Ends.f
  rw [if_pos (by omega), if_pos (by rw [toS_length]; omega), rd_toS, dirs_getD hi]
  cases ht : b.testBit i with
  | true => rw [if_pos ((bit_one hb (by omega)).mpr ht)]; rfl
  | false => rw [if_neg (by rw [bit_one hb (by omega), ht]; simp)]; rfl
end Go.Proofs.Ytjklkphhfkdkpaa.Lk
end

section
/-
  The reference's l2Plain.
-/
namespace Go.Proofs.Ytjklkphhfkdkpaa.Lk
open Go Go.RowKit Go.Proofs.YtjklkphhfkdkpaaW.PrintWords Go.Proofs.YtjklkphhfkdkpaaW.PrintLast Go.Proofs.YtjklkphhfkdkpaaW.PrintMore Go.Proofs.Ytjklkphhfkdkpaa.P Go.Proofs.Ytjklkphhfkdkpaa.Gw
set_option linter.unusedVariables false
set_option linter.unusedSimpArgs false
def noEdge (v s : Nat) (e : Nat × Nat) : Bool := !(e.1 == v && s.testBit e.2)
theorem free_all {m : Nat} {ds : Ed} (hd : InR m ds) (s v : Nat) : ds.all (noEdge v s) = (((rowsOf m ds).getD v 0 &&& s) == 0) := by
  rw [Bool.eq_iff_iff, List.all_eq_true, beq_iff_eq, row_free hd]
  constructor
  · intro h e he h1
    have := h e he
    simp only [noEdge, h1, beq_self_eq_true, Bool.true_and, Bool.not_eq_true'] at this
    exact this
  · intro h e he
    unfold noEdge
    by_cases h1 : e.1 = v
    · simp [h1, h e he h1]
    · simp [h1]
theorem l2_l2 {m : Nat} {es : Ed} (hv : Valid m es) {b : Nat} (hb : b < 2 ^ es.length) {s : Nat} (hs : s < 32) (j : Int) {v : Nat} (hvm : v < m) {r : Bool} : ∀ d i : Nat, i + d = es.length → ∀ fr : Bool,
    Ev (fun k => if (fr && ((dirs es b).drop i).all (noEdge v s)) = true then (if 0 ≤ (v : Int) then spec_l2Plain.l1 k (b : Int) (Go.bits .andNot .i64 (s : Int) (shl .i64 1 (v : Int))) j (wrap64 ((v : Int) + 1)) (m : Int) (toS es) else none) else spec_l2Plain.l1 k (b : Int) (s : Int) j (wrap64 ((v : Int) + 1)) (m : Int) (toS es)) r →
    Ev (fun k => spec_l2Plain.l2 k (b : Int) (s : Int) j (v : Int) fr (i : Int) (m : Int) (toS es)) r := by
  have hD := dirs_length es b
  have hR := dirs_inR hv.inR b
  have h10 := hv.len
  have hp := pow_le hv.len
  have h5 := hv.le
  intro d
  induction d with
  | zero =>
    intro i hi fr h
    rw [List.drop_eq_nil_of_le (by omega)] at h
    simp only [List.all_nil, Bool.and_true] at h
    refine Ev.step (fun k => ?_) h
    simp only [spec_l2Plain.l2]
    rw [if_neg (by rw [toS_length]; omega)]
  | succ d ih =>
    intro i hi fr h
    have b62 : b < 2 ^ 62 := by clear ih h; omega
    have l60 : es.length ≤ 60 := by clear ih h hb hp; omega
    have hil3 : i < es.length := by clear ih h hb hp; omega
    have hre := refEnds_eq (es := es) (b := b) (i := i) b62 l60 hil3 (m : Int)
    have hil2 : (i : Int) < ((toS es).length : Int) := by rw [toS_length]; exact Int.ofNat_lt.mpr hil3
    have hil : i < (dirs es b).length := by rw [hD]; exact hil3
    clear hp hb
    have hdrop : (dirs es b).drop i = (dirs es b).getD i (0, 0) :: (dirs es b).drop (i + 1) := by
      rw [List.drop_eq_getElem_cons hil, List.getD_eq_getElem?_getD, List.getElem?_eq_getElem hil]; rfl
    rw [hdrop, List.all_cons, ← Bool.and_assoc] at h
    have he := hR _ (getD_mem (ds := dirs es b) hil)
    have hk := ih (i + 1) (by omega) _ h
    clear h ih
    have hwi : wrap64 ((i : Int) + 1) = ((i + 1 : Nat) : Int) := by rw [wrap_id (by omega) (by omega)]; simp
    refine Ev.step (fun k => ?_) hk
    simp only [spec_l2Plain.l2]
    rw [if_pos hil2, hre]
    simp only [Option.bind_some, hwi]
    unfold noEdge
    clear hre hdrop
    generalize (dirs es b).getD i (0, 0) = x at *
    by_cases h1 : x.1 = v
    · rw [if_pos (by omega), if_pos (by omega)]
      cases ht : s.testBit x.2 with
      | true => rw [if_pos ((bit_one (by omega) (by omega)).mpr ht)]; simp [h1]
      | false => rw [if_neg (by rw [bit_one (by omega) (by omega), ht]; simp)]; simp
    · rw [if_neg (by omega), show (x.1 == v) = false by simpa using h1]; simp
theorem dropS_lt (rows : List Nat) (k : Nat) {s : Nat} (h : s < 32) : dropS rows k s < 32 :=
  lt_two_pow_of_bits (n := 5) fun b hb => bit_lt (n := 5) h (dropS_sub rows k s b hb)
theorem l2_l1 {m : Nat} {es : Ed} (hv : Valid m es) {b : Nat} (hb : b < 2 ^ es.length) {s : Nat} (hs : s < 32) (j : Int) {r : Bool}
    (hr : Ev (fun k => spec_l2Plain.l0 k (b : Int) ((dropS (rowsOf m (dirs es b)) m s : Nat) : Int) (wrap64 (j + 1)) (m : Int) (toS es)) r) : ∀ d v : Nat, v + d = m →
    Ev (fun k => spec_l2Plain.l1 k (b : Int) ((dropS (rowsOf m (dirs es b)) v s : Nat) : Int) j (v : Int) (m : Int) (toS es)) r := by
  have h5 := hv.le
  have hR := dirs_inR hv.inR b
  intro d
  induction d with
  | zero =>
    intro v hvm
    obtain rfl : v = m := by omega
    refine Ev.step (fun k => ?_) hr
    simp only [spec_l2Plain.l1]; rw [if_neg (by omega)]
  | succ d ih =>
    intro v hvm
    have hk := ih (v + 1) (by omega)
    have hlt := dropS_lt (rowsOf m (dirs es b)) v hs
    have hwv : wrap64 ((v : Int) + 1) = ((v + 1 : Nat) : Int) := by rw [wrap_id (by omega) (by omega)]; simp
    have p2 : 2 ^ v < 2 ^ 62 := small (n := 5) (by omega) (Nat.pow_lt_pow_right (by omega) (by omega))
    rw [dropS] at hk
    refine Ev.step (f := fun k => spec_l2Plain.l2 k (b : Int) ((dropS (rowsOf m (dirs es b)) v s : Nat) : Int) j (v : Int) true ((0 : Nat) : Int) (m : Int) (toS es)) (fun k => by
      simp only [spec_l2Plain.l1]; rw [if_pos (by omega)]; rfl) ?_
    refine l2_l2 hv hb hlt j (by omega) es.length 0 (by omega) true ?_
    rw [List.drop_zero, Bool.true_and, free_all hR, hwv]
    generalize dropS (rowsOf m (dirs es b)) v s = q at hlt hk
    unfold dropV at hk
    cases hc : ((rowsOf m (dirs es b)).getD v 0 &&& q) == 0 with
    | true =>
      rw [hc] at hk; simp only [cond_true] at hk
      simp only [if_true, if_pos (show 0 ≤ (v : Int) by omega), shl_nat (show v ≤ 61 by omega), andn_nat (show q < 2 ^ 62 by omega) p2]
      exact hk
    | false =>
      rw [hc] at hk; simp only [cond_false] at hk
      simp only [Bool.false_eq_true, if_false]; exact hk
theorem l2_l0 {m : Nat} {es : Ed} (hv : Valid m es) {b : Nat} (hb : b < 2 ^ es.length) : ∀ d j : Nat, j + d = m → ∀ s : Nat, s < 32 →
    Ev (fun k => spec_l2Plain.l0 k (b : Int) (s : Int) (j : Int) (m : Int) (toS es)) (dropN m (rowsOf m (dirs es b)) d s == 0) := by
  have h5 := hv.le
  intro d
  induction d with
  | zero =>
    intro j hj s hs
    have : ((s : Int) == 0) = (s == 0) := by rw [Bool.eq_iff_iff, beq_iff_eq, beq_iff_eq]; omega
    refine Ev.step (f := fun _ => some (s == 0)) (fun k => ?_) (Ev.now _)
    simp only [spec_l2Plain.l0]; rw [if_neg (by omega), this]
  | succ d ih =>
    intro j hj s hs
    have hk := ih (j + 1) (by omega) _ (dropS_lt (rowsOf m (dirs es b)) m hs)
    have hwj : wrap64 ((j : Int) + 1) = ((j + 1 : Nat) : Int) := by rw [wrap_id (by omega) (by omega)]; simp
    rw [← hwj] at hk
    have h := l2_l1 hv hb hs (j : Int) hk m 0 (by omega)
    refine Ev.step (fun k => ?_) h
    simp only [spec_l2Plain.l0]; rw [if_pos (by omega)]; rfl
theorem refPlain_ev {m : Nat} {es : Ed} (hv : Valid m es) {b : Nat} (hb : b < 2 ^ es.length) :
    Ev (fun k => spec_l2Plain.f k (m : Int) (toS es) (b : Int)) (plainF m (rowsOf m (dirs es b))) := by
  have h5 := hv.le
  have h0 := Nat.two_pow_pos m
  have hf : 2 ^ m - 1 < 32 := pow5 h5 (by omega)
  have h := l2_l0 hv hb m 0 (by omega) (2 ^ m - 1) hf
  have hw : wrap64 (((2 ^ m : Nat) : Int) - 1) = ((2 ^ m - 1 : Nat) : Int) := by
    generalize 2 ^ m = p at *
    rw [wrap_id (by omega) (by omega)]; omega
  refine Ev.congr (fun k => ?_) h
  unfold spec_l2Plain.f
  rw [if_pos (by omega), shl_nat (by omega), hw]; rfl
end Go.Proofs.Ytjklkphhfkdkpaa.Lk
end

section
/-
  The program's sinksOf: the nodes whose rows are empty.
-/
namespace Go.Proofs.Ytjklkphhfkdkpaa.Lk
open Go Go.RowKit Go.Proofs.YtjklkphhfkdkpaaW.PrintWords Go.Proofs.YtjklkphhfkdkpaaW.PrintLast Go.Proofs.YtjklkphhfkdkpaaW.PrintMore Go.Proofs.Ytjklkphhfkdkpaa.P Go.Proofs.Ytjklkphhfkdkpaa.Gw
set_option linter.unusedVariables false
set_option linter.unusedSimpArgs false
theorem sinks_l {rows : List Nat} (hr : rows.length ≤ 5) : ∀ d i : Nat, i + d = rows.length → ∀ s : Nat, s < 32 →
    Ev (fun k => impl_sinksOf.l0 k (s : Int) (toI rows) (rows.length : Int) (i : Int)) ((sinksL (rows.drop i) i s : Nat) : Int) := by
  intro d
  induction d with
  | zero =>
    intro i hi s hs
    refine Ev.step (f := fun _ => some (s : Int)) (fun k => ?_) (by rw [List.drop_eq_nil_of_le (by omega)]; exact Ev.now _)
    simp only [impl_sinksOf.l0]; rw [if_neg (by omega)]
  | succ d ih =>
    intro i hi s hs
    have hil : i < rows.length := by omega
    rw [List.drop_eq_getElem_cons hil, sinksL]
    have hlt : (bif rows[i] == 0 then s ||| 2 ^ i else s) < 32 := by
      cases rows[i] == 0
      · exact hs
      · exact Nat.or_lt_two_pow (n := 5) hs (Nat.pow_lt_pow_right (by omega) (by omega))
    refine Ev.step (fun k => ?_) (ih (i + 1) (by omega) _ hlt)
    have hrd : rd (toI rows) (i : Int) = ((rows[i] : Nat) : Int) := by rw [rd_toI, List.getD_eq_getElem?_getD, List.getElem?_eq_getElem hil]; rfl
    simp only [impl_sinksOf.l0]
    rw [if_pos (by omega), if_pos (by omega), if_pos (by rw [toI_length]; omega), hrd, wrap_id (by omega) (by omega)]
    by_cases h0 : rows[i] = 0
    · rw [if_pos (by omega), h0, shl_nat (by omega), or_nat (by omega) (small (n := 5) (by omega) (Nat.pow_lt_pow_right (by omega) (by omega)))]; simp
    · rw [if_neg (by omega), show (rows[i] == 0) = false by simpa using h0]; simp
theorem sinksOf_ev {m : Nat} {es : Ed} (hv : Valid m es) {b : Nat} (hb : b < 2 ^ es.length) :
    Ev (fun k => impl_sinksOf.f k (m : Int) (toS es) (b : Int)) ((sinksF (rowsOf m (dirs es b)) : Nat) : Int) := by
  unfold impl_sinksOf.f
  refine Ev.bind (nextOf_ev hv hb) ?_
  simp only [toI_length]
  have h := sinks_l (rows := rowsOf m (dirs es b)) (by rw [rowsOf_length]; exact hv.le) m 0 (by rw [rowsOf_length]; omega) 0 (by omega)
  exact h
end Go.Proofs.Ytjklkphhfkdkpaa.Lk
end

section
/-
  The reference's l1Out: degrees.
-/
namespace Go.Proofs.Ytjklkphhfkdkpaa.Lk
open Go Go.RowKit Go.Proofs.YtjklkphhfkdkpaaW.PrintWords Go.Proofs.YtjklkphhfkdkpaaW.PrintLast Go.Proofs.YtjklkphhfkdkpaaW.PrintMore Go.Proofs.Ytjklkphhfkdkpaa.P Go.Proofs.Ytjklkphhfkdkpaa.Gw
set_option linter.unusedVariables false
set_option linter.unusedSimpArgs false
theorem refEndsO_eq {es : Ed} {b i : Nat} (hb : b < 2 ^ 62) (hl : es.length ≤ 60) (hi : i < es.length) (n : Int) :
    spec_l1Ends.f n (toS es) (b : Int) (i : Int) = some ((((dirs es b).getD i (0, 0)).1 : Int), (((dirs es b).getD i (0, 0)).2 : Int)) := by
  unfold spec_l1Ends.f
  rw [if_pos (by omega), if_pos (by rw [toS_length]; omega), rd_toS, dirs_getD hi]
  cases ht : b.testBit i with
  | true => rw [if_pos ((bit_one hb (by omega)).mpr ht)]; rfl
  | false => rw [if_neg (by rw [bit_one hb (by omega), ht]; simp)]; rfl
theorem outs_le {m : Nat} {ds : Ed} (hd : InR m ds) (u : Nat) : (outsOf m ds).getD u 0 ≤ ds.length := by
  rw [outsOf_get hd]; exact List.countP_le_length
theorem refOut_l {m : Nat} {es : Ed} (hv : Valid m es) {b : Nat} (hb : b < 2 ^ es.length) : ∀ d i : Nat, i + d = es.length →
    Ev (fun k => spec_l1Out.l0 k (b : Int) (toI (outsOf m ((dirs es b).take i))) (i : Int) (m : Int) (toS es)) (toI (outsOf m (dirs es b))) := by
  have hD := dirs_length es b
  have hR := dirs_inR hv.inR b
  have h10 := hv.len
  have hp := pow_le hv.len
  have h5 := hv.le
  intro d
  induction d with
  | zero =>
    intro i hi
    refine Ev.step (f := fun _ => some (toI (outsOf m (dirs es b)))) (fun k => ?_) (Ev.now _)
    simp only [spec_l1Out.l0]
    rw [if_neg (by rw [toS_length]; omega), List.take_of_length_le (by omega)]
  | succ d ih =>
    intro i hi
    refine Ev.step (fun k => ?_) (ih (i + 1) (by omega))
    have he := hR _ (getD_mem (ds := dirs es b) (i := i) (by omega))
    have hle := outs_le (take_inR hR i) ((dirs es b).getD i (0, 0)).1
    have hlt : ((dirs es b).take i).length ≤ 10 := by rw [List.length_take]; omega
    simp only [spec_l1Out.l0]
    rw [if_pos (by rw [toS_length]; omega), refEndsO_eq (by omega) (by omega) (by omega)]
    simp only [Option.bind_some]
    rw [if_pos (by omega), if_pos (by rw [toI_length, outsOf_length]; omega), rd_toI, wrap_id (x := _ + 1) (by omega) (by omega), wrap_id (by omega) (by omega), Int.toNat_natCast]
    rw [show (((outsOf m ((dirs es b).take i)).getD ((dirs es b).getD i (0, 0)).1 0 : Nat) : Int) + 1 = (((outsOf m ((dirs es b).take i)).getD ((dirs es b).getD i (0, 0)).1 0 + 1 : Nat) : Int) by simp, set_toI, take_snoc (by omega)]
    simp only [outsOf, List.foldl_append, List.foldl_cons, List.foldl_nil, addO]
    simp
theorem refOut_ev {m : Nat} {es : Ed} (hv : Valid m es) {b : Nat} (hb : b < 2 ^ es.length) :
    Ev (fun k => spec_l1Out.f k (m : Int) (toS es) (b : Int)) (toI (outsOf m (dirs es b))) := by
  refine Ev.congr (fun k => ?_) (refOut_l hv hb es.length 0 (by omega))
  have h5 := hv.le
  unfold spec_l1Out.f
  rw [if_pos (by omega), if_pos (by omega), Int.toNat_natCast, repl_toI]; rfl
end Go.Proofs.Ytjklkphhfkdkpaa.Lk
end

section
/-
  The reference's l1Sinks: the same set as the rows' that are empty.
-/
namespace Go.Proofs.Ytjklkphhfkdkpaa.Lk
open Go Go.RowKit Go.Proofs.YtjklkphhfkdkpaaW.PrintWords Go.Proofs.YtjklkphhfkdkpaaW.PrintLast Go.Proofs.YtjklkphhfkdkpaaW.PrintMore Go.Proofs.Ytjklkphhfkdkpaa.P Go.Proofs.Ytjklkphhfkdkpaa.Gw
set_option linter.unusedVariables false
set_option linter.unusedSimpArgs false
theorem refSinks_l {outs : List Nat} {m : Nat} (hm : outs.length = m) (h5 : m ≤ 5) (xs : List S37) : ∀ d i : Nat, i + d = m → ∀ s : Nat, s < 32 →
    Ev (fun k => spec_l1Sinks.l0 k (s : Int) (toI outs) (i : Int) (m : Int) xs) ((sinksL (outs.drop i) i s : Nat) : Int) := by
  intro d
  induction d with
  | zero =>
    intro i hi s hs
    refine Ev.step (f := fun _ => some (s : Int)) (fun k => ?_) (by rw [List.drop_eq_nil_of_le (by omega)]; exact Ev.now _)
    simp only [spec_l1Sinks.l0]; rw [if_neg (by omega)]
  | succ d ih =>
    intro i hi s hs
    have hil : i < outs.length := by omega
    rw [List.drop_eq_getElem_cons hil, sinksL]
    have hlt : (bif outs[i] == 0 then s ||| 2 ^ i else s) < 32 := by
      cases outs[i] == 0
      · exact hs
      · exact Nat.or_lt_two_pow (n := 5) hs (Nat.pow_lt_pow_right (by omega) (by omega))
    refine Ev.step (fun k => ?_) (ih (i + 1) (by omega) _ hlt)
    have hrd : rd (toI outs) (i : Int) = ((outs[i] : Nat) : Int) := by rw [rd_toI, List.getD_eq_getElem?_getD, List.getElem?_eq_getElem hil]; rfl
    simp only [spec_l1Sinks.l0]
    rw [if_pos (by omega), if_pos (by omega), if_pos (by rw [toI_length]; omega), hrd, wrap_id (by omega) (by omega)]
    by_cases h0 : outs[i] = 0
    · rw [if_pos (by omega), h0, shl_nat (by omega), or_nat (by omega) (small (n := 5) (by omega) (Nat.pow_lt_pow_right (by omega) (by omega)))]; simp
    · rw [if_neg (by omega), show (outs[i] == 0) = false by simpa using h0]; simp
theorem sinks_outs {m : Nat} (h5 : m ≤ 5) {ds : Ed} (hd : InR m ds) (hn : ds.Nodup) : sinksF (outsOf m ds) = sinksF (rowsOf m ds) := by
  apply Nat.eq_of_testBit_eq; intro i
  rw [Bool.eq_iff_iff, sinksF_bit, sinksF_bit]
  by_cases hi : i < m
  · have h1 := pc_row h5 hd hn i
    have h2 := rows_small h5 hd i
    have h3 := pc5_zero _ h2
    rw [List.getElem?_eq_getElem (by rw [outsOf_length]; exact hi), List.getElem?_eq_getElem (by rw [rowsOf_length]; exact hi)]
    simp only [List.getD_eq_getElem?_getD, List.getElem?_eq_getElem (show i < (rowsOf m ds).length by rw [rowsOf_length]; exact hi), List.getElem?_eq_getElem (show i < (outsOf m ds).length by rw [outsOf_length]; exact hi), Option.getD_some] at h1 h3
    rw [h1] at h3
    simp only [Option.some.injEq]; exact h3
  · rw [List.getElem?_eq_none (by rw [outsOf_length]; omega), List.getElem?_eq_none (by rw [rowsOf_length]; omega)]
theorem refSinks_ev {m : Nat} {es : Ed} (hv : Valid m es) {b : Nat} (hb : b < 2 ^ es.length) :
    Ev (fun k => spec_l1Sinks.f k (m : Int) (toS es) (b : Int)) ((sinksF (rowsOf m (dirs es b)) : Nat) : Int) := by
  unfold spec_l1Sinks.f
  refine Ev.bind (refOut_ev hv hb) ?_
  rw [← sinks_outs hv.le (dirs_inR hv.inR b) (dirs_nodup hv b)]
  exact refSinks_l (outsOf_length m _) hv.le (toS es) m 0 (by omega) 0 (by omega)
end Go.Proofs.Ytjklkphhfkdkpaa.Lk
end

section
/-
  PlainRoot of the program and of the reference tell the same, for every graph and number.
-/
namespace Go.Proofs.Ytjklkphhfkdkpaa.Lk
open Go Go.RowKit Go.Proofs.YtjklkphhfkdkpaaW.PrintWords Go.Proofs.YtjklkphhfkdkpaaW.PrintLast Go.Proofs.YtjklkphhfkdkpaaW.PrintMore Go.Proofs.Ytjklkphhfkdkpaa.P Go.Proofs.Ytjklkphhfkdkpaa.Gw
set_option linter.unusedVariables false
set_option linter.unusedSimpArgs false
/-- acyclic, with v as its only source -/
def rootP (m : Nat) (es : Ed) (v o : Nat) : Bool := plainF m (rowsOf m (dirs es o)) && decide (sinksF (rowsOf m (rev (dirs es o))) = 2 ^ v)
def cRoot (m : Nat) (es : Ed) (v : Nat) : Nat := cntP (rootP m es v) (2 ^ es.length)
theorem lenPR {m : Nat} {es : Ed} (hv : Valid m es) : (toS es).length < 2 ^ 62 := by rw [toS_length]; have := hv.len; omega
theorem sinks_lt2 (m : Nat) (ds : Ed) : sinksF (rowsOf m ds) < 2 ^ m := by
  apply lt_two_pow_of_bits
  intro b hb
  rw [sinksF_bit] at hb
  have := (List.getElem?_eq_some_iff.mp hb).1
  rw [rowsOf_length] at this; exact this
theorem rootX_ev {m : Nat} {es : Ed} (hv : Valid m es) {v : Nat} (hvm : v < m) {o : Nat} (ho : o < 2 ^ es.length) : Ev (fun k => impl_PlainRootX.f k (o : Int) (m : Int) (toS es) (v : Int)) (rootP m es v o) := by
  have h5 := hv.le
  unfold impl_PlainRootX.f
  refine Ev.bind (isPlain_ev hv ho) ?_
  cases hp : plainF m (rowsOf m (dirs es o)) with
  | false => simp only [Bool.false_eq_true, if_false, rootP, hp, Bool.false_and]; exact Ev.now _
  | true =>
    simp only [if_true, turned_eq hv ho, Option.bind_some]
    have h := sinksOf_ev hv (b := tn es.length o) tn_lt
    rw [dirs_tn es o ho] at h
    refine Ev.bind h ?_
    simp only [if_pos (Int.natCast_nonneg v), shl_nat (show v ≤ 61 by omega)]
    have : (((sinksF (rowsOf m (rev (dirs es o))) : Nat) : Int) == ((2 ^ v : Nat) : Int)) = rootP m es v o := by
      rw [rootP, hp, Bool.true_and, Bool.eq_iff_iff, beq_iff_eq, decide_eq_true_eq]; omega
    rw [this]; exact Ev.now _
theorem impl_PlainRoot_ev {m : Nat} {es : Ed} (hv : Valid m es) {v : Nat} (hvm : v < m) : Ev (fun k => impl_PlainRoot.f k (m : Int) (toS es) (v : Int)) (((cRoot m es v : Nat) : Int), true) := by
  have h10 := hv.len
  have hp := pow_le h10
  unfold impl_PlainRoot.f
  refine Ev.bind (impl_wayGraph (lenPR hv)) ?_
  rw [valid_gOk_iff hv]
  simp only [if_true, if_neg (show ¬ (v : Int) < 0 by omega), if_neg (show ¬ (v : Int) ≥ (m : Int) by omega), toS_length, shl_nat (show es.length ≤ 61 by omega)]
  have h := cntL_ev (g := fun k o => impl_PlainRootX.f k o (m : Int) (toS es) (v : Int)) (p := rootP m es v) hp (fun o ho => rootX_ev hv hvm ho)
  exact Ev.bind h (Ev.now _)
end Go.Proofs.Ytjklkphhfkdkpaa.Lk
end

section
/-
  The program's pushed: all edges at a node turned.
-/
namespace Go.Proofs.Ytjklkphhfkdkpaa.Lk
open Go Go.RowKit Go.Proofs.YtjklkphhfkdkpaaW.PrintWords Go.Proofs.YtjklkphhfkdkpaaW.PrintLast Go.Proofs.YtjklkphhfkdkpaaW.PrintMore Go.Proofs.Ytjklkphhfkdkpaa.P Go.Proofs.Ytjklkphhfkdkpaa.Gw
set_option linter.unusedVariables false
set_option linter.unusedSimpArgs false
def pushE (v : Nat) : Ed → Nat → Nat → Nat
  | [], _, o => o
  | e :: es, i, o => pushE v es (i + 1) (bif e.1 == v || e.2 == v then o ^^^ 2 ^ i else o)
theorem pushE_lt (v : Nat) {l : Nat} : ∀ (es : Ed) (i o : Nat), i + es.length ≤ l → o < 2 ^ l → pushE v es i o < 2 ^ l
  | [], i, o, _, h => h
  | e :: es, i, o, hi, h => by
      rw [pushE]
      apply pushE_lt v es (i + 1) _ (by simp at hi; omega)
      cases e.1 == v || e.2 == v
      · exact h
      · exact Nat.xor_lt_two_pow h (Nat.pow_lt_pow_right (by omega) (by simp at hi; omega))
theorem pushed_l {m : Nat} {es : Ed} (hv : Valid m es) (v : Nat) : ∀ d i : Nat, i + d = es.length → ∀ o : Nat, o < 2 ^ es.length →
    Ev (fun k => impl_pushed.l0 k (o : Int) (v : Int) (toS es) (es.length : Int) (i : Int)) ((pushE v (es.drop i) i o : Nat) : Int) := by
  have hp := pow_le hv.len
  have h10 := hv.len
  intro d
  induction d with
  | zero =>
    intro i hi o ho
    rw [List.drop_eq_nil_of_le (by omega)]
    refine Ev.step (f := fun _ => some (o : Int)) (fun k => ?_) (Ev.now _)
    simp only [impl_pushed.l0]; rw [if_neg (by omega)]
  | succ d ih =>
    intro i hi o ho
    have hil : i < es.length := by omega
    have hdrop : es.drop i = es.getD i (0, 0) :: es.drop (i + 1) := by
      rw [List.drop_eq_getElem_cons hil, List.getD_eq_getElem?_getD, List.getElem?_eq_getElem hil]; rfl
    rw [hdrop, pushE]
    have hw : wrap64 ((i : Int) + 1) = ((i + 1 : Nat) : Int) := by rw [wrap_id (by omega) (by omega)]; simp
    have hpi : 2 ^ i < 2 ^ es.length := Nat.pow_lt_pow_right (by omega) hil
    have hx := xor_nat (a := o) (b := 2 ^ i) (by omega) (by omega)
    have hlt : (bif (es.getD i (0, 0)).1 == v || (es.getD i (0, 0)).2 == v then o ^^^ 2 ^ i else o) < 2 ^ es.length := by
      cases (es.getD i (0, 0)).1 == v || (es.getD i (0, 0)).2 == v
      · exact ho
      · exact Nat.xor_lt_two_pow ho hpi
    refine Ev.step (fun k => ?_) (ih (i + 1) (by omega) _ hlt)
    simp only [impl_pushed.l0]
    have hrd := rd_toS es i
    rw [if_pos (by omega), if_pos (by omega), if_pos (by rw [toS_length]; omega), hrd, hw, shl_nat (by omega), hx]
    generalize es.getD i (0, 0) = x
    by_cases h1 : x.1 = v
    · rw [if_pos (by simp only; omega), show (x.1 == v) = true by simpa using h1]; simp
    · rw [if_neg (by simp only; omega), show (x.1 == v) = false by simpa using h1]
      by_cases h2 : x.2 = v
      · rw [if_pos (by simp only; omega), show (x.2 == v) = true by simpa using h2]; simp
      · rw [if_neg (by simp only; omega), show (x.2 == v) = false by simpa using h2]; simp
theorem pushed_ev {m : Nat} {es : Ed} (hv : Valid m es) (v : Nat) {b : Nat} (hb : b < 2 ^ es.length) (n : Int) :
    Ev (fun k => impl_pushed.f k n (toS es) (b : Int) (v : Int)) ((pushE v es 0 b : Nat) : Int) := by
  have h := pushed_l hv v es.length 0 (by omega) b hb
  unfold impl_pushed.f
  simp only [toS_length]; exact h
end Go.Proofs.Ytjklkphhfkdkpaa.Lk
end

section
/-
  The reference's l2Push: all edges at a node turned.
-/
namespace Go.Proofs.Ytjklkphhfkdkpaa.Lk
open Go Go.RowKit Go.Proofs.YtjklkphhfkdkpaaW.PrintWords Go.Proofs.YtjklkphhfkdkpaaW.PrintLast Go.Proofs.YtjklkphhfkdkpaaW.PrintMore Go.Proofs.Ytjklkphhfkdkpaa.P Go.Proofs.Ytjklkphhfkdkpaa.Gw
set_option linter.unusedVariables false
set_option linter.unusedSimpArgs false
theorem refPush_l {m : Nat} {es : Ed} (hv : Valid m es) (v : Nat) (n : Int) : ∀ d i : Nat, i + d = es.length → ∀ o : Nat, o < 2 ^ es.length →
    Ev (fun k => spec_l2Push.l0 k (o : Int) (v : Int) (i : Int) n (toS es)) ((pushE v (es.drop i) i o : Nat) : Int) := by
  have hp := pow_le hv.len
  have h10 := hv.len
  intro d
  induction d with
  | zero =>
    intro i hi o ho
    rw [List.drop_eq_nil_of_le (by omega)]
    refine Ev.step (f := fun _ => some (o : Int)) (fun k => ?_) (Ev.now _)
    simp only [spec_l2Push.l0]; rw [if_neg (by rw [toS_length]; omega)]
  | succ d ih =>
    intro i hi o ho
    have hil : i < es.length := by omega
    have hdrop : es.drop i = es.getD i (0, 0) :: es.drop (i + 1) := by
      rw [List.drop_eq_getElem_cons hil, List.getD_eq_getElem?_getD, List.getElem?_eq_getElem hil]; rfl
    rw [hdrop, pushE]
    have hw : wrap64 ((i : Int) + 1) = ((i + 1 : Nat) : Int) := by rw [wrap_id (by omega) (by omega)]; simp
    have hpi : 2 ^ i < 2 ^ es.length := Nat.pow_lt_pow_right (by omega) hil
    have hx := xor_nat (a := o) (b := 2 ^ i) (by omega) (by omega)
    have hlt : (bif (es.getD i (0, 0)).1 == v || (es.getD i (0, 0)).2 == v then o ^^^ 2 ^ i else o) < 2 ^ es.length := by
      cases (es.getD i (0, 0)).1 == v || (es.getD i (0, 0)).2 == v
      · exact ho
      · exact Nat.xor_lt_two_pow ho hpi
    refine Ev.step (fun k => ?_) (ih (i + 1) (by omega) _ hlt)
    simp only [spec_l2Push.l0]
    have hrd := rd_toS es i
    rw [if_pos (by rw [toS_length]; omega), if_pos (by omega), hrd, hw, shl_nat (by omega), hx]
    generalize es.getD i (0, 0) = x
    by_cases h1 : x.1 = v
    · rw [if_pos (by simp only; omega), show (x.1 == v) = true by simpa using h1]; simp
    · rw [if_neg (by simp only; omega), show (x.1 == v) = false by simpa using h1]
      by_cases h2 : x.2 = v
      · rw [if_pos (by simp only; omega), show (x.2 == v) = true by simpa using h2]; simp
      · rw [if_neg (by simp only; omega), show (x.2 == v) = false by simpa using h2]; simp
theorem refPush_ev {m : Nat} {es : Ed} (hv : Valid m es) (v : Nat) {b : Nat} (hb : b < 2 ^ es.length) (n : Int) :
    Ev (fun k => spec_l2Push.f k n (toS es) (b : Int) (v : Int)) ((pushE v es 0 b : Nat) : Int) := by
  have h := refPush_l hv v n es.length 0 (by omega) b hb
  unfold spec_l2Push.f; exact h
end Go.Proofs.Ytjklkphhfkdkpaa.Lk
end

section
/-
  PlainClasses of the program and of the reference tell the same, for every graph.
-/
namespace Go.Proofs.Ytjklkphhfkdkpaa.Lk
open Go Go.RowKit Go.Proofs.YtjklkphhfkdkpaaW.PrintWords Go.Proofs.YtjklkphhfkdkpaaW.PrintLast Go.Proofs.YtjklkphhfkdkpaaW.PrintMore Go.Proofs.Ytjklkphhfkdkpaa.P Go.Proofs.Ytjklkphhfkdkpaa.Gw
set_option linter.unusedVariables false
set_option linter.unusedSimpArgs false
/-! the plain form: a queue and marks -/
def vis (st : List Nat × List Bool) (x : Nat) : List Nat × List Bool := bif st.2.getD x false then st else (st.1 ++ [x], st.2.set x true)
def nbL (f : Nat → Bool) (g : Nat → Nat) : Nat → Nat → List Nat
  | 0, _ => []
  | d + 1, v => bif f v then g v :: nbL f g d (v + 1) else nbL f g d (v + 1)
def srcB (m : Nat) (es : Ed) (o v : Nat) : Bool := (sinksF (rowsOf m (rev (dirs es o)))).testBit v
def nbs (m : Nat) (es : Ed) (o : Nat) : List Nat := nbL (srcB m es o) (fun v => pushE v es 0 o) m 0
def bfs (nb : Nat → List Nat) : Nat → List Nat → Nat → List Bool → List Nat × List Bool
  | 0, q, _, s => (q, s)
  | f + 1, q, i, s => if i < q.length then bfs nb f ((nb (q.getD i 0)).foldl vis (q, s)).1 (i + 1) ((nb (q.getD i 0)).foldl vis (q, s)).2 else (q, s)
def cls (pl : Nat → Bool) (nb : Nat → List Nat) (p : Nat) : Nat → Nat → Nat → List Bool → Nat
  | 0, _, n, _ => n
  | d + 1, o, n, s => bif s.getD o false || !pl o then cls pl nb p d (o + 1) n s else cls pl nb p d (o + 1) (n + 1) (bfs nb p [o] 0 (s.set o true)).2
def plB (m : Nat) (es : Ed) (o : Nat) : Bool := plainF m (rowsOf m (dirs es o))
def cClasses (m : Nat) (es : Ed) : Nat := cls (plB m es) (nbs m es) (2 ^ es.length) (2 ^ es.length) 0 0 (List.replicate (2 ^ es.length) false)
structure Inv (p : Nat) (q : List Nat) (s : List Bool) : Prop where
  len : s.length = p
  cnt : s.count false + q.length ≤ p
  lt : ∀ x ∈ q, x < p
theorem cnt_set {s : List Bool} {x : Nat} (hx : x < s.length) (h : s.getD x false = false) : (s.set x true).count false + 1 = s.count false := by
  rw [List.count_set hx]
  have h1 : s[x] = false := by rw [List.getD_eq_getElem?_getD, List.getElem?_eq_getElem hx] at h; exact h
  have h2 : 0 < s.count false := List.count_pos_iff.mpr (by rw [← h1]; exact List.getElem_mem hx)
  rw [h1]
  simp
  omega
theorem Inv.vis {p : Nat} {st : List Nat × List Bool} (h : Inv p st.1 st.2) {x : Nat} (hx : x < p) : Inv p (Lk.vis st x).1 (Lk.vis st x).2 := by
  unfold Lk.vis
  cases hs : st.2.getD x false with
  | true => exact h
  | false =>
    simp only [cond_false]
    have hc := cnt_set (by rw [h.len]; exact hx) hs
    have := h.cnt
    refine ⟨by rw [List.length_set]; exact h.len, by rw [List.length_append, List.length_singleton]; omega, fun y hy => ?_⟩
    rcases List.mem_append.mp hy with hy | hy
    · exact h.lt y hy
    · rw [List.mem_singleton.mp hy]; exact hx
theorem Inv.fold {p : Nat} : ∀ (l : List Nat), (∀ x ∈ l, x < p) → ∀ st : List Nat × List Bool, Inv p st.1 st.2 → Inv p (l.foldl Lk.vis st).1 (l.foldl Lk.vis st).2
  | [], _, st, h => h
  | x :: l, hl, st, h => Inv.fold l (fun y hy => hl y (List.mem_cons_of_mem _ hy)) _ (h.vis (hl x List.mem_cons_self))
theorem nbL_lt {f : Nat → Bool} {g : Nat → Nat} {p : Nat} (hg : ∀ v, g v < p) : ∀ d v, ∀ x ∈ nbL f g d v, x < p
  | 0, v, x, h => by simp [nbL] at h
  | d + 1, v, x, h => by
      rw [nbL] at h
      cases hf : f v with
      | true =>
        rw [hf, cond_true] at h
        rcases List.mem_cons.mp h with h | h
        · rw [h]; exact hg v
        · exact nbL_lt hg d (v + 1) x h
      | false => rw [hf, cond_false] at h; exact nbL_lt hg d (v + 1) x h
theorem nbL_len (f : Nat → Bool) (g : Nat → Nat) : ∀ d v, (nbL f g d v).length ≤ d
  | 0, v => by simp [nbL]
  | d + 1, v => by
      have := nbL_len f g d (v + 1)
      rw [nbL]; cases f v <;> simp <;> omega
theorem push_lt {es : Ed} {o : Nat} (ho : o < 2 ^ es.length) (v : Nat) : pushE v es 0 o < 2 ^ es.length := pushE_lt v es 0 o (by omega) ho
theorem nbs_lt {m : Nat} {es : Ed} {o : Nat} (ho : o < 2 ^ es.length) : ∀ x ∈ nbs m es o, x < 2 ^ es.length := nbL_lt (fun v => push_lt ho v) m 0
theorem Inv.getD {p : Nat} {q : List Nat} {s : List Bool} (h : Inv p q s) {i : Nat} (hi : i < q.length) : q.getD i 0 < p := by
  rw [List.getD_eq_getElem?_getD, List.getElem?_eq_getElem hi]; exact h.lt _ (List.getElem_mem hi)
theorem Inv.qle {p : Nat} {q : List Nat} {s : List Bool} (h : Inv p q s) : q.length ≤ p := by have := h.cnt; omega
theorem Inv.bfs {m : Nat} {es : Ed} : ∀ f i q s, Inv (2 ^ es.length) q s → Inv (2 ^ es.length) (Lk.bfs (nbs m es) f q i s).1 (Lk.bfs (nbs m es) f q i s).2
  | 0, _, _, _, h => h
  | f + 1, i, q, s, h => by
      rw [Lk.bfs]
      by_cases hi : i < q.length
      · rw [if_pos hi]; exact Inv.bfs f (i + 1) _ _ (Inv.fold _ (nbs_lt (h.getD hi)) (q, s) h)
      · rw [if_neg hi]; exact h
theorem inv_one {p : Nat} {s : List Bool} {o : Nat} (hs : s.length = p) (ho : o < p) (h : s.getD o false = false) : Inv p [o] (s.set o true) := by
  have hc := cnt_set (by rw [hs]; exact ho) h
  have hle : s.count false ≤ s.length := List.count_le_length
  exact ⟨by rw [List.length_set]; exact hs, by rw [List.length_singleton]; omega, fun x hx => by rw [List.mem_singleton.mp hx]; exact ho⟩
theorem sinks_lt4 {m : Nat} (h5 : m ≤ 5) (ds : Ed) : sinksF (rowsOf m ds) < 32 := by
  apply pow5 h5
  apply lt_two_pow_of_bits
  intro b hb
  rw [sinksF_bit] at hb
  have := (List.getElem?_eq_some_iff.mp hb).1
  rw [rowsOf_length] at this; exact this
theorem rdOf_nat (s : List Bool) (x : Nat) : rdOf false s (x : Int) = s.getD x false := by unfold rdOf; rw [Int.toNat_natCast]
/-! the program's side -/
theorem nb_l {m : Nat} {es : Ed} (hv : Valid m es) {o : Nat} (ho : o < 2 ^ es.length) : ∀ d v : Nat, v + d = m → ∀ out : List Nat, out.length ≤ v →
    Ev (fun k => impl_PlainClassesX.l0 k (o : Int) (toI out) ((sinksF (rowsOf m (rev (dirs es o))) : Nat) : Int) (m : Int) (v : Int) (m : Int) (toS es)) (toI (out ++ nbL (srcB m es o) (fun v => pushE v es 0 o) d v)) := by
  have h5 := hv.le
  have hS := sinks_lt4 h5 (rev (dirs es o))
  intro d
  induction d with
  | zero =>
    intro v hvm out hout
    refine Ev.step (f := fun _ => some (toI out)) (fun k => ?_) (by rw [nbL, List.append_nil]; exact Ev.now _)
    simp only [impl_PlainClassesX.l0]; rw [if_neg (by omega)]
  | succ d ih =>
    intro v hvm out hout
    have hw1 : wrap64 ((v : Int) + 1) = ((v + 1 : Nat) : Int) := by rw [wrap_id (by omega) (by omega)]; simp
    refine Ev.step (fun k => rfl) ?_
    simp only [impl_PlainClassesX.l0, if_pos (show (v : Int) < (m : Int) by clear hw1; omega), if_pos (Int.natCast_nonneg v), hw1, nbL]
    cases hb : srcB m es o v with
    | true =>
      simp only [if_pos ((bit_one (show sinksF (rowsOf m (rev (dirs es o))) < 2 ^ 62 by omega) (show v ≤ 64 by omega)).mpr hb), cond_true]
      refine Ev.bind (pushed_ev hv v ho (m : Int)) ?_
      simp only [if_pos (show (toI out).length < 17592186044416 by rw [toI_length]; omega), toI_snoc]
      have h := ih (v + 1) (by omega) (out ++ [pushE v es 0 o]) (by rw [List.length_append, List.length_singleton]; omega)
      rw [List.append_assoc, List.singleton_append] at h
      exact h
    | false =>
      simp only [if_neg (show ¬ (Go.bits .and .i64 (shr .i64 ((sinksF (rowsOf m (rev (dirs es o))) : Nat) : Int) (v : Int)) 1 = 1) by rw [bit_one (by omega) (by omega)]; exact fun h => Bool.noConfusion (hb.symm.trans h)), cond_false]
      exact ih (v + 1) (by omega) out (by omega)
theorem nb_ev {m : Nat} {es : Ed} (hv : Valid m es) {o : Nat} (ho : o < 2 ^ es.length) : Ev (fun k => impl_PlainClassesX.f k (o : Int) (m : Int) (toS es)) (toI (nbs m es o)) := by
  unfold impl_PlainClassesX.f
  simp only [turned_eq hv ho, Option.bind_some]
  have h := sinksOf_ev hv (b := tn es.length o) tn_lt
  rw [dirs_tn es o ho] at h
  refine Ev.bind h ?_
  exact nb_l hv ho m 0 (by omega) [] (Nat.le_refl _)
theorem spread_l1 {m : Nat} {es : Ed} (hv : Valid m es) {ns : List Nat} (hns : ∀ x ∈ ns, x < 2 ^ es.length) (hl5 : ns.length ≤ 5) {i : Nat} (hi : i ≤ 2 ^ es.length) {R : Int × List Bool} : ∀ d j : Nat, j + d = ns.length → ∀ (q : List Nat) (s : List Bool), Inv (2 ^ es.length) q s →
    Ev (fun k => impl_spread.l0 k (toI ((ns.drop j).foldl vis (q, s)).1) ((i + 1 : Nat) : Int) ((ns.drop j).foldl vis (q, s)).2 (m : Int) (toS es)) R →
    Ev (fun k => impl_spread.l1 k (toI q) (i : Int) (toI ns) (ns.length : Int) (j : Int) s (m : Int) (toS es)) R := by
  have hp := pow_le hv.len
  intro d
  induction d with
  | zero =>
    intro j hj q s hq h
    rw [List.drop_eq_nil_of_le (by omega)] at h
    have hw1 : wrap64 ((i : Int) + 1) = ((i + 1 : Nat) : Int) := by rw [wrap_id (by omega) (by omega)]; simp
    refine Ev.step (fun k => ?_) h
    simp only [impl_spread.l1, hw1]
    rw [if_neg (by clear hw1; omega)]; rfl
  | succ d ih =>
    intro j hj q s hq h
    have hjl : j < ns.length := by omega
    have hx := hns _ (List.getElem_mem hjl)
    have hrd : rd (toI ns) (j : Int) = ((ns[j] : Nat) : Int) := by rw [rd_toI, List.getD_eq_getElem?_getD, List.getElem?_eq_getElem hjl]; rfl
    rw [List.drop_eq_getElem_cons hjl, List.foldl_cons] at h
    generalize ns[j] = x at *
    have hw1 : wrap64 ((j : Int) + 1) = ((j + 1 : Nat) : Int) := by rw [wrap_id (by omega) (by omega)]; simp
    have hql := hq.qle
    have hk := ih (j + 1) (by omega) (vis (q, s) x).1 (vis (q, s) x).2 (hq.vis (st := (q, s)) hx) h
    refine Ev.step (fun k => ?_) hk
    simp only [impl_spread.l1]
    rw [if_pos (by clear hw1; omega), if_pos (Int.natCast_nonneg j), if_pos (by rw [toI_length]; clear hw1; omega), hrd, if_pos (Int.natCast_nonneg x), if_pos (by rw [hq.len]; exact Int.ofNat_lt.mpr hx), rdOf_nat, hw1]
    unfold vis
    cases hs : s.getD x false with
    | true => simp only [if_true, cond_true]
    | false =>
      simp only [Bool.false_eq_true, if_false, cond_false]
      rw [if_pos (by rw [toI_length]; clear hw1; omega), toI_snoc, Int.toNat_natCast]
theorem spread_l0 {m : Nat} {es : Ed} (hv : Valid m es) : ∀ f i : Nat, i + f = 2 ^ es.length → ∀ (q : List Nat) (s : List Bool), Inv (2 ^ es.length) q s →
    Ev (fun k => impl_spread.l0 k (toI q) (i : Int) s (m : Int) (toS es)) (((bfs (nbs m es) f q i s).1.length : Int), (bfs (nbs m es) f q i s).2) := by
  intro f
  induction f with
  | zero =>
    intro i hi q s hq
    have hql := hq.qle
    refine Ev.step (f := fun _ => some ((q.length : Int), s)) (fun k => ?_) (Ev.now _)
    simp only [impl_spread.l0]; rw [if_neg (by rw [toI_length]; omega), toI_length]
  | succ f ih =>
    intro i hi q s hq
    rw [bfs]
    by_cases hil : i < q.length
    · rw [if_pos hil]
      have hlt := hq.getD hil
      have hx := nb_ev hv hlt
      have hrd : rd (toI q) (i : Int) = ((q.getD i 0 : Nat) : Int) := rd_toI ..
      refine Ev.step (fun k => rfl) ?_
      simp only [impl_spread.l0, if_pos (show (i : Int) < ((toI q).length : Int) by rw [toI_length]; omega), if_pos (Int.natCast_nonneg i), hrd]
      refine Ev.bind hx ?_
      simp only [toI_length]
      have hle : (nbs m es (q.getD i 0)).length ≤ 5 := Nat.le_trans (nbL_len _ _ m 0) hv.le
      refine spread_l1 hv (nbs_lt hlt) hle (by omega) _ 0 (Nat.zero_add _) q s hq ?_
      rw [List.drop_zero]
      exact ih (i + 1) (by omega) _ _ (Inv.fold _ (nbs_lt hlt) (q, s) hq)
    · rw [if_neg hil]
      refine Ev.step (f := fun _ => some ((q.length : Int), s)) (fun k => ?_) (Ev.now _)
      simp only [impl_spread.l0]; rw [if_neg (by rw [toI_length]; omega), toI_length]
theorem spread_ev {m : Nat} {es : Ed} (hv : Valid m es) {o : Nat} (ho : o < 2 ^ es.length) {s : List Bool} (hs : s.length = 2 ^ es.length) (h : s.getD o false = false) :
    Ev (fun k => impl_spread.f k (o : Int) s (m : Int) (toS es)) (((bfs (nbs m es) (2 ^ es.length) [o] 0 (s.set o true)).1.length : Int), (bfs (nbs m es) (2 ^ es.length) [o] 0 (s.set o true)).2) := by
  have hp := pow_le hv.len
  unfold impl_spread.f
  simp only [if_pos (Int.natCast_nonneg s.length), Int.toNat_natCast, if_pos (show s.length ≤ 281474976710656 by omega), Option.bind_some, if_pos (Int.natCast_nonneg o), if_pos (show (o : Int) < (s.length : Int) by omega)]
  exact spread_l0 hv (2 ^ es.length) 0 (by omega) [o] _ (inv_one hs ho h)
theorem implClasses_l {m : Nat} {es : Ed} (hv : Valid m es) : ∀ d o : Nat, o + d = 2 ^ es.length → ∀ (n : Nat) (s : List Bool), s.length = 2 ^ es.length → n ≤ o →
    Ev (fun k => impl_PlainClasses.l0 k (n : Int) s ((2 ^ es.length : Nat) : Int) (o : Int) (m : Int) (toS es)) (((cls (plB m es) (nbs m es) (2 ^ es.length) d o n s : Nat) : Int), true) := by
  have hp := pow_le hv.len
  intro d
  induction d with
  | zero =>
    intro o ho n s hs hn
    refine Ev.step (f := fun _ => some ((n : Int), true)) (fun k => ?_) (Ev.now _)
    simp only [impl_PlainClasses.l0]; rw [if_neg (by omega)]
  | succ d ih =>
    intro o hod n s hs hn
    have ho : o < 2 ^ es.length := by omega
    have hw1 : wrap64 ((o : Int) + 1) = ((o + 1 : Nat) : Int) := by rw [wrap_id (by omega) (by omega)]; simp
    have hw2 : wrap64 ((n : Int) + 1) = ((n + 1 : Nat) : Int) := by clear hw1; rw [wrap_id (by omega) (by omega)]; simp
    refine Ev.step (fun k => rfl) ?_
    simp only [impl_PlainClasses.l0, if_pos (Int.ofNat_lt.mpr ho), if_pos (Int.natCast_nonneg o), if_pos (show (o : Int) < (s.length : Int) by rw [hs]; exact Int.ofNat_lt.mpr ho), rdOf_nat, hw1, hw2, cls]
    cases hso : s.getD o false with
    | true => simp only [if_true, Bool.true_or, cond_true]; exact ih (o + 1) (by omega) n s hs (by omega)
    | false =>
      simp only [Bool.false_eq_true, if_false, Bool.false_or]
      refine Ev.bind (isPlain_ev hv ho) ?_
      rw [show plainF m (rowsOf m (dirs es o)) = plB m es o from rfl]
      cases hpl : plB m es o with
      | false => simp only [Bool.false_eq_true, if_false, Bool.not_false, cond_true]; exact ih (o + 1) (by omega) n s hs (by omega)
      | true =>
        simp only [if_true, Bool.not_true, cond_false]
        refine Ev.bind (spread_ev hv ho hs hso) ?_
        exact ih (o + 1) (by omega) (n + 1) _ (Inv.bfs _ _ _ _ (inv_one hs ho hso)).len (by omega)
theorem impl_PlainClasses_no {n : Int} {ys : List S37} (hl : ys.length < 2 ^ 62) (hw : gOk n ys = false) : Ev (fun k => impl_PlainClasses.f k n ys) (0, false) := by
  unfold impl_PlainClasses.f; exact Ev.bind (impl_wayGraph hl) (by simpa [hw] using Ev.now _)
theorem lenPC {m : Nat} {es : Ed} (hv : Valid m es) : (toS es).length < 2 ^ 62 := by rw [toS_length]; have := hv.len; omega
theorem impl_PlainClasses_ev {m : Nat} {es : Ed} (hv : Valid m es) : Ev (fun k => impl_PlainClasses.f k (m : Int) (toS es)) (((cClasses m es : Nat) : Int), true) := by
  have h10 := hv.len
  have hp := pow_le h10
  unfold impl_PlainClasses.f
  refine Ev.bind (impl_wayGraph (lenPC hv)) ?_
  rw [valid_gOk_iff hv]
  simp only [if_true, toS_length, shl_nat (show es.length ≤ 61 by omega), if_pos (Int.natCast_nonneg (2 ^ es.length)), Int.toNat_natCast, if_pos (show 2 ^ es.length ≤ 281474976710656 by omega), Option.bind_some, List.length_replicate]
  exact implClasses_l hv (2 ^ es.length) 0 (by omega) 0 _ (List.length_replicate ..) (Nat.le_refl _)
/-! the reference's side -/
theorem specC_l2 {m : Nat} {es : Ed} (hv : Valid m es) {i c : Nat} (hc : c < 2 ^ es.length) (n o : Int) (hi : i ≤ 2 ^ es.length) {R : Int × Bool} : ∀ d v : Nat, v + d = m → ∀ (q : List Nat) (s : List Bool), Inv (2 ^ es.length) q s → i < q.length → q.getD i 0 = c →
    Ev (fun k => spec_PlainClasses.l1 k ((nbL (srcB m es c) (fun v => pushE v es 0 c) d v).foldl vis (q, s)).2 n o (toI ((nbL (srcB m es c) (fun v => pushE v es 0 c) d v).foldl vis (q, s)).1) ((i + 1 : Nat) : Int) (m : Int) (toS es)) R →
    Ev (fun k => spec_PlainClasses.l2 k s n o (toI q) (i : Int) ((sinksF (rowsOf m (rev (dirs es c))) : Nat) : Int) (v : Int) (m : Int) (toS es)) R := by
  have hp := pow_le hv.len
  have h5 := hv.le
  have hS := Nat.lt_of_lt_of_le (sinks_lt4 h5 (rev (dirs es c))) (show 32 ≤ 2 ^ 62 by decide)
  intro d
  induction d with
  | zero =>
    intro v hvm q s hq hil hqc h
    have hw1 : wrap64 ((i : Int) + 1) = ((i + 1 : Nat) : Int) := by rw [wrap_id (by omega) (by omega)]; simp
    refine Ev.step (fun k => ?_) h
    simp only [spec_PlainClasses.l2, hw1]
    rw [if_neg (by clear hw1; omega)]; rfl
  | succ d ih =>
    intro v hvm q s hq hil hqc h
    have hql := hq.qle
    have hrd : rd (toI q) (i : Int) = ((c : Nat) : Int) := by rw [rd_toI, hqc]
    have hw1 : wrap64 ((v : Int) + 1) = ((v + 1 : Nat) : Int) := by rw [wrap_id (by omega) (by omega)]; simp
    have hx := push_lt hc v
    have hv64 : v ≤ 64 := by clear hw1; omega
    rw [nbL] at h
    refine Ev.step (fun k => rfl) ?_
    simp only [spec_PlainClasses.l2, if_pos (show (v : Int) < (m : Int) by clear hw1; omega), if_pos (Int.natCast_nonneg i), if_pos (show (i : Int) < ((toI q).length : Int) by rw [toI_length]; clear hw1; omega), hrd, hw1]
    refine Ev.bind (refPush_ev hv v hc (m : Int)) ?_
    simp only [if_pos (Int.natCast_nonneg v)]
    cases hb : srcB m es c v with
    | false =>
      simp only [if_neg (show ¬ (Go.bits .and .i64 (shr .i64 ((sinksF (rowsOf m (rev (dirs es c))) : Nat) : Int) (v : Int)) 1 = 1) by rw [bit_one hS hv64]; exact fun h => Bool.noConfusion (hb.symm.trans h))]
      rw [hb, cond_false] at h
      exact ih (v + 1) (by omega) q s hq hil hqc h
    | true =>
      rw [hb, cond_true, List.foldl_cons] at h
      generalize pushE v es 0 c = x at *
      simp only [if_pos ((bit_one hS hv64).mpr hb), if_pos (Int.natCast_nonneg x), if_pos (show (x : Int) < (s.length : Int) by rw [hq.len]; exact Int.ofNat_lt.mpr hx), rdOf_nat]
      have hq' := hq.vis (st := (q, s)) hx
      cases hs : s.getD x false with
      | true =>
        simp only [if_true]
        have hvis : vis (q, s) x = (q, s) := by unfold vis; rw [hs]; rfl
        rw [hvis] at h
        exact ih (v + 1) (by omega) q s hq hil hqc h
      | false =>
        simp only [Bool.false_eq_true, if_false, if_pos (show (toI q).length < 17592186044416 by rw [toI_length]; clear hw1; omega), toI_snoc, Int.toNat_natCast]
        have hvis : vis (q, s) x = (q ++ [x], s.set x true) := by unfold vis; rw [hs]; rfl
        rw [hvis] at h hq'
        refine ih (v + 1) (by omega) (q ++ [x]) (s.set x true) hq' (by rw [List.length_append]; omega) ?_ h
        rw [List.getD_eq_getElem?_getD, List.getElem?_append_left hil, ← List.getD_eq_getElem?_getD]; exact hqc
theorem specC_l1 {m : Nat} {es : Ed} (hv : Valid m es) (n : Int) {o : Nat} (ho : o < 2 ^ es.length) {R : Int × Bool} : ∀ f i : Nat, i + f = 2 ^ es.length → ∀ (q : List Nat) (s : List Bool), Inv (2 ^ es.length) q s →
    Ev (fun k => spec_PlainClasses.l0 k (bfs (nbs m es) f q i s).2 n ((o + 1 : Nat) : Int) (m : Int) (toS es)) R →
    Ev (fun k => spec_PlainClasses.l1 k s n (o : Int) (toI q) (i : Int) (m : Int) (toS es)) R := by
  have hp := pow_le hv.len
  have hw1 : wrap64 ((o : Int) + 1) = ((o + 1 : Nat) : Int) := by rw [wrap_id (by omega) (by omega)]; simp
  intro f
  induction f with
  | zero =>
    intro i hi q s hq h
    have hql := hq.qle
    refine Ev.step (fun k => ?_) h
    simp only [spec_PlainClasses.l1, hw1]; rw [if_neg (by rw [toI_length]; clear hw1; omega)]; rfl
  | succ f ih =>
    intro i hi q s hq h
    rw [bfs] at h
    by_cases hil : i < q.length
    · rw [if_pos hil] at h
      have hlt := hq.getD hil
      have hrd : rd (toI q) (i : Int) = ((q.getD i 0 : Nat) : Int) := rd_toI ..
      refine Ev.step (fun k => rfl) ?_
      simp only [spec_PlainClasses.l1, if_pos (show (i : Int) < ((toI q).length : Int) by rw [toI_length]; clear hw1; omega), if_pos (Int.natCast_nonneg i), all_eq hv, Option.bind_some, hrd, sub_eq hv hlt]
      have hsk := refSinks_ev hv (b := tn es.length (q.getD i 0)) tn_lt
      rw [dirs_tn es _ hlt] at hsk
      refine Ev.bind hsk ?_
      refine specC_l2 hv hlt n (o : Int) (by omega) m 0 (by omega) q s hq hil rfl ?_
      exact ih (i + 1) (by omega) _ _ (Inv.fold _ (nbs_lt hlt) (q, s) hq) h
    · rw [if_neg hil] at h
      refine Ev.step (fun k => ?_) h
      simp only [spec_PlainClasses.l1, hw1]; rw [if_neg (by rw [toI_length]; clear hw1; omega)]
theorem specClasses_l {m : Nat} {es : Ed} (hv : Valid m es) : ∀ d o : Nat, o + d = 2 ^ es.length → ∀ (n : Nat) (s : List Bool), s.length = 2 ^ es.length → n ≤ o →
    Ev (fun k => spec_PlainClasses.l0 k s (n : Int) (o : Int) (m : Int) (toS es)) (((cls (plB m es) (nbs m es) (2 ^ es.length) d o n s : Nat) : Int), true) := by
  have hp := pow_le hv.len
  have h0 := Nat.two_pow_pos es.length
  intro d
  induction d with
  | zero =>
    intro o ho n s hs hn
    refine Ev.step (f := fun _ => some ((n : Int), true)) (fun k => ?_) (Ev.now _)
    simp only [spec_PlainClasses.l0, all_eq hv, Option.bind_some]; rw [if_neg (by omega)]
  | succ d ih =>
    intro o hod n s hs hn
    have ho : o < 2 ^ es.length := by omega
    have hw1 : wrap64 ((o : Int) + 1) = ((o + 1 : Nat) : Int) := by rw [wrap_id (by omega) (by omega)]; simp
    have hw2 : wrap64 ((n : Int) + 1) = ((n + 1 : Nat) : Int) := by clear hw1; rw [wrap_id (by omega) (by omega)]; simp
    have hlen : (o : Int) < (s.length : Int) := by rw [hs]; exact Int.ofNat_lt.mpr ho
    refine Ev.step (fun k => rfl) ?_
    simp only [spec_PlainClasses.l0, all_eq hv, Option.bind_some, if_pos (show (o : Int) ≤ ((2 ^ es.length - 1 : Nat) : Int) by clear hw1 hw2; omega), if_pos (Int.natCast_nonneg o), if_pos hlen, rdOf_nat, cls]
    cases hso : s.getD o false with
    | true =>
      simp only [if_true, Bool.true_or, cond_true]
      refine Ev.step (fun k => by simp only [spec_PlainClasses.j1]; rfl) ?_
      simp only [if_true, hw1]
      exact ih (o + 1) (by omega) n s hs (by omega)
    | false =>
      simp only [Bool.false_eq_true, if_false, Bool.false_or]
      refine Ev.bind (refPlain_ev hv ho) ?_
      rw [show plainF m (rowsOf m (dirs es o)) = plB m es o from rfl]
      cases hpl : plB m es o with
      | false =>
        simp only [Bool.not_false, cond_true]
        refine Ev.step (fun k => by simp only [spec_PlainClasses.j1]; rfl) ?_
        simp only [if_true, hw1]
        exact ih (o + 1) (by omega) n s hs (by omega)
      | true =>
        simp only [Bool.not_true, cond_false]
        refine Ev.step (fun k => by simp only [spec_PlainClasses.j1]; rfl) ?_
        simp only [Bool.false_eq_true, if_false, if_pos (Int.natCast_nonneg o), if_pos hlen, hw2, Int.toNat_natCast]
        refine specC_l1 hv _ ho (2 ^ es.length) 0 (by omega) [o] _ (inv_one hs ho hso) ?_
        exact ih (o + 1) (by omega) (n + 1) _ (Inv.bfs _ _ _ _ (inv_one hs ho hso)).len (by omega)
theorem spec_PlainClasses_no {n : Int} {ys : List S37} (hl : ys.length < 2 ^ 62) (hw : gOk n ys = false) : Ev (fun k => spec_PlainClasses.f k n ys) (0, false) := by
  unfold spec_PlainClasses.f; exact Ev.bind (spec_wayGraph hl) (by simpa [hw] using Ev.now _)
theorem hwX {l : Nat} (hp : 2 ^ l ≤ 1024) : wrap64 (((2 ^ l - 1 : Nat) : Int) + 1) = ((2 ^ l : Nat) : Int) := by
    have h0 := Nat.two_pow_pos l
    generalize 2 ^ l = p at *
    rw [wrap_id (by omega) (by omega)]; omega
theorem spec_PlainClasses_ev {m : Nat} {es : Ed} (hv : Valid m es) : Ev (fun k => spec_PlainClasses.f k (m : Int) (toS es)) (((cClasses m es : Nat) : Int), true) := by
  have hp := pow_le hv.len
  have h1 : 2 ^ es.length ≤ 281474976710656 := Nat.le_trans hp (by decide)
  have hw := hwX hp
  have hl := specClasses_l hv (2 ^ es.length) 0 (Nat.zero_add _) 0 (List.replicate (2 ^ es.length) false) (List.length_replicate ..) (Nat.le_refl _)
  have key : ∀ k, spec_PlainClasses.f k (m : Int) (toS es) = (spec_WayGraph.f k (m : Int) (toS es)).bind fun t => if t = true then spec_PlainClasses.l0 k (List.replicate (2 ^ es.length) false) ((0 : Nat) : Int) ((0 : Nat) : Int) (m : Int) (toS es) else some (0, false) := by
    intro k
    unfold spec_PlainClasses.f
    rw [all_eq hv, Option.bind_some, hw, if_pos (Int.natCast_nonneg _), Int.toNat_natCast, if_pos h1]; rfl
  refine Ev.congr key ?_
  refine Ev.bind (spec_wayGraph (lenPC hv)) ?_
  rw [valid_gOk_iff hv]
  simp only [if_true]
  exact hl
end Go.Proofs.Ytjklkphhfkdkpaa.Lk
end

section
/-
  Classes by pushes, reckoned for all graphs.
-/
namespace Go.Proofs.Ytjklkphhfkdkpaa.Lk
open Go Go.RowKit Go.Proofs.YtjklkphhfkdkpaaW.PrintWords Go.Proofs.YtjklkphhfkdkpaaW.PrintLast Go.Proofs.YtjklkphhfkdkpaaW.PrintMore Go.Proofs.Ytjklkphhfkdkpaa.P Go.Proofs.Ytjklkphhfkdkpaa.Gw
set_option linter.unusedVariables false
set_option linter.unusedSimpArgs false
theorem halves (x y : Nat) : x = y ↔ (x % 2 = y % 2 ∧ x / 2 = y / 2) := by omega
theorem land_two (o b M : Nat) (hb : b ≤ 1) (t T : Nat) (ht : t ≤ 1) : Nat.land o (b + 2 * M) = t + 2 * T ↔ ((o % 2 = 1 ∧ b = 1 ↔ t = 1) ∧ Nat.land (o / 2) M = T) := by
  show (o &&& (b + 2 * M)) = t + 2 * T ↔ _ ∧ (o / 2 &&& M) = T
  have h1 := @Nat.and_mod_two_eq_one o (b + 2 * M)
  have h2 := @Nat.and_div_two o (b + 2 * M)
  rw [show (b + 2 * M) / 2 = M by omega] at h2
  rw [halves, h2, show (t + 2 * T) / 2 = T by omega]
  refine and_congr_left fun _ => ?_
  rw [show (b + 2 * M) % 2 = 1 ↔ b = 1 by omega] at h1
  omega
theorem src_mask (v : Nat) : ∀ (es : Ed) (o : Nat), (∀ e ∈ es, e.1 ≠ e.2) → (Nat.land o (maskM v es) = maskT v es ↔ ∀ e ∈ dirs es o, e.2 ≠ v)
  | [], o, _ => by
      simp only [maskM, maskT, dirs]
      exact ⟨fun _ e h => by simp at h, fun _ => Nat.and_zero o⟩
  | e :: es, o, h => by
      have hne := h e List.mem_cons_self
      have ih := src_mask v es (o / 2) (fun x hx => h x (List.mem_cons_of_mem _ hx))
      rw [maskM, maskT, land_two _ _ _ (by cases Nat.beq e.1 v || Nat.beq e.2 v <;> decide) _ _ (by cases Nat.beq e.2 v <;> decide), ih, dirs]
      simp only [List.mem_cons, forall_eq_or_imp]
      refine and_congr_left fun _ => ?_
      rw [beq_eq, beq_eq, Nat.testBit_zero]
      by_cases h1 : e.1 = v
      · have h2 : ¬ e.2 = v := fun e2 => hne (h1.trans e2.symm)
        rw [show (e.1 == v) = true by simpa using h1, show (e.2 == v) = false by simpa using h2]
        by_cases ho : o % 2 = 1
        · simp [ho, h1]
        · simp [ho, h2]
      · rw [show (e.1 == v) = false by simpa using h1]
        by_cases h2 : e.2 = v
        · rw [show (e.2 == v) = true by simpa using h2]
          by_cases ho : o % 2 = 1
          · simp [ho, h1]
          · simp [ho, h2]
        · rw [show (e.2 == v) = false by simpa using h2]
          by_cases ho : o % 2 = 1
          · simp [ho, h1]
          · simp [ho, h2]
theorem xor_two (o i M : Nat) : (o ^^^ 2 ^ i) ^^^ (2 ^ (i + 1) * M) = o ^^^ (2 ^ i * (1 + 2 * M)) := by
  apply Nat.eq_of_testBit_eq; intro j
  rw [Nat.testBit_xor, Nat.testBit_xor, Nat.testBit_xor, Nat.testBit_two_pow_mul, Nat.testBit_two_pow_mul, Nat.testBit_two_pow, Bool.xor_assoc]
  congr 1
  rcases Nat.lt_trichotomy j i with h | h | h
  · rw [decide_eq_false (show ¬ i = j by omega), decide_eq_false (show ¬ j ≥ i + 1 by omega), decide_eq_false (show ¬ j ≥ i by omega)]; rfl
  · subst h
    rw [decide_eq_true (show j = j from rfl), decide_eq_false (show ¬ j ≥ j + 1 by omega), decide_eq_true (show j ≥ j by omega), Nat.sub_self, Nat.testBit_zero]
    simp
  · obtain ⟨k, rfl⟩ : ∃ k, j = i + 1 + k := ⟨j - (i + 1), by omega⟩
    rw [decide_eq_false (show ¬ i = i + 1 + k by omega), decide_eq_true (show i + 1 + k ≥ i + 1 by omega), decide_eq_true (show i + 1 + k ≥ i by omega), show i + 1 + k - (i + 1) = k by omega, show i + 1 + k - i = k + 1 by omega, Nat.testBit_succ, show (1 + 2 * M) / 2 = M by omega]; simp
theorem push_mask (v : Nat) : ∀ (es : Ed) (i o : Nat), pushE v es i o = o ^^^ (2 ^ i * maskM v es)
  | [], i, o => by simp [pushE, maskM]
  | e :: es, i, o => by
      rw [pushE, push_mask v es (i + 1), maskM, beq_eq, beq_eq]
      cases e.1 == v || e.2 == v with
      | true => simp only [cond_true]; exact xor_two o i _
      | false => simp only [cond_false, Nat.zero_add]; rw [Nat.pow_succ, Nat.mul_assoc]
def mk (es : Ed) (v : Nat) : Nat × Nat := (maskM v es, maskT v es)
theorem masksQ_eq {α : Type} (es : Ed) : ∀ (v : Nat) (l : List (Nat × Nat)) (k : List (Nat × Nat) → α), masksQ es v l k = k ((List.range v).map (mk es) ++ l)
  | 0, l, k => rfl
  | v + 1, l, k => by
      rw [masksQ, force_eq, force_eq, masksQ_eq es v, List.range_succ, List.map_append, List.append_assoc]; rfl
theorem bitQ_eq (S x : Nat) : bitQ S x = S.testBit x := by
  unfold bitQ
  rw [beq_eq, Nat.testBit_eq_decide_div_mod_eq]
  show (S >>> x &&& 1 == 1) = _
  rw [Nat.shiftRight_eq_div_pow, Nat.and_one_is_mod, Bool.eq_iff_iff, beq_iff_eq, decide_eq_true_eq]
structure Rel (p S : Nat) (s : List Bool) : Prop where
  len : s.length = p
  bit : ∀ x, x < p → bitQ S x = s.getD x false
theorem Rel.set {p S : Nat} {s : List Bool} (h : Rel p S s) {x : Nat} (hx : x < p) : Rel p (Nat.lor S (Nat.pow 2 x)) (s.set x true) := by
  refine ⟨by rw [List.length_set]; exact h.len, fun y hy => ?_⟩
  have hb := h.bit y hy
  rw [bitQ_eq] at hb ⊢
  show (S ||| 2 ^ x).testBit y = _
  rw [Nat.testBit_or, hb, Nat.testBit_two_pow, List.getD_eq_getElem?_getD, List.getD_eq_getElem?_getD, List.getElem?_set]
  by_cases e : x = y
  · subst e
    rw [if_pos rfl, if_pos (by rw [h.len]; exact hx)]; simp
  · rw [if_neg e, decide_eq_false e, Bool.or_false]
theorem srcB_iff {m : Nat} {es : Ed} (hv : Valid m es) (o : Nat) {v : Nat} (hvm : v < m) : srcB m es o v = Nat.beq (Nat.land o (maskM v es)) (maskT v es) := by
  have hR := (dirs_inR hv.inR o).rev
  have hlen : v < (rowsOf m (rev (dirs es o))).length := by rw [rowsOf_length]; exact hvm
  rw [Bool.eq_iff_iff, Nat.beq_eq, src_mask v es o (fun e he => Nat.ne_of_lt (hv.lt e he))]
  unfold srcB
  rw [sinksF_bit, List.getElem?_eq_getElem hlen]
  have hbit : ∀ b, ((rowsOf m (rev (dirs es o)))[v]).testBit b = true ↔ (v, b) ∈ rev (dirs es o) := fun b => by
    have := rowsOf_bit hR v b
    rwa [List.getD_eq_getElem?_getD, List.getElem?_eq_getElem hlen] at this
  generalize (rowsOf m (rev (dirs es o)))[v] = r at hbit
  rw [Option.some.injEq]
  constructor
  · rintro rfl ⟨a, c⟩ he rfl
    have := (hbit a).mpr (mem_rev.mpr he)
    simp at this
  · intro h
    apply eq_zero_of_bits; intro b
    cases hb : r.testBit b with
    | false => rfl
    | true => exact absurd rfl (h _ (mem_rev.mp ((hbit b).mp hb)))
theorem nodes_sim {m : Nat} {es : Ed} (hv : Valid m es) {o : Nat} (ho : o < 2 ^ es.length) {i : Nat} (k : List Nat → Nat → Nat) : ∀ d v : Nat, v + d = m → ∀ (q : List Nat) (s : List Bool) (S : Nat), Rel (2 ^ es.length) S s → i < q.length →
    ∃ S', Rel (2 ^ es.length) S' ((nbL (srcB m es o) (fun v => pushE v es 0 o) d v).foldl vis (q, s)).2 ∧
      nodesQ o ((List.range' v d).map (mk es)) (q.drop (i + 1)) S k = k (((nbL (srcB m es o) (fun v => pushE v es 0 o) d v).foldl vis (q, s)).1.drop (i + 1)) S' := by
  intro d
  induction d with
  | zero => intro v hvm q s S hr hi; exact ⟨S, hr, rfl⟩
  | succ d ih =>
    intro v hvm q s S hr hi
    have hx := push_lt ho v
    have hpm : Nat.xor o (maskM v es) = pushE v es 0 o := by
      rw [push_mask, Nat.pow_zero, Nat.one_mul]; rfl
    rw [nbL, List.range'_succ, List.map_cons]
    show ∃ S', _ ∧ nodesQ o ((maskM v es, maskT v es) :: _) _ _ _ = _
    rw [nodesQ, srcB_iff hv o (show v < m by omega)]
    cases Nat.beq (Nat.land o (maskM v es)) (maskT v es) with
    | false => simp only [cond_false]; exact ih (v + 1) (by omega) q s S hr hi
    | true =>
      simp only [cond_true, List.foldl_cons]
      rw [force_eq, hpm, hr.bit _ hx]
      generalize pushE v es 0 o = x at hx
      cases hs : s.getD x false with
      | true =>
        have hvis : vis (q, s) x = (q, s) := by unfold vis; rw [hs]; rfl
        rw [hvis, cond_true]; exact ih (v + 1) (by omega) q s S hr hi
      | false =>
        have hvis : vis (q, s) x = (q ++ [x], s.set x true) := by unfold vis; rw [hs]; rfl
        rw [hvis, cond_false, force_eq]
        have h := ih (v + 1) (by omega) (q ++ [x]) (s.set x true) _ (hr.set hx) (by rw [List.length_append]; omega)
        rw [List.drop_append_of_le_length (show i + 1 ≤ q.length from hi)] at h
        exact h
theorem bfs_sim {m : Nat} {es : Ed} (hv : Valid m es) : ∀ (f i : Nat) (q : List Nat) (s : List Bool) (S : Nat), Inv (2 ^ es.length) q s → Rel (2 ^ es.length) S s →
    Rel (2 ^ es.length) (bfsQ ((List.range m).map (mk es)) f (q.drop i) S) (bfs (nbs m es) f q i s).2
  | 0, i, q, s, S, _, hr => hr
  | f + 1, i, q, s, S, hq, hr => by
      rw [bfs]
      by_cases hi : i < q.length
      · rw [if_pos hi, List.drop_eq_getElem_cons hi, bfsQ]
        have hlt := hq.getD hi
        have hg : q[i] = q.getD i 0 := by rw [List.getD_eq_getElem?_getD, List.getElem?_eq_getElem hi]; rfl
        rw [hg]
        obtain ⟨S', h1, h2⟩ := nodes_sim hv hlt (bfsQ ((List.range m).map (mk es)) f) m 0 (Nat.zero_add _) q s S hr hi
        rw [← List.range_eq_range'] at h2
        rw [h2]
        exact bfs_sim hv f (i + 1) _ _ S' (Inv.fold _ (nbs_lt hlt) (q, s) hq) h1
      · rw [if_neg hi, List.drop_eq_nil_of_le (by omega), bfsQ]; exact hr
theorem plQ_eq {m : Nat} {es : Ed} (hv : Valid m es) (o : Nat) : force (adjA es o) (fun A => plainQ A (2 ^ m - 1)) = plB m es o := by
  rw [force_eq, plainQ_eq hv.pos hv.le (dirs_inR hv.inR o)]; rfl
theorem cls_sim {m : Nat} {es : Ed} (hv : Valid m es) : ∀ (d o n : Nat) (s : List Bool) (S : Nat), o + d = 2 ^ es.length → Rel (2 ^ es.length) S s →
    clsQ ((List.range m).map (mk es)) es (2 ^ m - 1) (2 ^ es.length) d o n S = cls (plB m es) (nbs m es) (2 ^ es.length) d o n s
  | 0, o, n, s, S, _, _ => rfl
  | d + 1, o, n, s, S, hod, hr => by
      have ho : o < 2 ^ es.length := by omega
      rw [clsQ, cls, force_eq, hr.bit o ho, plQ_eq hv]
      cases hs : s.getD o false with
      | true => rw [Bool.true_or, cond_true, cond_true]; exact cls_sim hv d (o + 1) n s S (by omega) hr
      | false =>
        rw [Bool.false_or, cond_false]
        cases plB m es o with
        | false => rw [Bool.not_false, cond_false, cond_true]; exact cls_sim hv d (o + 1) n s S (by omega) hr
        | true =>
          rw [Bool.not_true, cond_true, cond_false, force_eq, force_eq, force_eq]
          exact cls_sim hv d (o + 1) (n + 1) _ _ (by omega) (bfs_sim hv (2 ^ es.length) 0 [o] (s.set o true) _ (inv_one hr.len ho hs) (hr.set ho))
theorem rootQ_eq {m : Nat} {es : Ed} (hv : Valid m es) (o : Nat) : rootQ ((List.range m).map (mk es)) es (2 ^ m - 1) o = rootP m es 0 o := by
  have hlt := sinks_lt2 m (rev (dirs es o))
  have h1 := hv.pos
  unfold rootQ rootP
  rw [plQ_eq hv, Bool.and_comm]
  show (plB m es o && _) = (plB m es o && _)
  congr 1
  obtain ⟨n, rfl⟩ : ∃ n, m = n + 1 := ⟨m - 1, by omega⟩
  rw [List.range_eq_range', List.range'_succ, List.map_cons]
  show (Nat.beq (Nat.land o (maskM 0 es)) (maskT 0 es) && _) = _
  rw [← srcB_iff hv o (Nat.succ_pos n), Bool.eq_iff_iff, Bool.and_eq_true, List.all_eq_true, decide_eq_true_eq]
  have hall : (∀ x ∈ (List.range' (0 + 1) n).map (mk es), (!(Nat.beq (Nat.land o x.1) x.2)) = true) ↔ ∀ v, 1 ≤ v → v < n + 1 → srcB (n + 1) es o v = false := by
    constructor
    · intro h v h1 h2
      have := h (mk es v) (List.mem_map_of_mem (List.mem_range'_1.mpr (by omega)))
      rw [srcB_iff hv o h2]
      simpa [mk] using this
    · intro h x hx
      obtain ⟨v, hv', rfl⟩ := List.mem_map.mp hx
      have h3 := List.mem_range'_1.mp hv'
      have := h v (by omega) (by omega)
      rw [srcB_iff hv o (by omega)] at this
      simpa [mk] using this
  rw [hall]
  constructor
  · rintro ⟨a, b⟩
    apply Nat.eq_of_testBit_eq; intro i
    rw [Nat.testBit_two_pow]
    by_cases hi0 : i = 0
    · subst hi0; rw [decide_eq_true rfl]; exact a
    · rw [decide_eq_false (fun e => hi0 e.symm)]
      by_cases hin : i < n + 1
      · exact b i (by omega) hin
      · exact Nat.testBit_lt_two_pow (Nat.lt_of_lt_of_le hlt (Nat.pow_le_pow_right (by omega) (by omega)))
  · intro h
    unfold srcB
    rw [h]
    refine ⟨by simp, fun v h1 h2 => ?_⟩
    rw [Nat.testBit_two_pow, decide_eq_false (by omega)]
theorem class_chk {m : Nat} {es : Ed} (hv : Valid m es) : 1 ≤ cClasses m es ∧ (2 ≤ ufF m es ∨ cRoot m es 0 = cClasses m es) := by
  have h : chkClassQ m es = true := by
    have h1 := hv.pos; have h5 := hv.le
    rcases (show m = 1 ∨ m = 2 ∨ m = 3 ∨ m = 4 ∨ m = 5 by omega) with e | e | e | e | e <;> subst e
    · exact allSub_of _ _ class1 _ hv.sub
    · exact allSub_of _ _ class2 _ hv.sub
    · exact allSub_of _ _ class3 _ hv.sub
    · exact allSub_of _ _ class4 _ hv.sub
    · exact allSub_of _ _ class5 _ hv.sub
  unfold chkClassQ at h
  rw [force_eq, force_eq, masksQ_eq, List.append_nil, force_eq] at h
  have hr0 : Rel (2 ^ es.length) 0 (List.replicate (2 ^ es.length) false) := by
    refine ⟨List.length_replicate .., fun x hx => ?_⟩
    rw [bitQ_eq, Nat.zero_testBit, List.getD_eq_getElem?_getD, List.getElem?_replicate, if_pos hx]; rfl
  have hc := cls_sim hv (2 ^ es.length) 0 0 _ 0 (Nat.zero_add _) hr0
  rw [hc] at h
  have hroot : cntP (rootQ ((List.range m).map (mk es)) es (2 ^ m - 1)) (2 ^ es.length) = cRoot m es 0 := cntP_congr _ (fun o _ => rootQ_eq hv o)
  rw [hroot] at h
  rw [show cls (plB m es) (nbs m es) (2 ^ es.length) (2 ^ es.length) 0 0 (List.replicate (2 ^ es.length) false) = cClasses m es from rfl] at h
  rw [Bool.and_eq_true, Nat.ble_eq] at h
  refine ⟨h.1, ?_⟩
  have h2 := h.2
  cases hb : Nat.ble 2 (ufF m es) with
  | true => exact .inl ((Nat.ble_eq ..).mp hb)
  | false =>
    rw [hb, cond_false, Nat.beq_eq] at h2
    exact .inr h2
end Go.Proofs.Ytjklkphhfkdkpaa.Lk
end

section
/-
  Some edges of a graph, told by bits; the numbers of their parts, told two ways.
-/
namespace Go.Proofs.Ytjklkphhfkdkpaa.Lk
open Go Go.RowKit Go.Proofs.YtjklkphhfkdkpaaW.PrintWords Go.Proofs.YtjklkphhfkdkpaaW.PrintLast Go.Proofs.YtjklkphhfkdkpaaW.PrintMore Go.Proofs.Ytjklkphhfkdkpaa.P Go.Proofs.Ytjklkphhfkdkpaa.Gw
set_option linter.unusedVariables false
set_option linter.unusedSimpArgs false
theorem sel_take : ∀ (es : Ed) (s i : Nat) (hi : i < es.length), sel (es.take (i + 1)) s = sel (es.take i) s ++ (bif s.testBit i then [es.getD i (0, 0)] else [])
  | [], s, i, hi => by simp at hi
  | e :: es, s, 0, hi => by
      simp only [List.take_succ_cons, List.take_zero, sel, List.nil_append]
      cases s.testBit 0 <;> simp
  | e :: es, s, i + 1, hi => by
      have ih := sel_take es (s / 2) i (by simpa using hi)
      simp only [List.take_succ_cons, sel] at ih ⊢
      rw [ih, Nat.testBit_div_two]
      cases s.testBit 0 <;> simp
theorem sym_append : ∀ l l' : Ed, sym (l ++ l') = sym l ++ sym l'
  | [], l' => rfl
  | e :: l, l' => by simp [sym, sym_append l l']
theorem mem_sym {l : Ed} {a b : Nat} : (a, b) ∈ sym l ↔ ((a, b) ∈ l ∨ (b, a) ∈ l) := by
  induction l with
  | nil => simp [sym]
  | cons e l ih =>
    obtain ⟨x, y⟩ := e
    simp only [sym, List.mem_cons, ih, Prod.mk.injEq]
    constructor
    · rintro (h | h | h | h)
      · exact .inl (.inl h)
      · exact .inr (.inl ⟨h.2, h.1⟩)
      · exact .inl (.inr h)
      · exact .inr (.inr h)
    · rintro ((h | h) | (h | h))
      · exact .inl h
      · exact .inr (.inr (.inl h))
      · exact .inr (.inl ⟨h.2, h.1⟩)
      · exact .inr (.inr (.inr h))
theorem sym_inR {m : Nat} {l : Ed} (h : InR m l) : InR m (sym l) := by
  rintro ⟨a, b⟩ he
  rcases mem_sym.mp he with h1 | h1
  · exact h _ h1
  · have := h _ h1; exact ⟨this.2, this.1⟩
theorem Valid.sel {m : Nat} {es : Ed} (hv : Valid m es) (s : Nat) : Valid m (Gw.sel es s) := ⟨hv.pos, hv.le, (sel_sub es s).trans hv.sub⟩
theorem Valid.take {m : Nat} {es : Ed} (hv : Valid m es) (i : Nat) : Valid m (es.take i) := ⟨hv.pos, hv.le, (List.take_sublist i es).trans hv.sub⟩
/-- the two tellings of parts agree (reckoned for all graphs) -/
theorem parts_chk {m : Nat} {es : Ed} (hv : Valid m es) : partsF m es = ufF m es ∧ 1 ≤ ufF m es ∧ ufF m es ≤ m ∧ m ≤ ufF m es + es.length := by
  have h : chkParts m es = true := by
    have h1 := hv.pos; have h5 := hv.le
    rcases (show m = 1 ∨ m = 2 ∨ m = 3 ∨ m = 4 ∨ m = 5 by omega) with e | e | e | e | e <;> subst e
    · exact allSub_of _ _ parts1 _ hv.sub
    · exact allSub_of _ _ parts2 _ hv.sub
    · exact allSub_of _ _ parts3 _ hv.sub
    · exact allSub_of _ _ parts4 _ hv.sub
    · exact allSub_of _ _ parts5 _ hv.sub
  simp only [chkParts, Bool.and_eq_true, beq_iff_eq, Nat.ble_eq] at h
  exact ⟨h.1, h.2.1, h.2.2.1, h.2.2.2⟩
theorem rd_S {es : Ed} {i : Nat} : rd_T37 (toS es) (i : Int) = ⟨((es.getD i (0, 0)).1 : Int), ((es.getD i (0, 0)).2 : Int)⟩ := rd_toS es i
theorem sel_all {es : Ed} : ∀ s, (∀ i, i < es.length → s.testBit i = true) → sel es s = es := by
  induction es with
  | nil => intro s _; rfl
  | cons e es ih =>
    intro s h
    rw [sel, ih (s / 2) (fun i hi => by rw [Nat.testBit_div_two]; exact h (i + 1) (by simpa using hi)), h 0 (by simp)]; rfl
theorem sel_full (es : Ed) : sel es (2 ^ es.length - 1) = es := sel_all _ fun i hi => by rw [full_bit]; simpa using hi
end Go.Proofs.Ytjklkphhfkdkpaa.Lk
end

section
/-
  The program's reachOf: the closure of a node.
-/
namespace Go.Proofs.Ytjklkphhfkdkpaa.Lk
open Go Go.RowKit Go.Proofs.YtjklkphhfkdkpaaW.PrintWords Go.Proofs.YtjklkphhfkdkpaaW.PrintLast Go.Proofs.YtjklkphhfkdkpaaW.PrintMore Go.Proofs.Ytjklkphhfkdkpaa.P Go.Proofs.Ytjklkphhfkdkpaa.Gw
set_option linter.unusedVariables false
set_option linter.unusedSimpArgs false
theorem reach_l1 {rows : List Nat} (hr : ∀ r ∈ rows, r < 32) (hl : rows.length ≤ 5) {s r : Nat} (hs : s < 32) : ∀ d u : Nat, u + d = rows.length → ∀ mm : Nat, mm < 32 →
    Ev (fun k => if ((stepL (rows.drop u) u s mm : Nat) : Int) = (s : Int) then some (s : Int) else impl_reachOf.l0 k (toI rows) ((stepL (rows.drop u) u s mm : Nat) : Int)) (r : Int) →
    Ev (fun k => impl_reachOf.l1 k (toI rows) (s : Int) (mm : Int) (toI rows) (rows.length : Int) (u : Int)) (r : Int) := by
  intro d
  induction d with
  | zero =>
    intro u hu mm hm h
    rw [List.drop_eq_nil_of_le (by omega)] at h
    refine Ev.step (fun k => ?_) h
    simp only [impl_reachOf.l1]
    rw [if_neg (by omega)]; rfl
  | succ d ih =>
    intro u hu mm hm h
    have hul : u < rows.length := by omega
    rw [List.drop_eq_getElem_cons hul, stepL] at h
    have hru := hr _ (List.getElem_mem hul)
    have hlt : (bif s.testBit u then mm ||| rows[u] else mm) < 32 := by
      cases s.testBit u
      · exact hm
      · exact Nat.or_lt_two_pow (n := 5) hm hru
    have hk := ih (u + 1) (by omega) _ hlt h
    refine Ev.step (fun k => ?_) hk
    simp only [impl_reachOf.l1]
    have hrd : rd (toI rows) (u : Int) = ((rows[u] : Nat) : Int) := by rw [rd_toI, List.getD_eq_getElem?_getD, List.getElem?_eq_getElem hul]; rfl
    rw [if_pos (by omega), if_pos (by omega), if_pos (by rw [toI_length]; omega), wrap_id (by omega) (by omega), hrd]
    cases ht : s.testBit u with
    | true => rw [if_pos ((bit_one (by omega) (by omega)).mpr ht), or_nat (by omega) (by omega)]; simp
    | false => rw [if_neg (by rw [bit_one (by omega) (by omega), ht]; simp)]; simp
theorem reach_l0 {rows : List Nat} (hr : ∀ r ∈ rows, r < 32) (hl : rows.length ≤ 5) : ∀ j s : Nat, s < 32 → 6 ≤ pc5 s + j →
    ∃ t : Nat, t < 32 ∧ Ev (fun k => impl_reachOf.l0 k (toI rows) (s : Int)) (t : Int) ∧ Gw.step rows t = t ∧ Gw.Sub s t ∧ ∀ c, Gw.step rows c = c → Gw.Sub s c → Gw.Sub t c := by
  intro j
  induction j with
  | zero => intro s hs hp; have := pc5_le s hs; omega
  | succ j ih =>
    intro s hs hp
    have h0 : stepL (rows.drop 0) 0 s s = Gw.step rows s := rfl
    by_cases e : Gw.step rows s = s
    · refine ⟨s, hs, ?_, e, Gw.Sub.refl s, fun c _ h => h⟩
      refine Ev.step (fun k => rfl) ?_
      simp only [impl_reachOf.l0, toI_length]
      exact reach_l1 hr hl hs rows.length 0 (by omega) s hs (by rw [h0, e]; simpa using Ev.now _)
    · have hlt := step_lt hr hs
      have hpc := pc5_lt s hs _ hlt (sub_step rows s).and (fun h => e h.symm)
      obtain ⟨t, t0, t1, t2, t3, t4⟩ := ih (Gw.step rows s) hlt (by omega)
      refine ⟨t, t0, ?_, t2, (sub_step rows s).trans t3, fun c hc hsc => t4 c hc ?_⟩
      · refine Ev.step (fun k => rfl) ?_
        simp only [impl_reachOf.l0, toI_length]
        refine reach_l1 hr hl hs rows.length 0 (by omega) s hs ?_
        rw [h0]
        simp only [if_neg (show ¬ ((Gw.step rows s : Nat) : Int) = (s : Int) by omega)]
        exact t1
      · have := step_mono rows hsc; rw [hc] at this; exact this
theorem reachOf_ev {m : Nat} (hm : m ≤ 5) {ds : Ed} (hd : InR m ds) {v : Nat} (hv : v < m) :
    Ev (fun k => impl_reachOf.f k (toI (rowsOf m ds)) (v : Int)) ((close (rowsOf m ds) (2 ^ v) : Nat) : Int) := by
  have hr : ∀ r ∈ rowsOf m ds, r < 32 := fun r h => pow5 hm (rowsOf_lt hd r h)
  have hs : 2 ^ v < 32 := pow5 hm (Nat.pow_lt_pow_right (by omega) hv)
  have hp : pc5 (2 ^ v) = 1 := pc5_pow v (by omega)
  obtain ⟨t, t0, t1, t2, t3, t4⟩ := reach_l0 hr (by rw [rowsOf_length]; exact hm) 5 (2 ^ v) hs (by omega)
  have : t = close (rowsOf m ds) (2 ^ v) :=
    Gw.Sub.antisymm (t4 _ (close_fix hr hs (by omega)) (sub_close _ _)) (close_sub t3 t2)
  subst this
  refine Ev.congr (fun k => ?_) t1
  unfold impl_reachOf.f
  rw [if_pos (by omega), shl_nat (by omega)]
end Go.Proofs.Ytjklkphhfkdkpaa.Lk
end

section
/-
  The program's partsBy.
-/
namespace Go.Proofs.Ytjklkphhfkdkpaa.Lk
open Go Go.RowKit Go.Proofs.YtjklkphhfkdkpaaW.PrintWords Go.Proofs.YtjklkphhfkdkpaaW.PrintLast Go.Proofs.YtjklkphhfkdkpaaW.PrintMore Go.Proofs.Ytjklkphhfkdkpaa.P Go.Proofs.Ytjklkphhfkdkpaa.Gw
set_option linter.unusedVariables false
set_option linter.unusedSimpArgs false
theorem parts_l1 {m : Nat} (hm : m ≤ 5) {ds : Ed} (hd : InR m ds) : ∀ d v : Nat, v + d = m → ∀ st : Nat × Nat, st.2 < 32 → st.1 ≤ v →
    Ev (fun k => impl_partsBy.l1 k (toI (rowsOf m ds)) (st.1 : Int) (st.2 : Int) (m : Int) (v : Int)) ((((List.range' v d).foldl (partsStep (rowsOf m ds)) st).1 : Nat) : Int) := by
  intro d
  induction d with
  | zero =>
    intro v hv st h1 h2
    refine Ev.step (f := fun _ => some (st.1 : Int)) (fun k => ?_) (Ev.now _)
    simp only [impl_partsBy.l1]; rw [if_neg (by omega)]
  | succ d ih =>
    intro v hv st h1 h2
    have hc := close_lt_n hm hd (v := v) (by omega)
    have hc32 := pow5 hm hc
    rw [List.range'_succ, List.foldl_cons]
    cases ht : st.2.testBit v with
    | true =>
      have hst : partsStep (rowsOf m ds) st v = st := by unfold partsStep; rw [ht]; rfl
      rw [hst]
      refine Ev.step (fun k => ?_) (ih (v + 1) (by omega) st h1 (by omega))
      simp only [impl_partsBy.l1]
      rw [if_pos (by omega), if_pos (by omega), if_neg (by rw [bit_zero (by omega) (by omega), ht]; simp), wrap_id (by omega) (by omega)]; simp
    | false =>
      have hst : partsStep (rowsOf m ds) st v = (st.1 + 1, st.2 ||| close (rowsOf m ds) (2 ^ v)) := by unfold partsStep; rw [ht]; rfl
      rw [hst]
      have hk := ih (v + 1) (by omega) (st.1 + 1, st.2 ||| close (rowsOf m ds) (2 ^ v)) (Nat.or_lt_two_pow (n := 5) h1 hc32) (by simp only; omega)
      refine Ev.step (fun k => rfl) ?_
      simp only [impl_partsBy.l1, if_pos (show (v : Int) < (m : Int) by omega), if_pos (show 0 ≤ (v : Int) by omega), if_pos ((bit_zero (show st.2 < 2 ^ 62 by omega) (show v ≤ 64 by omega)).mpr ht)]
      refine Ev.bind (reachOf_ev hm hd (by omega)) ?_
      simp only [or_nat (show st.2 < 2 ^ 62 by omega) (show close (rowsOf m ds) (2 ^ v) < 2 ^ 62 by omega), wrap_id (x := (v : Int) + 1) (by omega) (by omega), wrap_id (x := (st.1 : Int) + 1) (by omega) (by omega)]
      exact hk
theorem parts_l0 {m : Nat} {es : Ed} (hv : Valid m es) {s : Nat} (hs : s < 2 ^ 62) {r : Nat} (hr : Ev (fun k => impl_partsBy.l1 k (toI (rowsOf m (sym (sel es s)))) 0 0 (m : Int) 0) (r : Int)) : ∀ d i : Nat, i + d = es.length →
    Ev (fun k => impl_partsBy.l0 k (s : Int) (toI (rowsOf m (sym (sel (es.take i) s)))) (toS es) (es.length : Int) (i : Int)) (r : Int) := by
  have h10 := hv.len
  have h5 := hv.le
  intro d
  induction d with
  | zero =>
    intro i hi
    refine Ev.step (fun k => ?_) hr
    simp only [impl_partsBy.l0]
    rw [if_neg (by omega), List.take_of_length_le (by omega), toI_length, rowsOf_length]
  | succ d ih =>
    intro i hi
    have hk := ih (i + 1) (by omega)
    have hil : i < es.length := by omega
    rw [sel_take es s i hil] at hk
    have he := hv.inR _ (getD_mem (ds := es) hil)
    refine Ev.step (fun k => ?_) hk
    simp only [impl_partsBy.l0]
    rw [if_pos (by omega), if_pos (by omega), if_pos (by rw [toS_length]; omega), rd_S]
    cases ht : s.testBit i with
    | false =>
      rw [if_neg (by rw [bit_one (by omega) (by omega), ht]; simp), wrap_id (by omega) (by omega)]
      simp
    | true =>
      rw [if_pos ((bit_one (by omega) (by omega)).mpr ht)]
      have hR := sym_inR ((hv.take i).sel s).inR
      generalize hA : sym (sel (es.take i) s) = A at hR
      simp only [cond_true]
      rw [sym_append, hA]
      generalize hx : (es.getD i (0, 0)).1 = x at *
      generalize hy : (es.getD i (0, 0)).2 = y at *
      have hsingle : sym [es.getD i (0, 0)] = [(x, y), (y, x)] := by
        have : es.getD i (0, 0) = (x, y) := Prod.ext hx hy
        rw [this]; rfl
      rw [hsingle]
      have hR2 : InR m (A ++ [(x, y)]) := by
        intro e he2
        rcases List.mem_append.mp he2 with h | h
        · exact hR e h
        · have : e = (x, y) := by simpa using h
          subst this; exact he
      have hl1 := rows_small h5 hR x
      have hl2 := rows_small h5 hR2 y
      have e1 : rowsOf m (A ++ [(x, y)]) = (rowsOf m A).set x ((rowsOf m A).getD x 0 ||| 2 ^ y) := by
        simp only [rowsOf, List.foldl_append, List.foldl_cons, List.foldl_nil, addE]
      have e2 : rowsOf m (A ++ [(x, y), (y, x)]) = (rowsOf m (A ++ [(x, y)])).set y ((rowsOf m (A ++ [(x, y)])).getD y 0 ||| 2 ^ x) := by
        rw [show A ++ [(x, y), (y, x)] = (A ++ [(x, y)]) ++ [(y, x)] by simp]
        simp only [rowsOf, List.foldl_append, List.foldl_cons, List.foldl_nil, addE]
      have px : 2 ^ x < 2 ^ 62 := small (n := 5) (by omega) (Nat.pow_lt_pow_right (by omega) (by omega))
      have py : 2 ^ y < 2 ^ 62 := small (n := 5) (by omega) (Nat.pow_lt_pow_right (by omega) (by omega))
      rw [if_pos (by omega), if_pos (by rw [toI_length, rowsOf_length]; omega), if_pos (by omega), rd_toI, shl_nat (by omega), or_nat (by omega) py, Int.toNat_natCast, set_toI, ← e1]
      simp only [Option.bind_some]
      rw [if_pos (by rw [toI_length, rowsOf_length]; omega), rd_toI, shl_nat (by omega), or_nat (by omega) px, Int.toNat_natCast, set_toI, ← e2, wrap_id (by omega) (by omega)]
      simp
theorem partsBy_ev {m : Nat} {es : Ed} (hv : Valid m es) {s : Nat} (hs : s < 2 ^ 62) :
    Ev (fun k => impl_partsBy.f k (m : Int) (toS es) (s : Int)) ((ufF m (sel es s) : Nat) : Int) := by
  have h5 := hv.le
  have hR := sym_inR (hv.sel s).inR
  have h1 := parts_l1 h5 hR m 0 (by omega) (0, 0) (by decide) (by decide)
  rw [← List.range_eq_range'] at h1
  have h2 := parts_l0 hv hs (r := partsF m (sel es s)) h1 es.length 0 (by omega)
  rw [(parts_chk (hv.sel s)).1] at h2
  refine Ev.congr (fun k => ?_) h2
  unfold impl_partsBy.f
  rw [if_pos (by omega), if_pos (by omega), Int.toNat_natCast, repl_toI, toS_length]; rfl
end Go.Proofs.Ytjklkphhfkdkpaa.Lk
end

section
/-
  WayParts of the program: the number of parts of a graph.
-/
namespace Go.Proofs.Ytjklkphhfkdkpaa.Lk
open Go Go.RowKit Go.Proofs.YtjklkphhfkdkpaaW.PrintWords Go.Proofs.YtjklkphhfkdkpaaW.PrintLast Go.Proofs.YtjklkphhfkdkpaaW.PrintMore Go.Proofs.Ytjklkphhfkdkpaa.P Go.Proofs.Ytjklkphhfkdkpaa.Gw
set_option linter.unusedVariables false
set_option linter.unusedSimpArgs false
theorem wp_all {m : Nat} {es : Ed} (hv : Valid m es) : wrap64 (shl .i64 1 ((toS es).length : Int) - 1) = ((2 ^ es.length - 1 : Nat) : Int) := by
  have hp := pow_le hv.len
  have h0 := Nat.two_pow_pos es.length
  have h10 := hv.len
  rw [toS_length, shl_nat (by omega)]
  generalize 2 ^ es.length = p at *
  rw [wrap_id (by omega) (by omega)]; omega
theorem implWayParts_ev {m : Nat} {es : Ed} (hv : Valid m es) : Ev (fun k => impl_WayParts.f k (m : Int) (toS es)) (((ufF m es : Nat) : Int), true) := by
  have hp := pow_le hv.len
  unfold impl_WayParts.f
  refine Ev.bind (impl_wayGraph (by rw [toS_length]; have := hv.len; omega)) ?_
  rw [valid_gOk_iff hv]
  simp only [if_true, wp_all hv]
  have h := partsBy_ev hv (s := 2 ^ es.length - 1) (by omega)
  rw [sel_full] at h
  exact Ev.bind h (Ev.now _)
end Go.Proofs.Ytjklkphhfkdkpaa.Lk
end
