/-
  FnTrees: what the program's functions and the reference's compute, joined from several texts.
-/
import Derived.Test.YtjklkphhfkdkpaaOps
import Derived.Test.YtjklkphhfkdkpaaPx5
import Derived.Test.YtjklkphhfkdkpaaPx6
import Derived.Test.YtjklkphhfkdkpaaPx18
import Derived.Test.YtjklkphhfkdkpaaPx2
import Derived.Test.YtjklkphhfkdkpaaPx3
import Derived.Test.YtjklkphhfkdkpaaPx1
import Derived.Test.YtjklkphhfkdkpaaPx23
import Derived.Test.YtjklkphhfkdkpaaClo
import Derived.Test.YtjklkphhfkdkpaaPx7
import Derived.Test.YtjklkphhfkdkpaaPx82
import Derived.Test.YtjklkphhfkdkpaaCoreT
import Derived.Test.YtjklkphhfkdkpaaPx19
import Derived.Test.YtjklkphhfkdkpaaPx20
import Derived.Test.YtjklkphhfkdkpaaPx34
import Derived.Test.YtjklkphhfkdkpaaPx86
import Derived.Test.YtjklkphhfkdkpaaPx59
import Derived.Test.YtjklkphhfkdkpaaPx57
import Derived.Test.YtjklkphhfkdkpaaPx21
import Derived.Test.YtjklkphhfkdkpaaPx11
import Derived.Test.YtjklkphhfkdkpaaPx75
import Derived.Test.YtjklkphhfkdkpaaPx60
import Derived.Test.YtjklkphhfkdkpaaPx58
section
/-
  WayGraph, of the program and of the reference: both tell 'gOk', for every graph; what is a graph is a sublist of all pairs.
-/
namespace Go.Proofs.Ytjklkphhfkdkpaa.Lk
open Go Go.RowKit Go.Proofs.YtjklkphhfkdkpaaW.PrintWords Go.Proofs.YtjklkphhfkdkpaaW.PrintLast Go.Proofs.YtjklkphhfkdkpaaW.PrintMore Go.Proofs.Ytjklkphhfkdkpaa.P Go.Proofs.Ytjklkphhfkdkpaa.Gw
set_option linter.unusedVariables false
set_option linter.unusedSimpArgs false

/-- edges as Go has them -/
def toS (es : Ed) : List S37 := es.map fun e => (⟨(e.1 : Int), (e.2 : Int)⟩ : S37)
theorem toS_length (es : Ed) : (toS es).length = es.length := by simp [toS]
theorem rd_toS (es : Ed) (i : Nat) : rd_T37 (toS es) (i : Int) = ⟨((es.getD i (0, 0)).1 : Int), ((es.getD i (0, 0)).2 : Int)⟩ := by
  simp [rd_T37, toS, List.getD_eq_getElem?_getD]; cases es[i]? <;> simp [z37]

theorem l6In_eq (a b c : Int) : spec_l6In.f a b c = some (decide (b ≤ a) && decide (a ≤ c)) := by
  unfold spec_l6In.f
  by_cases h : a ≥ b
  · rw [if_pos h]; simp [show b ≤ a from h]
  · rw [if_neg h]; simp [show ¬ b ≤ a from h]

def badAt (n : Int) (xs : List S37) (i : Nat) : Bool := decide ((xs.getD i z37).f0 < 0) || decide ((xs.getD i z37).f0 ≥ (xs.getD i z37).f1) || decide ((xs.getD i z37).f1 ≥ n)
def backAt (xs : List S37) (i : Nat) : Bool := decide (0 < i) && (decide ((xs.getD i z37).f0 < (xs.getD (i - 1) z37).f0) || (decide ((xs.getD i z37).f0 = (xs.getD (i - 1) z37).f0) && decide ((xs.getD i z37).f1 ≤ (xs.getD (i - 1) z37).f1)))
def okFrom (n : Int) (xs : List S37) : Nat → Nat → Bool
  | 0, _ => true
  | d + 1, i => !badAt n xs i && !backAt xs i && okFrom n xs d (i + 1)
def gOk (n : Int) (xs : List S37) : Bool := decide (1 ≤ n) && decide (n ≤ 5) && okFrom n xs xs.length 0

theorem impl_j2 {n : Int} {xs : List S37} (hl : xs.length < 2 ^ 62) {d i : Nat} (hi : i + (d + 1) = xs.length)
    (ih : Ev (fun k => impl_WayGraph.l0 k xs (xs.length : Int) ((i + 1 : Nat) : Int) n xs) (okFrom n xs d (i + 1))) :
    Ev (fun k => impl_WayGraph.j2 k (i : Int) xs (xs.length : Int) (i : Int) (badAt n xs i) n xs (xs.getD i z37).f0 (xs.getD i z37).f1) (okFrom n xs (d + 1) i) := by
  have hw1 : wrap64 ((i : Int) + 1) = ((i + 1 : Nat) : Int) := by rw [wrap_id (by omega) (by omega)]; simp
  rw [okFrom]
  cases hb : badAt n xs i with
  | true => exact Ev.step (f := fun _ => some false) (fun k => by simp only [impl_WayGraph.j2]; rw [if_pos trivial]) (by simpa using Ev.now false)
  | false =>
    by_cases h0 : 0 < i
    · have hw : wrap64 ((i : Int) - 1) = ((i - 1 : Nat) : Int) := by rw [wrap_id (by omega) (by omega)]; omega
      have hr : rd_T37 xs ((i - 1 : Nat) : Int) = xs.getD (i - 1) z37 := by simp [rd_T37]
      by_cases c1 : (xs.getD i z37).f0 < (xs.getD (i - 1) z37).f0
      · have hbk : backAt xs i = true := by simp only [backAt, h0, c1]; rfl
        rw [hbk]
        exact Ev.step (f := fun _ => some false) (fun k => by
          simp only [impl_WayGraph.j2]; rw [if_neg (by simp), if_pos (by omega), hw, if_pos (by omega), if_pos (by omega), hr, if_pos c1]) (by simpa using Ev.now false)
      · by_cases c2 : (xs.getD i z37).f0 = (xs.getD (i - 1) z37).f0
        · by_cases c3 : (xs.getD i z37).f1 ≤ (xs.getD (i - 1) z37).f1
          · have hbk : backAt xs i = true := by simp only [backAt, h0, c2, c3]; simp
            rw [hbk]
            exact Ev.step (f := fun _ => some false) (fun k => by
              simp only [impl_WayGraph.j2]; rw [if_neg (by simp), if_pos (by omega), hw, if_pos (by omega), if_pos (by omega), hr, if_neg c1, if_pos c2, if_pos c3]) (by simpa using Ev.now false)
          · have hbk : backAt xs i = false := by simp only [backAt, c1, c3]; simp
            rw [hbk]
            refine Ev.step (f := fun k => impl_WayGraph.l0 k xs (xs.length : Int) ((i + 1 : Nat) : Int) n xs) (fun k => by
              simp only [impl_WayGraph.j2]; rw [if_neg (by simp), if_pos (by omega), hw, if_pos (by omega), if_pos (by omega), hr, if_neg c1, if_pos c2, if_neg c3, hw1]) (by simpa using ih)
        · have hbk : backAt xs i = false := by simp only [backAt, c1, c2]; simp
          rw [hbk]
          refine Ev.step (f := fun k => impl_WayGraph.l0 k xs (xs.length : Int) ((i + 1 : Nat) : Int) n xs) (fun k => by
            simp only [impl_WayGraph.j2]; rw [if_neg (by simp), if_pos (by omega), hw, if_pos (by omega), if_pos (by omega), hr, if_neg c1, if_neg c2, hw1]) (by simpa using ih)
    · have hbk : backAt xs i = false := by simp only [backAt, h0]; simp
      rw [hbk]
      refine Ev.step (f := fun k => impl_WayGraph.l0 k xs (xs.length : Int) ((i + 1 : Nat) : Int) n xs) (fun k => by
        simp only [impl_WayGraph.j2]; rw [if_neg (by simp), if_neg (by omega), hw1]) (by simpa using ih)
theorem impl_l0 {n : Int} {xs : List S37} (hl : xs.length < 2 ^ 62) : ∀ d i : Nat, i + d = xs.length →
    Ev (fun k => impl_WayGraph.l0 k xs (xs.length : Int) (i : Int) n xs) (okFrom n xs d i) := by
  intro d
  induction d with
  | zero => intro i hi; exact Ev.step (f := fun _ => some true) (fun k => by simp only [impl_WayGraph.l0]; rw [if_neg (by omega)]) (Ev.now true)
  | succ d ih =>
    intro i hi
    refine Ev.step (f := fun k => impl_WayGraph.j2 k (i : Int) xs (xs.length : Int) (i : Int) (badAt n xs i) n xs (xs.getD i z37).f0 (xs.getD i z37).f1) (fun k => ?_) (impl_j2 hl hi (ih (i + 1) (by omega)))
    have hr : rd_T37 xs (i : Int) = xs.getD i z37 := by simp [rd_T37]
    simp only [impl_WayGraph.l0]
    rw [if_pos (by omega), if_pos (by omega), if_pos (by omega), hr]
    unfold badAt
    by_cases c1 : (xs.getD i z37).f0 < 0
    · rw [if_pos c1, decide_eq_true c1]; rfl
    · rw [if_neg c1]
      by_cases c2 : (xs.getD i z37).f0 ≥ (xs.getD i z37).f1
      · rw [if_pos c2, decide_eq_true c2]; simp
      · rw [if_neg c2, decide_eq_false c1, decide_eq_false c2]; simp
theorem impl_wayGraph {n : Int} {xs : List S37} (hl : xs.length < 2 ^ 62) : Ev (fun k => impl_WayGraph.f k n xs) (gOk n xs) := by
  unfold gOk
  by_cases h1 : n < 1
  · rw [decide_eq_false (show ¬ 1 ≤ n by omega)]
    refine Ev.congr (f := fun k => impl_WayGraph.j0 k true n xs) (fun k => by unfold impl_WayGraph.f; rw [if_pos h1]) ?_
    exact Ev.step (f := fun _ => some false) (fun k => by simp only [impl_WayGraph.j0]; rw [if_pos trivial]) (Ev.now false)
  · rw [decide_eq_true (show 1 ≤ n by omega)]
    refine Ev.congr (f := fun k => impl_WayGraph.j0 k (decide (n > 5)) n xs) (fun k => by unfold impl_WayGraph.f; rw [if_neg h1]) ?_
    by_cases h2 : n > 5
    · rw [decide_eq_true h2, decide_eq_false (show ¬ n ≤ 5 by omega)]
      exact Ev.step (f := fun _ => some false) (fun k => by simp only [impl_WayGraph.j0]; rw [if_pos trivial]) (Ev.now false)
    · rw [decide_eq_false h2, decide_eq_true (show n ≤ 5 by omega)]
      refine Ev.step (f := fun k => impl_WayGraph.l0 k xs (xs.length : Int) ((0 : Nat) : Int) n xs) (fun k => by simp only [impl_WayGraph.j0]; rw [if_neg (by simp)]; rfl) ?_
      simpa using impl_l0 (n := n) hl xs.length 0 (by omega)

theorem spec_j1 {n : Int} {xs : List S37} (hl : xs.length < 2 ^ 62) {d i : Nat} (hi : i + (d + 1) = xs.length) (r : Bool)
    (ih : Ev (fun k => spec_WayGraph.l0 k ((i + 1 : Nat) : Int) n xs) r) :
    Ev (fun k => spec_WayGraph.j1 k (i : Int) false n xs (xs.getD i z37).f0 (xs.getD i z37).f1) (!backAt xs i && r) := by
  have hw1 : wrap64 ((i : Int) + 1) = ((i + 1 : Nat) : Int) := by rw [wrap_id (by omega) (by omega)]; simp
  by_cases h0 : 0 < i
  · have hw : wrap64 ((i : Int) - 1) = ((i - 1 : Nat) : Int) := by rw [wrap_id (by omega) (by omega)]; omega
    have hr : rd_T37 xs ((i - 1 : Nat) : Int) = xs.getD (i - 1) z37 := by simp [rd_T37]
    by_cases c1 : (xs.getD i z37).f0 < (xs.getD (i - 1) z37).f0
    · have hbk : backAt xs i = true := by simp only [backAt, h0, c1]; rfl
      rw [hbk]
      exact Ev.step (f := fun _ => some false) (fun k => by
        simp only [spec_WayGraph.j1]; rw [if_neg (by simp), if_pos (by omega), hw, if_pos (by omega), if_pos (by omega), hr, if_pos c1]) (by simpa using Ev.now false)
    · by_cases c2 : (xs.getD i z37).f0 = (xs.getD (i - 1) z37).f0
      · by_cases c3 : (xs.getD i z37).f1 ≤ (xs.getD (i - 1) z37).f1
        · have hbk : backAt xs i = true := by simp only [backAt, h0, c2, c3]; simp
          rw [hbk]
          exact Ev.step (f := fun _ => some false) (fun k => by
            simp only [spec_WayGraph.j1]; rw [if_neg (by simp), if_pos (by omega), hw, if_pos (by omega), if_pos (by omega), hr, if_neg c1, if_pos c2, if_pos c3]) (by simpa using Ev.now false)
        · have hbk : backAt xs i = false := by simp only [backAt, c1, c3]; simp
          rw [hbk]
          refine Ev.step (f := fun k => spec_WayGraph.l0 k ((i + 1 : Nat) : Int) n xs) (fun k => by
            simp only [spec_WayGraph.j1]; rw [if_neg (by simp), if_pos (by omega), hw, if_pos (by omega), if_pos (by omega), hr, if_neg c1, if_pos c2, if_neg c3, hw1]) (by simpa using ih)
      · have hbk : backAt xs i = false := by simp only [backAt, c1, c2]; simp
        rw [hbk]
        refine Ev.step (f := fun k => spec_WayGraph.l0 k ((i + 1 : Nat) : Int) n xs) (fun k => by
          simp only [spec_WayGraph.j1]; rw [if_neg (by simp), if_pos (by omega), hw, if_pos (by omega), if_pos (by omega), hr, if_neg c1, if_neg c2, hw1]) (by simpa using ih)
  · have hbk : backAt xs i = false := by simp only [backAt, h0]; simp
    rw [hbk]
    refine Ev.step (f := fun k => spec_WayGraph.l0 k ((i + 1 : Nat) : Int) n xs) (fun k => by
      simp only [spec_WayGraph.j1]; rw [if_neg (by simp), if_neg (by omega), hw1]) (by simpa using ih)
theorem spec_l0_step {n : Int} {xs : List S37} {i : Nat} (hi : i < xs.length) : ∃ b : Bool,
    (b = (!(decide (0 ≤ (xs.getD i z37).f0) && decide ((xs.getD i z37).f0 ≤ wrap64 (n - 1)) && (decide (wrap64 ((xs.getD i z37).f0 + 1) ≤ (xs.getD i z37).f1) && decide ((xs.getD i z37).f1 ≤ wrap64 (n - 1)))))) ∧
    ∀ k, spec_WayGraph.l0 (k + 1) (i : Int) n xs = spec_WayGraph.j1 k (i : Int) b n xs (xs.getD i z37).f0 (xs.getD i z37).f1 := by
  refine ⟨_, rfl, fun k => ?_⟩
  have hr : rd_T37 xs (i : Int) = xs.getD i z37 := by simp [rd_T37]
  simp only [spec_WayGraph.l0]
  rw [if_pos (by omega), if_pos (by omega), hr, l6In_eq, l6In_eq]
  simp only [Option.bind_some]
  cases (decide (0 ≤ (xs.getD i z37).f0) && decide ((xs.getD i z37).f0 ≤ wrap64 (n - 1))) <;> simp
theorem spec_l0_ok {n : Int} (h1 : 1 ≤ n) (h5 : n ≤ 5) {xs : List S37} (hl : xs.length < 2 ^ 62) : ∀ d i : Nat, i + d = xs.length →
    Ev (fun k => spec_WayGraph.l0 k (i : Int) n xs) (okFrom n xs d i) := by
  intro d
  induction d with
  | zero =>
    intro i hi
    exact Ev.step (f := fun _ => some true) (fun k => by simp only [spec_WayGraph.l0]; rw [if_neg (by omega), l6In_eq]; simp [h1, h5]) (Ev.now true)
  | succ d ih =>
    intro i hi
    obtain ⟨b, hb, hs⟩ := spec_l0_step (n := n) (xs := xs) (i := i) (by omega)
    have hbad : b = badAt n xs i := by
      rw [hb]; unfold badAt
      rw [wrap_id (x := n - 1) (by omega) (by omega)]
      by_cases c1 : 0 ≤ (xs.getD i z37).f0
      · by_cases c2 : (xs.getD i z37).f0 ≤ n - 1
        · rw [wrap_id (x := (xs.getD i z37).f0 + 1) (by omega) (by omega), decide_eq_true c1, decide_eq_true c2, decide_eq_false (show ¬ (xs.getD i z37).f0 < 0 by omega)]
          by_cases c3 : (xs.getD i z37).f0 + 1 ≤ (xs.getD i z37).f1
          · rw [decide_eq_true c3, decide_eq_false (show ¬ (xs.getD i z37).f0 ≥ (xs.getD i z37).f1 by omega)]
            by_cases c4 : (xs.getD i z37).f1 ≤ n - 1
            · rw [decide_eq_true c4, decide_eq_false (show ¬ (xs.getD i z37).f1 ≥ n by omega)]; rfl
            · rw [decide_eq_false c4, decide_eq_true (show (xs.getD i z37).f1 ≥ n by omega)]; rfl
          · rw [decide_eq_false c3, decide_eq_true (show (xs.getD i z37).f0 ≥ (xs.getD i z37).f1 by omega)]; rfl
        · rw [decide_eq_true c1, decide_eq_false c2]
          by_cases c3 : (xs.getD i z37).f0 ≥ (xs.getD i z37).f1
          · rw [decide_eq_true c3]; simp
          · rw [decide_eq_true (show (xs.getD i z37).f1 ≥ n by omega)]; simp
      · rw [decide_eq_false c1, decide_eq_true (show (xs.getD i z37).f0 < 0 by omega)]; simp
    refine Ev.step (f := fun k => spec_WayGraph.j1 k (i : Int) b n xs (xs.getD i z37).f0 (xs.getD i z37).f1) hs ?_
    rw [okFrom, hbad]
    cases badAt n xs i with
    | true => exact Ev.step (f := fun _ => some false) (fun k => by simp only [spec_WayGraph.j1]; rw [if_pos trivial]) (by simpa using Ev.now false)
    | false => simpa using spec_j1 hl hi _ (ih (i + 1) (by omega))
theorem spec_l0_no {n : Int} (hn : ¬ (1 ≤ n ∧ n ≤ 5)) {xs : List S37} (hl : xs.length < 2 ^ 62) : ∀ d i : Nat, i + d = xs.length →
    Ev (fun k => spec_WayGraph.l0 k (i : Int) n xs) false := by
  intro d
  induction d with
  | zero =>
    intro i hi
    exact Ev.step (f := fun _ => some false) (fun k => by
      simp only [spec_WayGraph.l0]; rw [if_neg (by omega), l6In_eq]
      have : (decide (1 ≤ n) && decide (n ≤ 5)) = false := by
        by_cases h : 1 ≤ n
        · rw [decide_eq_false (show ¬ n ≤ 5 by omega)]; simp
        · rw [decide_eq_false h]; rfl
      rw [this]; rfl) (Ev.now false)
  | succ d ih =>
    intro i hi
    obtain ⟨b, hb, hs⟩ := spec_l0_step (n := n) (xs := xs) (i := i) (by omega)
    refine Ev.step (f := fun k => spec_WayGraph.j1 k (i : Int) b n xs (xs.getD i z37).f0 (xs.getD i z37).f1) hs ?_
    cases b with
    | true => exact Ev.step (f := fun _ => some false) (fun k => by simp only [spec_WayGraph.j1]; rw [if_pos trivial]) (by simpa using Ev.now false)
    | false => simpa using spec_j1 hl hi _ (ih (i + 1) (by omega))
theorem spec_wayGraph {n : Int} {xs : List S37} (hl : xs.length < 2 ^ 62) : Ev (fun k => spec_WayGraph.f k n xs) (gOk n xs) := by
  refine Ev.congr (f := fun k => spec_WayGraph.l0 k ((0 : Nat) : Int) n xs) (fun k => rfl) ?_
  unfold gOk
  by_cases h : 1 ≤ n ∧ n ≤ 5
  · rw [decide_eq_true h.1, decide_eq_true h.2]
    simpa using spec_l0_ok h.1 h.2 hl xs.length 0 (by omega)
  · have : (decide (1 ≤ n) && decide (n ≤ 5)) = false := by
      by_cases h1 : 1 ≤ n
      · rw [decide_eq_false (show ¬ n ≤ 5 by omega)]; simp
      · rw [decide_eq_false h1]; rfl
    rw [this]
    exact spec_l0_no h hl xs.length 0 (by omega)

/-! what is a graph -/
def lexlt (a b : Nat × Nat) : Prop := a.1 < b.1 ∨ a.1 = b.1 ∧ a.2 < b.2
instance (a b : Nat × Nat) : Decidable (lexlt a b) := inferInstanceAs (Decidable (_ ∨ _ ∧ _))
theorem lexlt_irrefl (a : Nat × Nat) : ¬ lexlt a a := by unfold lexlt; omega
theorem lexlt_trans (a b c : Nat × Nat) (h : lexlt a b) (k : lexlt b c) : lexlt a c := by unfold lexlt at *; omega
/-- a graph: its edges are some of all pairs, in order -/
structure Valid (m : Nat) (es : Ed) : Prop where
  pos : 1 ≤ m
  le : m ≤ 5
  sub : es.Sublist (pairs m)

theorem okFrom_at {n : Int} {xs : List S37} : ∀ d i : Nat, okFrom n xs d i = true → ∀ j, i ≤ j → j < i + d → badAt n xs j = false ∧ backAt xs j = false := by
  intro d
  induction d with
  | zero => intro i _ j h1 h2; omega
  | succ d ih =>
    intro i h j h1 h2
    rw [okFrom] at h
    simp only [Bool.and_eq_true, Bool.not_eq_true'] at h
    by_cases e : j = i
    · subst e; exact h.1
    · exact ih (i + 1) h.2 j (by omega) (by omega)
theorem pairs_sorted : ∀ m, m ≤ 5 → (pairs m).Pairwise lexlt := by
  intro m hm
  exact (show ∀ m, m < 6 → (pairs m).Pairwise lexlt by decide) m (by omega)
theorem mem_pairs : ∀ m, m ≤ 5 → ∀ a b, a < b → b < m → (a, b) ∈ pairs m := by
  intro m hm a b h1 h2
  have key : ∀ m, m < 6 → ∀ b, b < m → ∀ a, a < b → (pairs m).contains (a, b) = true := by decide
  exact List.contains_iff_mem.mp (key m (by omega) b h2 a h1)
theorem pairs_mem : ∀ m, m < 6 → ∀ e ∈ pairs m, e.1 < e.2 ∧ e.2 < m := by decide
theorem pairs_length : ∀ m, m < 6 → (pairs m).length ≤ 10 := by decide
theorem gOk_valid {n : Int} {xs : List S37} (h : gOk n xs = true) : ∃ (m : Nat) (es : Ed), n = (m : Int) ∧ xs = toS es ∧ Valid m es := by
  unfold gOk at h
  simp only [Bool.and_eq_true, decide_eq_true_eq] at h
  obtain ⟨⟨h1, h5⟩, hok⟩ := h
  have hat := okFrom_at xs.length 0 hok
  obtain ⟨m, rfl⟩ := Int.eq_ofNat_of_zero_le (show 0 ≤ n by omega)
  have hb : ∀ j (hj : j < xs.length), 0 ≤ (xs[j]).f0 ∧ (xs[j]).f0 < (xs[j]).f1 ∧ (xs[j]).f1 < (m : Int) := by
    intro j hj
    have := (hat j (by omega) (by omega)).1
    simp only [badAt, List.getD_eq_getElem?_getD, List.getElem?_eq_getElem hj, Option.getD_some, Bool.or_eq_false_iff, decide_eq_false_iff_not] at this
    omega
  have hk : ∀ j (hj : j + 1 < xs.length), (xs[j]).f0 < (xs[j + 1]).f0 ∨ (xs[j]).f0 = (xs[j + 1]).f0 ∧ (xs[j]).f1 < (xs[j + 1]).f1 := by
    intro j hj
    have := (hat (j + 1) (by omega) (by omega)).2
    simp only [backAt, List.getD_eq_getElem?_getD, List.getElem?_eq_getElem hj, Nat.add_sub_cancel, List.getElem?_eq_getElem (show j < xs.length by omega), Option.getD_some, Bool.and_eq_false_iff, Bool.or_eq_false_iff, decide_eq_false_iff_not] at this
    omega
  refine ⟨m, xs.map fun e => (e.f0.toNat, e.f1.toNat), rfl, ?_, by omega, by omega, ?_⟩
  · apply List.ext_getElem (by simp [toS])
    intro j h2 h3
    have := hb j h2
    have e0 : ((xs[j]).f0.toNat : Int) = (xs[j]).f0 := by omega
    have e1 : ((xs[j]).f1.toNat : Int) = (xs[j]).f1 := by omega
    simp only [toS, List.getElem_map, e0, e1]
  · apply sublist_of_sorted lexlt lexlt_irrefl lexlt_trans _ _ (pairs_sorted m (by omega))
    · rw [List.pairwise_iff_getElem]
      have step : ∀ (c i : Nat) (hj : i + c + 1 < xs.length), lexlt ((xs[i]).f0.toNat, (xs[i]).f1.toNat) ((xs[i + c + 1]).f0.toNat, (xs[i + c + 1]).f1.toNat) := by
        intro c
        induction c with
        | zero =>
          intro i hj
          have a := hb i (by omega); have b := hb (i + 1) (by omega); have c := hk i (by omega)
          unfold lexlt; simp only [Nat.add_zero]; omega
        | succ c ih =>
          intro i hj
          refine lexlt_trans _ _ _ (ih i (by omega)) ?_
          have a := hb (i + c + 1) (by omega); have b := hb (i + c + 1 + 1) (by omega); have c' := hk (i + c + 1) (by omega)
          unfold lexlt; simp only [show i + (c + 1) + 1 = i + c + 1 + 1 by omega]; omega
      intro i j hi hj hij
      simp only [List.length_map] at hi hj
      have := step (j - i - 1) i (by omega)
      simp only [show i + (j - i - 1) + 1 = j by omega] at this
      simpa using this
    · intro x hx
      obtain ⟨e, he, rfl⟩ := List.mem_map.mp hx
      obtain ⟨j, hj, rfl⟩ := List.getElem_of_mem he
      have := hb j hj
      exact mem_pairs m (by omega) _ _ (by omega) (by omega)
namespace Valid
variable {m : Nat} {es : Ed}
theorem inR (h : Valid m es) : InR m es := fun e he => by
  have := pairs_mem m (by have := h.le; omega) e (h.sub.subset he); omega
theorem lt (h : Valid m es) : ∀ e ∈ es, e.1 < e.2 := fun e he => (pairs_mem m (by have := h.le; omega) e (h.sub.subset he)).1
theorem len (h : Valid m es) : es.length ≤ 10 := Nat.le_trans h.sub.length_le (pairs_length m (by have := h.le; omega))
theorem sorted (h : Valid m es) : es.Pairwise lexlt := List.Pairwise.sublist h.sub (pairs_sorted m h.le)
theorem nodup (h : Valid m es) : es.Nodup := List.Pairwise.imp (fun {a b} hab => by rintro rfl; exact lexlt_irrefl _ hab) h.sorted
end Valid
end Go.Proofs.Ytjklkphhfkdkpaa.Lk
end

section
/-
  What the laws' drawing of a graph comes to: some number of nodes from 1 to 5 and some list of edges.
-/
namespace Go.Proofs.Ytjklkphhfkdkpaa.Lk
open Go Go.RowKit Go.Proofs.YtjklkphhfkdkpaaW.PrintWords Go.Proofs.YtjklkphhfkdkpaaW.PrintLast Go.Proofs.YtjklkphhfkdkpaaW.PrintMore Go.Proofs.Ytjklkphhfkdkpaa.P Go.Proofs.Ytjklkphhfkdkpaa.Gw
set_option linter.unusedVariables false
set_option linter.unusedSimpArgs false

theorem wf_u8 {x : Int} (h : (Lit.int .u8 x).wf = true) : 0 ≤ x ∧ x ≤ 255 := by
  have h : (decide (IntKind.u8.min ≤ x) && decide (x ≤ IntKind.u8.max)) = true := h
  simp only [Bool.and_eq_true, decide_eq_true_eq] at h
  have a : IntKind.u8.min = 0 := by decide
  have b : IntKind.u8.max = 255 := by decide
  omega
/-- a code that is read -/
structure Cod (b : List Int) : Prop where
  len : b.length ≤ 2000
  byte : ∀ x ∈ b, 0 ≤ x ∧ x ≤ 255
theorem Cod.rd {b : List Int} (h : Cod b) (i : Int) : 0 ≤ rd b i ∧ rd b i ≤ 255 := by
  unfold Go.Proofs.YtjklkphhfkdkpaaW.PrintWords.rd
  rw [List.getD_eq_getElem?_getD]
  cases hx : b[i.toNat]? with
  | none => simp
  | some x => exact h.byte x (List.mem_of_getElem? hx)
theorem tmod_range {x n : Int} (hx : 0 ≤ x) (hn : 1 ≤ n) : 0 ≤ Int.tmod x n ∧ Int.tmod x n < n :=
  ⟨Int.tmod_nonneg _ hx, Int.tmod_lt_of_pos _ (by omega)⟩
theorem pick_ev {b : List Int} (h : Cod b) (p : Nat) (hp : p ≤ 1000000) (n : Int) : ∃ r : Int, 0 ≤ r ∧ (r < n ∨ r = 0) ∧ Ev (fun k => spec_l6Rd_pick.f k b (p : Int) n) (r, ((p + 1 : Nat) : Int)) := by
  have hw : wrap64 ((p : Int) + 1) = ((p + 1 : Nat) : Int) := by rw [wrap_id (by omega) (by omega)]; simp
  have hw1 : wrap64 (((p + 1 : Nat) : Int) - 1) = (p : Int) := by rw [wrap_id (by omega) (by omega)]; omega
  by_cases h1 : n < 1
  · refine ⟨0, by omega, .inr rfl, ?_⟩
    simp only [spec_l6Rd_pick.f, if_pos h1, hw]
    exact Ev.step (f := fun _ => some (0, ((p + 1 : Nat) : Int))) (fun k => by simp only [spec_l6Rd_pick.j0]; rw [if_pos trivial]) (Ev.now _)
  · by_cases h2 : b.length = 0
    · refine ⟨0, by omega, .inr rfl, ?_⟩
      have e : ((b.length : Int) == 0) = true := by rw [h2]; rfl
      simp only [spec_l6Rd_pick.f, if_neg h1, hw, e]
      exact Ev.step (f := fun _ => some (0, ((p + 1 : Nat) : Int))) (fun k => by simp only [spec_l6Rd_pick.j0]; rw [if_pos trivial]) (Ev.now _)
    · have e : ((b.length : Int) == 0) = false := by simpa using h2
      have hl := h.len
      by_cases h3 : (p : Int) < (b.length : Int)
      · have hr := h.rd (p : Int)
        have hx := tmod_range (x := wrap64 (rd b (p : Int))) (n := n) (by rw [wrap_id (by omega) (by omega)]; omega) (by omega)
        refine ⟨_, hx.1, .inl hx.2, ?_⟩
        simp only [spec_l6Rd_pick.f, if_neg h1, hw, e]
        refine Ev.step (f := fun _ => some (Int.tmod (wrap64 (rd b (p : Int))) n, ((p + 1 : Nat) : Int))) (fun k => ?_) (Ev.now _)
        simp only [spec_l6Rd_pick.j0, hw1]
        rw [if_neg (by simp), if_pos h3, if_pos (by omega), if_neg (by omega)]
      · have m1 := tmod_range (x := (p : Int)) (n := (b.length : Int)) (by omega) (by omega)
        have w7 : wrap64 (wrap64 ((p : Int) * 7) + 3) = (p : Int) * 7 + 3 := by rw [wrap_id (x := (p : Int) * 7) (by omega) (by omega), wrap_id (by omega) (by omega)]
        have m2 := tmod_range (x := (p : Int) * 7 + 3) (n := (b.length : Int)) (by omega) (by omega)
        have r1 := h.rd (Int.tmod (p : Int) (b.length : Int))
        have r2 := h.rd (Int.tmod ((p : Int) * 7 + 3) (b.length : Int))
        have q0 : 0 ≤ Int.tdiv (p : Int) (b.length : Int) ∧ Int.tdiv (p : Int) (b.length : Int) ≤ (p : Int) := by
          rw [Int.tdiv_eq_ediv_of_nonneg (by omega)]
          exact ⟨Int.ediv_nonneg (by omega) (by omega), Int.ediv_le_self _ (by omega)⟩
        generalize hA : rd b (Int.tmod (p : Int) (b.length : Int)) = A at r1
        generalize hB : rd b (Int.tmod ((p : Int) * 7 + 3) (b.length : Int)) = B at r2
        generalize hQ : Int.tdiv (p : Int) (b.length : Int) = Q at q0
        have wx : wrap64 (wrap64 (wrap64 (wrap64 (wrap64 A * 131) + wrap64 (wrap64 B * 1117)) + wrap64 ((p : Int) * 29)) + wrap64 (wrap64 Q * 53)) = A * 131 + B * 1117 + (p : Int) * 29 + Q * 53 := by
          rw [wrap_id (x := A) (by omega) (by omega), wrap_id (x := A * 131) (by omega) (by omega), wrap_id (x := B) (by omega) (by omega), wrap_id (x := B * 1117) (by omega) (by omega),
            wrap_id (x := (p : Int) * 29) (by omega) (by omega), wrap_id (x := Q) (by omega) (by omega), wrap_id (x := Q * 53) (by omega) (by omega), wrap_id (x := A * 131 + B * 1117) (by omega) (by omega),
            wrap_id (x := A * 131 + B * 1117 + (p : Int) * 29) (by omega) (by omega), wrap_id (by omega) (by omega)]
        obtain ⟨X, hX⟩ := Int.eq_ofNat_of_zero_le (show 0 ≤ A * 131 + B * 1117 + (p : Int) * 29 + Q * 53 by omega)
        have hXlt : X < 2 ^ 40 := by omega
        have wd : wrap64 (Int.tdiv (X : Int) 64) = ((X / 64 : Nat) : Int) := by
          rw [Int.tdiv_eq_ediv_of_nonneg (by omega)]
          rw [wrap_id (by omega) (by omega)]; simp
        have hxor : Go.bits .xor .i64 (X : Int) ((X / 64 : Nat) : Int) = ((X ^^^ (X / 64) : Nat) : Int) := xor_nat (by omega) (by omega)
        have m3 := tmod_range (x := ((X ^^^ (X / 64) : Nat) : Int)) (n := n) (by omega) (by omega)
        refine ⟨_, m3.1, .inl m3.2, ?_⟩
        simp only [spec_l6Rd_pick.f, if_neg h1, hw, e]
        refine Ev.step (f := fun _ => some (Int.tmod ((X ^^^ (X / 64) : Nat) : Int) n, ((p + 1 : Nat) : Int))) (fun k => ?_) (Ev.now _)
        simp only [spec_l6Rd_pick.j0, hw1, w7, hA, hB, hQ, wx, hX]
        rw [if_neg (by simp), if_neg h3, if_neg (by omega), if_pos m1.1, if_pos m1.2, if_pos m2.1, if_pos m2.2, if_neg (by omega), wd, hxor]

theorem open_ev {l : List Int} (hl : l.length ≤ 1048576) (hb : ∀ x ∈ l, (Lit.int .u8 x).wf = true) : ∃ b, Cod b ∧ spec_l6Open.f l = some (b, 0) := by
  have hb' : ∀ x ∈ l, 0 ≤ x ∧ x ≤ 255 := fun x hx => wf_u8 (hb x hx)
  unfold spec_l6Open.f
  by_cases h : (l.length : Int) > 2000
  · rw [if_pos h, if_pos (by omega)]
    exact ⟨_, ⟨by rw [List.length_take]; omega, fun x hx => hb' x (List.mem_of_mem_take hx)⟩, rfl⟩
  · rw [if_neg h]; exact ⟨_, ⟨by omega, hb'⟩, rfl⟩

/-- what a drawn graph is -/
structure Drawn (m : Nat) (xs : List S37) (p : Nat) : Prop where
  pos : 1 ≤ m
  le : m ≤ 5
  len : xs.length ≤ 100
  at_ : p ≤ 200
theorem graph_l {b : List Int} (h : Cod b) {m : Nat} (hm : m ≤ 5) (kind : Int) (hk : 0 ≤ kind) : ∀ (d a : Nat), a + d = m → ∀ (p : Nat) (xs : List S37), p + 5 * d ≤ 1000 → xs.length + 5 * d ≤ 1000 →
    ∃ (xs' : List S37) (p' : Nat), xs'.length ≤ xs.length + 5 * d + 1 ∧ p' ≤ p + 5 * d + 1 ∧ Ev (fun k => spec_l91Graph.l0 k (m : Int) kind (a : Int) b (p : Int) (m : Int) xs) ((m : Int), xs', (p' : Int)) := by
  intro d
  induction d with
  | zero =>
    intro a ha p xs hp hx
    obtain ⟨r, _, _, hr⟩ := pick_ev h p (by omega) 40
    by_cases h0 : r = 0
    · refine ⟨xs ++ [⟨wrap64 ((m : Int) - 1), 0⟩], p + 1, by simp, by omega, ?_⟩
      refine Ev.step (fun k => rfl) ?_
      simp only [spec_l91Graph.l0, if_neg (show ¬ (a : Int) < (m : Int) by omega)]
      refine Ev.bind hr ?_
      simp only [if_pos h0, if_pos (show xs.length < 8796093022208 by omega)]; exact Ev.now _
    · refine ⟨xs, p + 1, by omega, by omega, ?_⟩
      refine Ev.step (fun k => rfl) ?_
      simp only [spec_l91Graph.l0, if_neg (show ¬ (a : Int) < (m : Int) by omega)]
      refine Ev.bind hr ?_
      simp only [if_neg h0]; exact Ev.now _
  | succ d ih =>
    intro a ha p xs hp hx
    have inner : ∀ (e c : Nat), c + e = m → e ≤ 5 → ∀ (p : Nat) (xs : List S37), p + e + 5 * d ≤ 1000 → xs.length + e + 5 * d ≤ 1000 →
        ∃ (xs' : List S37) (p' : Nat), xs'.length ≤ xs.length + e + 5 * d + 1 ∧ p' ≤ p + e + 5 * d + 1 ∧ Ev (fun k => spec_l91Graph.l1 k (m : Int) kind (a : Int) (c : Int) b (p : Int) (m : Int) xs) ((m : Int), xs', (p' : Int)) := by
      intro e
      induction e with
      | zero =>
        intro c hc _ p xs hp hx
        obtain ⟨xs', p', h1, h2, h3⟩ := ih (a + 1) (by omega) p xs (by omega) (by omega)
        refine ⟨xs', p', by omega, by omega, ?_⟩
        refine Ev.step (f := fun k => spec_l91Graph.l0 k (m : Int) kind ((a + 1 : Nat) : Int) b (p : Int) (m : Int) xs) (fun k => ?_) h3
        simp only [spec_l91Graph.l1]
        rw [if_neg (by omega), wrap_id (by omega) (by omega)]; simp
      | succ e ihe =>
        intro c hc he p xs hp hx
        have hwc : wrap64 ((c : Int) + 1) = ((c + 1 : Nat) : Int) := by rw [wrap_id (by omega) (by omega)]; simp
        have hlt : (c : Int) < (m : Int) := by omega
        have hxl : xs.length < 8796093022208 := by omega
        obtain ⟨xa, pa, a1, a2, a3⟩ := ihe (c + 1) (by omega) (by omega) p (xs ++ [⟨(a : Int), (c : Int)⟩]) (by omega) (by simp; omega)
        obtain ⟨xb, pb, b1, b2, b3⟩ := ihe (c + 1) (by omega) (by omega) p xs (by omega) (by omega)
        obtain ⟨r, _, _, hr⟩ := pick_ev h p (by omega) 5
        obtain ⟨xc, pc, c1, c2, c3⟩ := ihe (c + 1) (by omega) (by omega) (p + 1) (xs ++ [⟨(a : Int), (c : Int)⟩]) (by omega) (by simp; omega)
        obtain ⟨xd, pd, d1, d2, d3⟩ := ihe (c + 1) (by omega) (by omega) (p + 1) xs (by omega) (by omega)
        simp only [List.length_append, List.length_singleton] at a1 c1
        have yes : ∃ (xs' : List S37) (p' : Nat), xs'.length ≤ xs.length + (e + 1) + 5 * d + 1 ∧ p' ≤ p + (e + 1) + 5 * d + 1 ∧ Ev (fun k => spec_l91Graph.l1 k (m : Int) kind (a : Int) (wrap64 ((c : Int) + 1)) b (p : Int) (m : Int) (xs ++ [⟨(a : Int), (c : Int)⟩])) ((m : Int), xs', (p' : Int)) :=
          ⟨xa, pa, by omega, by omega, by rw [hwc]; exact a3⟩
        have no : ∃ (xs' : List S37) (p' : Nat), xs'.length ≤ xs.length + (e + 1) + 5 * d + 1 ∧ p' ≤ p + (e + 1) + 5 * d + 1 ∧ Ev (fun k => spec_l91Graph.l1 k (m : Int) kind (a : Int) (wrap64 ((c : Int) + 1)) b (p : Int) (m : Int) xs) ((m : Int), xs', (p' : Int)) :=
          ⟨xb, pb, by omega, by omega, by rw [hwc]; exact b3⟩
        have pk : ∃ (xs' : List S37) (p' : Nat), xs'.length ≤ xs.length + (e + 1) + 5 * d + 1 ∧ p' ≤ p + (e + 1) + 5 * d + 1 ∧ Ev (fun k => (spec_l6Rd_pick.f k b (p : Int) 5).bind fun bt => if bt.1 > 1 then (if xs.length < 8796093022208 then spec_l91Graph.l1 k (m : Int) kind (a : Int) (wrap64 ((c : Int) + 1)) b bt.2 (m : Int) (xs ++ [⟨(a : Int), (c : Int)⟩]) else none) else spec_l91Graph.l1 k (m : Int) kind (a : Int) (wrap64 ((c : Int) + 1)) b bt.2 (m : Int) xs) ((m : Int), xs', (p' : Int)) := by
          by_cases hr1 : r > 1
          · refine ⟨xc, pc, by omega, by omega, Ev.bind hr ?_⟩
            simp only [if_pos hr1, if_pos hxl, hwc]; exact c3
          · refine ⟨xd, pd, by omega, by omega, Ev.bind hr ?_⟩
            simp only [if_neg hr1, hwc]; exact d3
        have fin : ∀ g : Nat → Option (Int × List S37 × Int), (∀ k, spec_l91Graph.l1 (k + 1) (m : Int) kind (a : Int) (c : Int) b (p : Int) (m : Int) xs = g k) →
            (∃ (xs' : List S37) (p' : Nat), xs'.length ≤ xs.length + (e + 1) + 5 * d + 1 ∧ p' ≤ p + (e + 1) + 5 * d + 1 ∧ Ev g ((m : Int), xs', (p' : Int))) →
            ∃ (xs' : List S37) (p' : Nat), xs'.length ≤ xs.length + (e + 1) + 5 * d + 1 ∧ p' ≤ p + (e + 1) + 5 * d + 1 ∧ Ev (fun k => spec_l91Graph.l1 k (m : Int) kind (a : Int) (c : Int) b (p : Int) (m : Int) xs) ((m : Int), xs', (p' : Int)) :=
          fun g hg ⟨xs', p', h1, h2, h3⟩ => ⟨xs', p', h1, h2, Ev.step hg h3⟩
        by_cases k0 : kind = 0
        · exact fin _ (fun k => by simp only [spec_l91Graph.l1]; rw [if_pos hlt, if_pos k0, if_pos hxl]) yes
        by_cases k1 : kind = 1
        · have k2 : ¬ kind > 1 := by omega
          by_cases c1 : (c : Int) = wrap64 ((a : Int) + 1)
          · exact fin _ (fun k => by simp only [spec_l91Graph.l1]; rw [if_pos hlt, if_neg k0, if_pos k1, if_pos c1, if_pos hxl]) yes
          · by_cases c2 : (a : Int) = 0
            · by_cases c3 : (c : Int) = wrap64 ((m : Int) - 1)
              · exact fin _ (fun k => by simp only [spec_l91Graph.l1]; rw [if_pos hlt, if_neg k0, if_pos k1, if_neg c1, if_pos c2, if_pos c3, if_pos hxl]) yes
              · exact fin _ (fun k => by simp only [spec_l91Graph.l1]; rw [if_pos hlt, if_neg k0, if_pos k1, if_neg c1, if_pos c2, if_neg c3, if_neg k2]) no
            · exact fin _ (fun k => by simp only [spec_l91Graph.l1]; rw [if_pos hlt, if_neg k0, if_pos k1, if_neg c1, if_neg c2, if_neg k2]) no
        · have k2 : kind > 1 := by omega
          exact fin _ (fun k => by simp only [spec_l91Graph.l1]; rw [if_pos hlt, if_neg k0, if_neg k1, if_pos k2]) pk
    by_cases hlt : a + 1 ≤ m
    · obtain ⟨xs', p', h1, h2, h3⟩ := inner (m - (a + 1)) (a + 1) (by omega) (by omega) p xs (by omega) (by omega)
      refine ⟨xs', p', by omega, by omega, ?_⟩
      refine Ev.step (f := fun k => spec_l91Graph.l1 k (m : Int) kind (a : Int) ((a + 1 : Nat) : Int) b (p : Int) (m : Int) xs) (fun k => ?_) h3
      simp only [spec_l91Graph.l0]
      rw [if_pos (by omega), wrap_id (by omega) (by omega)]; simp
    · omega
theorem graph_ev {b : List Int} (h : Cod b) : ∃ (m : Nat) (xs : List S37) (p : Nat), Drawn m xs p ∧ Ev (fun k => spec_l91Graph.f k b 0) ((m : Int), xs, (p : Int)) := by
  obtain ⟨r1, a1, b1, e1⟩ := pick_ev h 0 (by omega) 5
  obtain ⟨r2, a2, b2, e2⟩ := pick_ev h 1 (by omega) 4
  obtain ⟨r, rfl⟩ := Int.eq_ofNat_of_zero_le a1
  obtain ⟨xs', p', h1, h2, h3⟩ := graph_l h (m := 1 + r) (by omega) r2 a2 (1 + r) 0 (by omega) 2 [] (by omega) (by simp only [List.length_nil]; omega)
  simp only [List.length_nil] at h1
  refine ⟨1 + r, xs', p', ⟨by omega, by omega, by omega, by omega⟩, ?_⟩
  unfold spec_l91Graph.f
  refine Ev.bind e1 (Ev.bind e2 ?_)
  have hw : wrap64 (1 + (r : Int)) = ((1 + r : Nat) : Int) := by rw [wrap_id (by omega) (by omega)]; simp
  simp only [hw]; exact h3
theorem some_ev {l : List Int} (hl : l.length ≤ 1048576) (hb : ∀ x ∈ l, (Lit.int .u8 x).wf = true) : ∃ (m : Nat) (xs : List S37), 1 ≤ m ∧ m ≤ 5 ∧ xs.length < 2 ^ 62 ∧ Ev (fun k => spec_l91Some.f k l) ((m : Int), xs) := by
  obtain ⟨b, hc, ho⟩ := open_ev hl hb
  obtain ⟨m, xs, p, hd, he⟩ := graph_ev hc
  refine ⟨m, xs, hd.pos, hd.le, by have := hd.len; omega, ?_⟩
  unfold spec_l91Some.f
  simp only [ho, Option.bind_some]
  exact Ev.bind he (Ev.now _)
end Go.Proofs.Ytjklkphhfkdkpaa.Lk
end

section
/-
  WayIn, of the program and of the reference: both tell 'wIn'; the direction turned.
-/
namespace Go.Proofs.Ytjklkphhfkdkpaa.Lk
open Go Go.RowKit Go.Proofs.YtjklkphhfkdkpaaW.PrintWords Go.Proofs.YtjklkphhfkdkpaaW.PrintLast Go.Proofs.YtjklkphhfkdkpaaW.PrintMore Go.Proofs.Ytjklkphhfkdkpaa.P Go.Proofs.Ytjklkphhfkdkpaa.Gw
set_option linter.unusedVariables false
set_option linter.unusedSimpArgs false

/-- a direction of a graph -/
def wIn (n : Int) (xs : List S37) (o : Int) : Bool := gOk n xs && (decide (0 ≤ o) && decide (o < ((2 ^ xs.length : Nat) : Int)))
theorem gOk_len {n : Int} {xs : List S37} (h : gOk n xs = true) : xs.length ≤ 10 := by
  obtain ⟨m, es, _, rfl, hv⟩ := gOk_valid h
  rw [toS_length]; exact hv.len
theorem pow_le {l : Nat} (h : l ≤ 10) : 2 ^ l ≤ 1024 := Nat.pow_le_pow_right (n := 2) (j := 10) (by omega) h
theorem impl_wayIn {n o : Int} {xs : List S37} (hl : xs.length < 2 ^ 62) : Ev (fun k => impl_WayIn.f k n xs o) (wIn n xs o) := by
  unfold impl_WayIn.f wIn
  refine Ev.bind (impl_wayGraph hl) ?_
  cases hg : gOk n xs with
  | false => simpa using Ev.now false
  | true =>
    have h10 := gOk_len hg
    simp only [if_true, Bool.true_and, shl_nat (show xs.length ≤ 61 by omega)]
    by_cases h : o ≥ 0
    · simp only [if_pos h]; rw [decide_eq_true (show 0 ≤ o from h)]; exact Ev.now _
    · simp only [if_neg h]; rw [decide_eq_false (show ¬ 0 ≤ o from h)]; exact Ev.now _
theorem spec_wayIn {n o : Int} {xs : List S37} (hl : xs.length < 2 ^ 62) : Ev (fun k => spec_WayIn.f k n xs o) (wIn n xs o) := by
  unfold spec_WayIn.f wIn
  refine Ev.bind (spec_wayGraph hl) ?_
  cases hg : gOk n xs with
  | false => simpa using Ev.now false
  | true =>
    have h10 := gOk_len hg
    have hp := pow_le h10
    simp only [if_true, Bool.true_and, shl_nat (show xs.length ≤ 61 by omega)]
    generalize 2 ^ xs.length = p at hp
    rw [wrap_id (x := (p : Int) - 1) (by omega) (by omega)]
    simp only [l6In_eq, Option.bind_some]
    have : decide (o ≤ (p : Int) - 1) = decide (o < (p : Int)) := by rw [decide_eq_decide]; omega
    rw [this]; exact Ev.now _
theorem wIn_valid {n o : Int} {xs : List S37} (h : wIn n xs o = true) : ∃ (m : Nat) (es : Ed) (b : Nat), n = (m : Int) ∧ xs = toS es ∧ Valid m es ∧ o = (b : Int) ∧ b < 2 ^ es.length := by
  unfold wIn at h
  simp only [Bool.and_eq_true, decide_eq_true_eq] at h
  obtain ⟨m, es, rfl, rfl, hv⟩ := gOk_valid h.1
  obtain ⟨b, rfl⟩ := Int.eq_ofNat_of_zero_le h.2.1
  refine ⟨m, es, b, rfl, rfl, hv, rfl, ?_⟩
  have := h.2.2; rw [toS_length] at this
  exact Int.ofNat_lt.mp this
theorem valid_gOk_iff {m : Nat} {es : Ed} (hv : Valid m es) : gOk (m : Int) (toS es) = true := by
  unfold gOk
  have h1 := hv.pos; have h5 := hv.le
  rw [decide_eq_true (show 1 ≤ (m : Int) by omega), decide_eq_true (show (m : Int) ≤ 5 by omega)]
  have key : ∀ d i : Nat, i + d = (toS es).length → okFrom (m : Int) (toS es) d i = true := by
    intro d
    induction d with
    | zero => intro i _; rfl
    | succ d ih =>
      intro i hi
      rw [okFrom, ih (i + 1) (by omega)]
      rw [toS_length] at hi
      have hi' : i < es.length := by omega
      have g : ∀ j (hj : j < es.length), (toS es).getD j z37 = ⟨((es[j]).1 : Int), ((es[j]).2 : Int)⟩ := fun j hj => by
        simp [toS, List.getD_eq_getElem?_getD, List.getElem?_map, List.getElem?_eq_getElem hj]
      have hlt := hv.lt _ (List.getElem_mem hi')
      have hr := hv.inR _ (List.getElem_mem hi')
      have hb : badAt (m : Int) (toS es) i = false := by
        simp only [badAt, g i hi', Bool.or_eq_false_iff, decide_eq_false_iff_not]; omega
      have hk : backAt (toS es) i = false := by
        by_cases h0 : 0 < i
        · have hs := List.pairwise_iff_getElem.mp hv.sorted (i - 1) i (by omega) hi' (by omega)
          unfold lexlt at hs
          simp only [backAt, g i hi', g (i - 1) (by omega), Bool.and_eq_false_iff, Bool.or_eq_false_iff, decide_eq_false_iff_not]
          omega
        · simp [backAt, h0]
      rw [hb, hk]; rfl
  rw [key _ 0 (by omega)]; rfl
theorem wIn_iff {m : Nat} {es : Ed} (hv : Valid m es) (b : Nat) : wIn (m : Int) (toS es) (b : Int) = decide (b < 2 ^ es.length) := by
  unfold wIn; rw [valid_gOk_iff hv, toS_length, decide_eq_true (show (0 : Int) ≤ (b : Int) by omega), Bool.true_and, Bool.true_and, decide_eq_decide]
  exact Int.ofNat_lt
/-- turned: all bits the other way -/
def tn (l b : Nat) : Nat := 2 ^ l - 1 - b
theorem tn_lt {l b : Nat} : tn l b < 2 ^ l := by unfold tn; have := Nat.two_pow_pos l; omega
theorem tn_bit {l b : Nat} (h : b < 2 ^ l) (i : Nat) : (tn l b).testBit i = (decide (i < l) && !b.testBit i) := by
  unfold tn; rw [show 2 ^ l - 1 - b = 2 ^ l - (b + 1) by omega]; exact Nat.testBit_two_pow_sub_succ h i
theorem tn_xor {l b : Nat} (h : b < 2 ^ l) : b ^^^ (2 ^ l - 1) = tn l b := by
  apply Nat.eq_of_testBit_eq; intro i
  rw [tn_bit h, Nat.testBit_xor, full_bit]
  by_cases hi : i < l
  · simp [hi]
  · simp [hi, Nat.testBit_lt_two_pow (Nat.lt_of_lt_of_le h (Nat.pow_le_pow_right (n := 2) (by omega) (Nat.le_of_not_lt hi)))]
theorem tn_tn {l b : Nat} (h : b < 2 ^ l) : tn l (tn l b) = b := by unfold tn; omega
theorem dirs_tn : ∀ (es : Ed) (b : Nat), b < 2 ^ es.length → dirs es (tn es.length b) = rev (dirs es b) := by
  intro es b hb
  apply List.ext_getElem? ; intro i
  rw [rev, List.getElem?_map, dirs_get, dirs_get]
  cases h : es[i]? with
  | none => rfl
  | some e =>
    have hi : i < es.length := (List.getElem?_eq_some_iff.mp h).1
    simp only [Option.map_some, tn_bit hb, hi, decide_true, Bool.true_and]
    cases b.testBit i <;> rfl
end Go.Proofs.Ytjklkphhfkdkpaa.Lk
end

section
/-
  Directed edges of a graph and a direction: facts that both sides use.
-/
namespace Go.Proofs.Ytjklkphhfkdkpaa.Lk
open Go Go.RowKit Go.Proofs.YtjklkphhfkdkpaaW.PrintWords Go.Proofs.YtjklkphhfkdkpaaW.PrintLast Go.Proofs.YtjklkphhfkdkpaaW.PrintMore Go.Proofs.Ytjklkphhfkdkpaa.P Go.Proofs.Ytjklkphhfkdkpaa.Gw
set_option linter.unusedVariables false
set_option linter.unusedSimpArgs false
theorem dirs_inR {m : Nat} {es : Ed} (hv : InR m es) (b : Nat) : InR m (dirs es b) := by
  intro e he
  obtain ⟨i, hi⟩ := List.getElem?_of_mem he
  rw [dirs_get] at hi
  obtain ⟨x, hx, rfl⟩ := Option.map_eq_some_iff.mp hi
  have := hv x (List.mem_of_getElem? hx)
  cases b.testBit i <;> simp [this.1, this.2]
theorem take_inR {m : Nat} {ds : Ed} (h : InR m ds) (i : Nat) : InR m (ds.take i) := fun e he => h e (List.mem_of_mem_take he)
theorem dirs_getD {es : Ed} {b i : Nat} (hi : i < es.length) : (dirs es b).getD i (0, 0) = bif b.testBit i then ((es.getD i (0, 0)).2, (es.getD i (0, 0)).1) else es.getD i (0, 0) := by
  simp only [List.getD_eq_getElem?_getD, dirs_get, List.getElem?_eq_getElem hi, Option.map_some, Option.getD_some]
theorem take_snoc {ds : Ed} {i : Nat} (hi : i < ds.length) : ds.take (i + 1) = ds.take i ++ [ds.getD i (0, 0)] := by
  rw [List.take_succ_eq_append_getElem hi, List.getD_eq_getElem?_getD, List.getElem?_eq_getElem hi]; rfl
theorem getD_mem {ds : Ed} {i : Nat} (hi : i < ds.length) : ds.getD i (0, 0) ∈ ds := by
  rw [List.getD_eq_getElem?_getD, List.getElem?_eq_getElem hi]; exact List.getElem_mem hi
theorem dirs_nodup {m : Nat} {es : Ed} (hv : Valid m es) (b : Nat) : (dirs es b).Nodup := by
  have key : (dirs es b).map (fun e => if e.1 < e.2 then e else (e.2, e.1)) = es := by
    apply List.ext_getElem?; intro i
    rw [List.getElem?_map, dirs_get]
    cases h : es[i]? with
    | none => rfl
    | some e =>
      have := hv.lt e (List.mem_of_getElem? h)
      simp only [Option.map_some]
      cases b.testBit i
      · simp [this]
      · simp only [cond_true]; rw [if_neg (by omega)]
  have h2 := hv.nodup
  rw [← key] at h2
  have h3 := List.pairwise_map.mp h2
  exact List.Pairwise.imp (fun {a b} hab e => hab (by rw [e])) h3
theorem five {m : Nat} {es : Ed} (hv : Valid m es) : m ≤ 5 := hv.le
theorem rows_small {m : Nat} (hm : m ≤ 5) {ds : Ed} (hd : InR m ds) (u : Nat) : (rowsOf m ds).getD u 0 < 32 := by
  rw [List.getD_eq_getElem?_getD]
  cases h : (rowsOf m ds)[u]? with
  | none => simp
  | some r => exact pow5 hm (rowsOf_lt hd r (List.mem_of_getElem? h))
end Go.Proofs.Ytjklkphhfkdkpaa.Lk
end

section
/-
  impl.count, told by how many numbers do.
-/
namespace Go.Proofs.Ytjklkphhfkdkpaa.Lk
open Go Go.RowKit Go.Proofs.YtjklkphhfkdkpaaW.PrintWords Go.Proofs.YtjklkphhfkdkpaaW.PrintLast Go.Proofs.YtjklkphhfkdkpaaW.PrintMore Go.Proofs.Ytjklkphhfkdkpaa.P Go.Proofs.Ytjklkphhfkdkpaa.Gw
set_option linter.unusedVariables false
set_option linter.unusedSimpArgs false
theorem cntP_le (p : Nat → Bool) : ∀ n, cntP p n ≤ n
  | 0 => Nat.le_refl _
  | n + 1 => by
      have := cntP_le p n
      rw [cntP]; cases p n <;> simp <;> omega
theorem ev_all {g : Nat → Int → Option Bool} {p : Nat → Bool} : ∀ n : Nat, (∀ o : Nat, o < n → Ev (fun k => g k (o : Int)) (p o)) → ∃ K, ∀ k, K ≤ k → ∀ o : Nat, o < n → g k (o : Int) = some (p o)
  | 0, _ => ⟨0, fun k _ o h => absurd h (Nat.not_lt_zero o)⟩
  | n + 1, h => by
      obtain ⟨K1, h1⟩ := ev_all n (fun o ho => h o (by omega))
      obtain ⟨K2, h2⟩ := h n (by omega)
      refine ⟨max K1 K2, fun k hk o ho => ?_⟩
      by_cases e : o = n
      · subst e; exact h2 k (Nat.le_trans (Nat.le_max_right ..) hk)
      · exact h1 k (Nat.le_trans (Nat.le_max_left ..) hk) o (by omega)
theorem cntL_run {g : Int → Option Bool} {p : Nat → Bool} {n : Nat} (hn : n ≤ 1024) (h : ∀ o : Nat, o < n → g (o : Int) = some (p o)) : ∀ d x f : Nat, x + d = n → d < f → cntL g f (n : Int) ((cntP p x : Nat) : Int) (x : Int) = some ((cntP p n : Nat) : Int) := by
  intro d
  induction d with
  | zero =>
    intro x f hx hf
    obtain ⟨f, rfl⟩ : ∃ f', f = f' + 1 := ⟨f - 1, by omega⟩
    obtain rfl : x = n := by omega
    rw [cntL, if_neg (Int.lt_irrefl _)]
  | succ d ih =>
    intro x f hx hf
    obtain ⟨f, rfl⟩ : ∃ f', f = f' + 1 := ⟨f - 1, by omega⟩
    have hle := cntP_le p x
    have hk := ih (x + 1) f (by omega) (by omega)
    rw [cntP] at hk
    have hw1 : wrap64 ((x : Int) + 1) = ((x + 1 : Nat) : Int) := by rw [wrap_id (by omega) (by omega)]; simp
    have hw2 : wrap64 (((cntP p x : Nat) : Int) + 1) = ((1 + cntP p x : Nat) : Int) := by clear hw1; rw [wrap_id (by omega) (by omega)]; omega
    have g1 : (x : Int) < (n : Int) := by clear hw1 hw2; omega
    rw [cntL, if_pos g1, h x (by clear hw1 hw2; omega), Option.bind_some, hw1, hw2]
    cases hp : p x with
    | true => rw [hp] at hk; rw [if_pos rfl]; exact hk
    | false => rw [hp] at hk; rw [if_neg (by simp)]; simpa using hk
theorem cntL_ev {g : Nat → Int → Option Bool} {p : Nat → Bool} {n : Nat} (hn : n ≤ 1024) (h : ∀ o : Nat, o < n → Ev (fun k => g k (o : Int)) (p o)) : Ev (fun k => cntL (g k) k (n : Int) 0 0) ((cntP p n : Nat) : Int) := by
  obtain ⟨K, hK⟩ := ev_all n h
  refine ⟨max K (n + 1), fun k hk => ?_⟩
  exact cntL_run hn (hK k (Nat.le_trans (Nat.le_max_left ..) hk)) n 0 k (by omega) (by have := Nat.le_max_right K (n + 1); omega)
end Go.Proofs.Ytjklkphhfkdkpaa.Lk
end

section
/-
  Some edges of a graph, told by bits; the numbers of their parts, told two ways.
-/
namespace Go.Proofs.Ytjklkphhfkdkpaa.Lk
open Go Go.RowKit Go.Proofs.YtjklkphhfkdkpaaW.PrintWords Go.Proofs.YtjklkphhfkdkpaaW.PrintLast Go.Proofs.YtjklkphhfkdkpaaW.PrintMore Go.Proofs.Ytjklkphhfkdkpaa.P Go.Proofs.Ytjklkphhfkdkpaa.Gw
set_option linter.unusedVariables false
set_option linter.unusedSimpArgs false
theorem sel_take : ∀ (es : Ed) (s i : Nat) (hi : i < es.length), sel (es.take (i + 1)) s = sel (es.take i) s ++ (bif s.testBit i then [es.getD i (0, 0)] else [])
  | [], s, i, hi => by simp at hi
  | e :: es, s, 0, hi => by
      simp only [List.take_succ_cons, List.take_zero, sel, List.nil_append]
      cases s.testBit 0 <;> simp
  | e :: es, s, i + 1, hi => by
      have ih := sel_take es (s / 2) i (by simpa using hi)
      simp only [List.take_succ_cons, sel] at ih ⊢
      rw [ih, Nat.testBit_div_two]
      cases s.testBit 0 <;> simp
theorem sym_append : ∀ l l' : Ed, sym (l ++ l') = sym l ++ sym l'
  | [], l' => rfl
  | e :: l, l' => by simp [sym, sym_append l l']
theorem mem_sym {l : Ed} {a b : Nat} : (a, b) ∈ sym l ↔ ((a, b) ∈ l ∨ (b, a) ∈ l) := by
  induction l with
  | nil => simp [sym]
  | cons e l ih =>
    obtain ⟨x, y⟩ := e
    simp only [sym, List.mem_cons, ih, Prod.mk.injEq]
    constructor
    · rintro (h | h | h | h)
      · exact .inl (.inl h)
      · exact .inr (.inl ⟨h.2, h.1⟩)
      · exact .inl (.inr h)
      · exact .inr (.inr h)
    · rintro ((h | h) | (h | h))
      · exact .inl h
      · exact .inr (.inr (.inl h))
      · exact .inr (.inl ⟨h.2, h.1⟩)
      · exact .inr (.inr (.inr h))
theorem sym_inR {m : Nat} {l : Ed} (h : InR m l) : InR m (sym l) := by
  rintro ⟨a, b⟩ he
  rcases mem_sym.mp he with h1 | h1
  · exact h _ h1
  · have := h _ h1; exact ⟨this.2, this.1⟩
theorem Valid.sel {m : Nat} {es : Ed} (hv : Valid m es) (s : Nat) : Valid m (Gw.sel es s) := ⟨hv.pos, hv.le, (sel_sub es s).trans hv.sub⟩
theorem Valid.take {m : Nat} {es : Ed} (hv : Valid m es) (i : Nat) : Valid m (es.take i) := ⟨hv.pos, hv.le, (List.take_sublist i es).trans hv.sub⟩
/-- the two tellings of parts agree (reckoned for all graphs) -/
theorem parts_chk {m : Nat} {es : Ed} (hv : Valid m es) : partsF m es = ufF m es ∧ 1 ≤ ufF m es ∧ ufF m es ≤ m ∧ m ≤ ufF m es + es.length := by
  have h : chkParts m es = true := by
    have h1 := hv.pos; have h5 := hv.le
    rcases (show m = 1 ∨ m = 2 ∨ m = 3 ∨ m = 4 ∨ m = 5 by omega) with e | e | e | e | e <;> subst e
    · exact allSub_of _ _ parts1 _ hv.sub
    · exact allSub_of _ _ parts2 _ hv.sub
    · exact allSub_of _ _ parts3 _ hv.sub
    · exact allSub_of _ _ parts4 _ hv.sub
    · exact allSub_of _ _ parts5 _ hv.sub
  simp only [chkParts, Bool.and_eq_true, beq_iff_eq, Nat.ble_eq] at h
  exact ⟨h.1, h.2.1, h.2.2.1, h.2.2.2⟩
theorem rd_S {es : Ed} {i : Nat} : rd_T37 (toS es) (i : Int) = ⟨((es.getD i (0, 0)).1 : Int), ((es.getD i (0, 0)).2 : Int)⟩ := rd_toS es i
theorem sel_all {es : Ed} : ∀ s, (∀ i, i < es.length → s.testBit i = true) → sel es s = es := by
  induction es with
  | nil => intro s _; rfl
  | cons e es ih =>
    intro s h
    rw [sel, ih (s / 2) (fun i hi => by rw [Nat.testBit_div_two]; exact h (i + 1) (by simpa using hi)), h 0 (by simp)]; rfl
theorem sel_full (es : Ed) : sel es (2 ^ es.length - 1) = es := sel_all _ fun i hi => by rw [full_bit]; simpa using hi
end Go.Proofs.Ytjklkphhfkdkpaa.Lk
end

section
/-
  The program's reachOf: the closure of a node.
-/
namespace Go.Proofs.Ytjklkphhfkdkpaa.Lk
open Go Go.RowKit Go.Proofs.YtjklkphhfkdkpaaW.PrintWords Go.Proofs.YtjklkphhfkdkpaaW.PrintLast Go.Proofs.YtjklkphhfkdkpaaW.PrintMore Go.Proofs.Ytjklkphhfkdkpaa.P Go.Proofs.Ytjklkphhfkdkpaa.Gw
set_option linter.unusedVariables false
set_option linter.unusedSimpArgs false
theorem reach_l1 {rows : List Nat} (hr : ∀ r ∈ rows, r < 32) (hl : rows.length ≤ 5) {s r : Nat} (hs : s < 32) : ∀ d u : Nat, u + d = rows.length → ∀ mm : Nat, mm < 32 →
    Ev (fun k => if ((stepL (rows.drop u) u s mm : Nat) : Int) = (s : Int) then some (s : Int) else impl_reachOf.l0 k (toI rows) ((stepL (rows.drop u) u s mm : Nat) : Int)) (r : Int) →
    Ev (fun k => impl_reachOf.l1 k (toI rows) (s : Int) (mm : Int) (toI rows) (rows.length : Int) (u : Int)) (r : Int) := by
  intro d
  induction d with
  | zero =>
    intro u hu mm hm h
    rw [List.drop_eq_nil_of_le (by omega)] at h
    refine Ev.step (fun k => ?_) h
    simp only [impl_reachOf.l1]
    rw [if_neg (by omega)]; rfl
  | succ d ih =>
    intro u hu mm hm h
    have hul : u < rows.length := by omega
    rw [List.drop_eq_getElem_cons hul, stepL] at h
    have hru := hr _ (List.getElem_mem hul)
    have hlt : (bif s.testBit u then mm ||| rows[u] else mm) < 32 := by
      cases s.testBit u
      · exact hm
      · exact Nat.or_lt_two_pow (n := 5) hm hru
    have hk := ih (u + 1) (by omega) _ hlt h
    refine Ev.step (fun k => ?_) hk
    simp only [impl_reachOf.l1]
    have hrd : rd (toI rows) (u : Int) = ((rows[u] : Nat) : Int) := by rw [rd_toI, List.getD_eq_getElem?_getD, List.getElem?_eq_getElem hul]; rfl
    rw [if_pos (by omega), if_pos (by omega), if_pos (by rw [toI_length]; omega), wrap_id (by omega) (by omega), hrd]
    cases ht : s.testBit u with
    | true => rw [if_pos ((bit_one (by omega) (by omega)).mpr ht), or_nat (by omega) (by omega)]; simp
    | false => rw [if_neg (by rw [bit_one (by omega) (by omega), ht]; simp)]; simp
theorem reach_l0 {rows : List Nat} (hr : ∀ r ∈ rows, r < 32) (hl : rows.length ≤ 5) : ∀ j s : Nat, s < 32 → 6 ≤ pc5 s + j →
    ∃ t : Nat, t < 32 ∧ Ev (fun k => impl_reachOf.l0 k (toI rows) (s : Int)) (t : Int) ∧ Gw.step rows t = t ∧ Gw.Sub s t ∧ ∀ c, Gw.step rows c = c → Gw.Sub s c → Gw.Sub t c := by
  intro j
  induction j with
  | zero => intro s hs hp; have := pc5_le s hs; omega
  | succ j ih =>
    intro s hs hp
    have h0 : stepL (rows.drop 0) 0 s s = Gw.step rows s := rfl
    by_cases e : Gw.step rows s = s
    · refine ⟨s, hs, ?_, e, Gw.Sub.refl s, fun c _ h => h⟩
      refine Ev.step (fun k => rfl) ?_
      simp only [impl_reachOf.l0, toI_length]
      exact reach_l1 hr hl hs rows.length 0 (by omega) s hs (by rw [h0, e]; simpa using Ev.now _)
    · have hlt := step_lt hr hs
      have hpc := pc5_lt s hs _ hlt (sub_step rows s).and (fun h => e h.symm)
      obtain ⟨t, t0, t1, t2, t3, t4⟩ := ih (Gw.step rows s) hlt (by omega)
      refine ⟨t, t0, ?_, t2, (sub_step rows s).trans t3, fun c hc hsc => t4 c hc ?_⟩
      · refine Ev.step (fun k => rfl) ?_
        simp only [impl_reachOf.l0, toI_length]
        refine reach_l1 hr hl hs rows.length 0 (by omega) s hs ?_
        rw [h0]
        simp only [if_neg (show ¬ ((Gw.step rows s : Nat) : Int) = (s : Int) by omega)]
        exact t1
      · have := step_mono rows hsc; rw [hc] at this; exact this
theorem reachOf_ev {m : Nat} (hm : m ≤ 5) {ds : Ed} (hd : InR m ds) {v : Nat} (hv : v < m) :
    Ev (fun k => impl_reachOf.f k (toI (rowsOf m ds)) (v : Int)) ((close (rowsOf m ds) (2 ^ v) : Nat) : Int) := by
  have hr : ∀ r ∈ rowsOf m ds, r < 32 := fun r h => pow5 hm (rowsOf_lt hd r h)
  have hs : 2 ^ v < 32 := pow5 hm (Nat.pow_lt_pow_right (by omega) hv)
  have hp : pc5 (2 ^ v) = 1 := pc5_pow v (by omega)
  obtain ⟨t, t0, t1, t2, t3, t4⟩ := reach_l0 hr (by rw [rowsOf_length]; exact hm) 5 (2 ^ v) hs (by omega)
  have : t = close (rowsOf m ds) (2 ^ v) :=
    Gw.Sub.antisymm (t4 _ (close_fix hr hs (by omega)) (sub_close _ _)) (close_sub t3 t2)
  subst this
  refine Ev.congr (fun k => ?_) t1
  unfold impl_reachOf.f
  rw [if_pos (by omega), shl_nat (by omega)]
end Go.Proofs.Ytjklkphhfkdkpaa.Lk
end

section
/-
  The program's partsBy.
-/
namespace Go.Proofs.Ytjklkphhfkdkpaa.Lk
open Go Go.RowKit Go.Proofs.YtjklkphhfkdkpaaW.PrintWords Go.Proofs.YtjklkphhfkdkpaaW.PrintLast Go.Proofs.YtjklkphhfkdkpaaW.PrintMore Go.Proofs.Ytjklkphhfkdkpaa.P Go.Proofs.Ytjklkphhfkdkpaa.Gw
set_option linter.unusedVariables false
set_option linter.unusedSimpArgs false
theorem parts_l1 {m : Nat} (hm : m ≤ 5) {ds : Ed} (hd : InR m ds) : ∀ d v : Nat, v + d = m → ∀ st : Nat × Nat, st.2 < 32 → st.1 ≤ v →
    Ev (fun k => impl_partsBy.l1 k (toI (rowsOf m ds)) (st.1 : Int) (st.2 : Int) (m : Int) (v : Int)) ((((List.range' v d).foldl (partsStep (rowsOf m ds)) st).1 : Nat) : Int) := by
  intro d
  induction d with
  | zero =>
    intro v hv st h1 h2
    refine Ev.step (f := fun _ => some (st.1 : Int)) (fun k => ?_) (Ev.now _)
    simp only [impl_partsBy.l1]; rw [if_neg (by omega)]
  | succ d ih =>
    intro v hv st h1 h2
    have hc := close_lt_n hm hd (v := v) (by omega)
    have hc32 := pow5 hm hc
    rw [List.range'_succ, List.foldl_cons]
    cases ht : st.2.testBit v with
    | true =>
      have hst : partsStep (rowsOf m ds) st v = st := by unfold partsStep; rw [ht]; rfl
      rw [hst]
      refine Ev.step (fun k => ?_) (ih (v + 1) (by omega) st h1 (by omega))
      simp only [impl_partsBy.l1]
      rw [if_pos (by omega), if_pos (by omega), if_neg (by rw [bit_zero (by omega) (by omega), ht]; simp), wrap_id (by omega) (by omega)]; simp
    | false =>
      have hst : partsStep (rowsOf m ds) st v = (st.1 + 1, st.2 ||| close (rowsOf m ds) (2 ^ v)) := by unfold partsStep; rw [ht]; rfl
      rw [hst]
      have hk := ih (v + 1) (by omega) (st.1 + 1, st.2 ||| close (rowsOf m ds) (2 ^ v)) (Nat.or_lt_two_pow (n := 5) h1 hc32) (by simp only; omega)
      refine Ev.step (fun k => rfl) ?_
      simp only [impl_partsBy.l1, if_pos (show (v : Int) < (m : Int) by omega), if_pos (show 0 ≤ (v : Int) by omega), if_pos ((bit_zero (show st.2 < 2 ^ 62 by omega) (show v ≤ 64 by omega)).mpr ht)]
      refine Ev.bind (reachOf_ev hm hd (by omega)) ?_
      simp only [or_nat (show st.2 < 2 ^ 62 by omega) (show close (rowsOf m ds) (2 ^ v) < 2 ^ 62 by omega), wrap_id (x := (v : Int) + 1) (by omega) (by omega), wrap_id (x := (st.1 : Int) + 1) (by omega) (by omega)]
      exact hk
theorem parts_l0 {m : Nat} {es : Ed} (hv : Valid m es) {s : Nat} (hs : s < 2 ^ 62) {r : Nat} (hr : Ev (fun k => impl_partsBy.l1 k (toI (rowsOf m (sym (sel es s)))) 0 0 (m : Int) 0) (r : Int)) : ∀ d i : Nat, i + d = es.length →
    Ev (fun k => impl_partsBy.l0 k (s : Int) (toI (rowsOf m (sym (sel (es.take i) s)))) (toS es) (es.length : Int) (i : Int)) (r : Int) := by
  have h10 := hv.len
  have h5 := hv.le
  intro d
  induction d with
  | zero =>
    intro i hi
    refine Ev.step (fun k => ?_) hr
    simp only [impl_partsBy.l0]
    rw [if_neg (by omega), List.take_of_length_le (by omega), toI_length, rowsOf_length]
  | succ d ih =>
    intro i hi
    have hk := ih (i + 1) (by omega)
    have hil : i < es.length := by omega
    rw [sel_take es s i hil] at hk
    have he := hv.inR _ (getD_mem (ds := es) hil)
    refine Ev.step (fun k => ?_) hk
    simp only [impl_partsBy.l0]
    rw [if_pos (by omega), if_pos (by omega), if_pos (by rw [toS_length]; omega), rd_S]
    cases ht : s.testBit i with
    | false =>
      rw [if_neg (by rw [bit_one (by omega) (by omega), ht]; simp), wrap_id (by omega) (by omega)]
      simp
    | true =>
      rw [if_pos ((bit_one (by omega) (by omega)).mpr ht)]
      have hR := sym_inR ((hv.take i).sel s).inR
      generalize hA : sym (sel (es.take i) s) = A at hR
      simp only [cond_true]
      rw [sym_append, hA]
      generalize hx : (es.getD i (0, 0)).1 = x at *
      generalize hy : (es.getD i (0, 0)).2 = y at *
      have hsingle : sym [es.getD i (0, 0)] = [(x, y), (y, x)] := by
        have : es.getD i (0, 0) = (x, y) := Prod.ext hx hy
        rw [this]; rfl
      rw [hsingle]
      have hR2 : InR m (A ++ [(x, y)]) := by
        intro e he2
        rcases List.mem_append.mp he2 with h | h
        · exact hR e h
        · have : e = (x, y) := by simpa using h
          subst this; exact he
      have hl1 := rows_small h5 hR x
      have hl2 := rows_small h5 hR2 y
      have e1 : rowsOf m (A ++ [(x, y)]) = (rowsOf m A).set x ((rowsOf m A).getD x 0 ||| 2 ^ y) := by
        simp only [rowsOf, List.foldl_append, List.foldl_cons, List.foldl_nil, addE]
      have e2 : rowsOf m (A ++ [(x, y), (y, x)]) = (rowsOf m (A ++ [(x, y)])).set y ((rowsOf m (A ++ [(x, y)])).getD y 0 ||| 2 ^ x) := by
        rw [show A ++ [(x, y), (y, x)] = (A ++ [(x, y)]) ++ [(y, x)] by simp]
        simp only [rowsOf, List.foldl_append, List.foldl_cons, List.foldl_nil, addE]
      have px : 2 ^ x < 2 ^ 62 := small (n := 5) (by omega) (Nat.pow_lt_pow_right (by omega) (by omega))
      have py : 2 ^ y < 2 ^ 62 := small (n := 5) (by omega) (Nat.pow_lt_pow_right (by omega) (by omega))
      rw [if_pos (by omega), if_pos (by rw [toI_length, rowsOf_length]; omega), if_pos (by omega), rd_toI, shl_nat (by omega), or_nat (by omega) py, Int.toNat_natCast, set_toI, ← e1]
      simp only [Option.bind_some]
      rw [if_pos (by rw [toI_length, rowsOf_length]; omega), rd_toI, shl_nat (by omega), or_nat (by omega) px, Int.toNat_natCast, set_toI, ← e2, wrap_id (by omega) (by omega)]
      simp
theorem partsBy_ev {m : Nat} {es : Ed} (hv : Valid m es) {s : Nat} (hs : s < 2 ^ 62) :
    Ev (fun k => impl_partsBy.f k (m : Int) (toS es) (s : Int)) ((ufF m (sel es s) : Nat) : Int) := by
  have h5 := hv.le
  have hR := sym_inR (hv.sel s).inR
  have h1 := parts_l1 h5 hR m 0 (by omega) (0, 0) (by decide) (by decide)
  rw [← List.range_eq_range'] at h1
  have h2 := parts_l0 hv hs (r := partsF m (sel es s)) h1 es.length 0 (by omega)
  rw [(parts_chk (hv.sel s)).1] at h2
  refine Ev.congr (fun k => ?_) h2
  unfold impl_partsBy.f
  rw [if_pos (by omega), if_pos (by omega), Int.toNat_natCast, repl_toI, toS_length]; rfl
end Go.Proofs.Ytjklkphhfkdkpaa.Lk
end

section
/-
  math/bits.OnesCount, at numbers below 1024: how many bits are 1.
-/
namespace Go.Proofs.Ytjklkphhfkdkpaa.Lk
open Go Go.RowKit Go.Proofs.YtjklkphhfkdkpaaW.PrintWords Go.Proofs.YtjklkphhfkdkpaaW.PrintLast Go.Proofs.YtjklkphhfkdkpaaW.PrintMore Go.Proofs.Ytjklkphhfkdkpaa.P Go.Proofs.Ytjklkphhfkdkpaa.Gw
set_option linter.unusedVariables false
set_option linter.unusedSimpArgs false
def popc (s : Nat) : Nat := s % 2 + s / 2 % 2 + s / 4 % 2 + s / 8 % 2 + s / 16 % 2 + s / 32 % 2 + s / 64 % 2 + s / 128 % 2 + s / 256 % 2 + s / 512 % 2
def onesOk (s : Nat) : Bool := match bits_OnesCount.f (s : Int) with
  | some r => r == (popc s : Int)
  | none => false
theorem ones_all : ∀ s, s < 1024 → onesOk s = true := by decide +kernel
theorem ones_eq {s : Nat} (h : s < 1024) : bits_OnesCount.f (s : Int) = some (popc s : Int) := by
  have := ones_all s h
  unfold onesOk at this
  cases hr : bits_OnesCount.f (s : Int) with
  | none => rw [hr] at this; cases this
  | some r => rw [hr] at this; simp only [beq_iff_eq] at this; rw [this]
end Go.Proofs.Ytjklkphhfkdkpaa.Lk
end

section
/-
  The program's isForest and what ScoreTrees asks of a set of edges.
-/
namespace Go.Proofs.Ytjklkphhfkdkpaa.Lk
open Go Go.RowKit Go.Proofs.YtjklkphhfkdkpaaW.PrintWords Go.Proofs.YtjklkphhfkdkpaaW.PrintLast Go.Proofs.YtjklkphhfkdkpaaW.PrintMore Go.Proofs.Ytjklkphhfkdkpaa.P Go.Proofs.Ytjklkphhfkdkpaa.Gw
set_option linter.unusedVariables false
set_option linter.unusedSimpArgs false
def forestF (m : Nat) (es : Ed) (s : Nat) : Bool := decide (ufF m (sel es s) + popc s = m)
def treeF (m : Nat) (es : Ed) (s : Nat) : Bool := forestF m es s && decide (ufF m (sel es s) = ufF m es)
theorem popc_le : ∀ s, s < 1024 → popc s ≤ 10 := by decide +kernel
theorem isForest_ev {m : Nat} {es : Ed} (hv : Valid m es) {s : Nat} (hs : s < 2 ^ es.length) : Ev (fun k => impl_isForest.f k (m : Int) (toS es) (s : Int)) (forestF m es s) := by
  have h10 := hv.len
  have hp := pow_le h10
  have h5 := hv.le
  obtain ⟨_, p1, p2, p3⟩ := parts_chk (hv.sel s)
  have hpc := popc_le s (by omega)
  unfold impl_isForest.f
  refine Ev.bind (partsBy_ev hv (s := s) (by omega)) ?_
  have hu : IntKind.u64.wrap (s : Int) = (s : Int) := by
    have : s < 1024 := by omega
    clear hp hs p1 p2 p3 hpc
    exact (show ∀ x : Nat, x < 1024 → IntKind.u64.wrap (x : Int) = (x : Int) by decide +kernel) s this
  have hon := ones_eq (s := s) (by omega)
  simp only [hu, hon, Option.bind_some]
  have hw : wrap64 (((ufF m (sel es s) : Nat) : Int) + ((popc s : Nat) : Int)) = ((ufF m (sel es s) + popc s : Nat) : Int) := by clear hu; rw [wrap_id (by omega) (by omega)]; simp
  rw [hw]
  have : ((((ufF m (sel es s) + popc s : Nat) : Int)) == (m : Int)) = forestF m es s := by
    clear hw hu; rw [forestF, Bool.eq_iff_iff, beq_iff_eq, decide_eq_true_eq]; omega
  rw [this]; exact Ev.now _
theorem treesX_ev {m : Nat} {es : Ed} (hv : Valid m es) {s : Nat} (hs : s < 2 ^ es.length) : Ev (fun k => impl_ScoreTreesX.f k (s : Int) (m : Int) (toS es) ((ufF m es : Nat) : Int)) (treeF m es s) := by
  have h10 := hv.len
  have hp := pow_le h10
  unfold impl_ScoreTreesX.f
  refine Ev.bind (isForest_ev hv hs) ?_
  cases hf : forestF m es s with
  | false => simp only [Bool.false_eq_true, if_false, treeF, hf, Bool.false_and]; exact Ev.now _
  | true =>
    simp only [if_true]
    refine Ev.bind (partsBy_ev hv (s := s) (by omega)) ?_
    have : (((ufF m (sel es s) : Nat) : Int) == ((ufF m es : Nat) : Int)) = treeF m es s := by
      rw [treeF, hf, Bool.true_and, Bool.eq_iff_iff, beq_iff_eq, decide_eq_true_eq]; omega
    rw [this]; exact Ev.now _
end Go.Proofs.Ytjklkphhfkdkpaa.Lk
end

section
/-
  The reference's l1Parts.
-/
namespace Go.Proofs.Ytjklkphhfkdkpaa.Lk
open Go Go.RowKit Go.Proofs.YtjklkphhfkdkpaaW.PrintWords Go.Proofs.YtjklkphhfkdkpaaW.PrintLast Go.Proofs.YtjklkphhfkdkpaaW.PrintMore Go.Proofs.Ytjklkphhfkdkpaa.P Go.Proofs.Ytjklkphhfkdkpaa.Gw
set_option linter.unusedVariables false
set_option linter.unusedSimpArgs false
def ufOn (m : Nat) (l : Ed) : Nat × List Nat := l.foldl ufStep (m, List.range m)
theorem ufStep_len (st : Nat × List Nat) (e : Nat × Nat) : (ufStep st e).2.length = st.2.length := by
  unfold ufStep; cases st.2.getD e.1 0 == st.2.getD e.2 0 <;> simp
theorem ufOn_len (m : Nat) (l : Ed) : (ufOn m l).2.length = m := by
  have : ∀ (l : Ed) (st : Nat × List Nat), (l.foldl ufStep st).2.length = st.2.length := by
    intro l; induction l with
    | nil => intro st; rfl
    | cons e l ih => intro st; rw [List.foldl_cons, ih, ufStep_len]
  rw [ufOn, this]; simp
theorem uf_l2 {n : Int} {m : Nat} (hm : m ≤ 5) (xs : List S37) (s q i : Int) (a b : Nat) {r : Int} {at0 : List Nat} (hl : at0.length = m)
    (hr : Ev (fun k => spec_l1Parts.l1 k s (toI (at0.map fun x => bif x == b then a else x)) q (wrap64 (i + 1)) (m : Int) xs) r) : ∀ d v : Nat, v + d = m →
    Ev (fun k => spec_l1Parts.l2 k s (toI ((at0.take v).map (fun x => bif x == b then a else x) ++ at0.drop v)) q i (a : Int) (b : Int) (v : Int) (m : Int) xs) r := by
  intro d
  induction d with
  | zero =>
    intro v hv
    refine Ev.step (fun k => ?_) hr
    simp only [spec_l1Parts.l2]
    rw [if_neg (by omega), List.take_of_length_le (by omega), List.drop_eq_nil_of_le (by omega), List.append_nil]
  | succ d ih =>
    intro v hv
    have hvl : v < at0.length := by omega
    have hlen : ((at0.take v).map (fun x => bif x == b then a else x)).length = v := by simp; omega
    refine Ev.step (fun k => ?_) (ih (v + 1) (by omega))
    have hg : ((at0.take v).map (fun x => bif x == b then a else x) ++ at0.drop v).getD v 0 = at0[v] := by
      rw [List.getD_eq_getElem?_getD, List.getElem?_append_right (by omega), hlen, Nat.sub_self, List.drop_eq_getElem_cons hvl]; rfl
    have hset : ∀ y, ((at0.take v).map (fun x => bif x == b then a else x) ++ at0.drop v).set v y = (at0.take v).map (fun x => bif x == b then a else x) ++ [y] ++ at0.drop (v + 1) := by
      intro y
      rw [List.set_append_right v _ (by omega), hlen, Nat.sub_self, List.drop_eq_getElem_cons hvl, List.set_cons_zero]; simp
    have hnext : (at0.take (v + 1)).map (fun x => bif x == b then a else x) ++ at0.drop (v + 1) = (at0.take v).map (fun x => bif x == b then a else x) ++ [bif at0[v] == b then a else at0[v]] ++ at0.drop (v + 1) := by
      rw [List.take_succ_eq_append_getElem hvl, List.map_append]; rfl
    simp only [spec_l1Parts.l2]
    rw [if_pos (by omega), if_pos (by omega), if_pos (by rw [toI_length, List.length_append, hlen, List.length_drop]; omega), rd_toI, hg, wrap_id (x := (v : Int) + 1) (by omega) (by omega), hnext]
    by_cases e : at0[v] = b
    · rw [if_pos (by omega), Int.toNat_natCast, set_toI, hset, e]; simp
    · rw [if_neg (by omega), show (at0[v] == b) = false by simpa using e]
      have : (at0.take v).map (fun x => bif x == b then a else x) ++ at0.drop v = (at0.take v).map (fun x => bif x == b then a else x) ++ [at0[v]] ++ at0.drop (v + 1) := by
        rw [List.drop_eq_getElem_cons hvl]; simp
      rw [this]; simp
theorem uf_l1 {m : Nat} {es : Ed} (hv : Valid m es) {s : Nat} (hs : s < 2 ^ 62) : ∀ d i : Nat, i + d = es.length →
    Ev (fun k => spec_l1Parts.l1 k (s : Int) (toI (ufOn m (sel (es.take i) s)).2) ((ufOn m (sel (es.take i) s)).1 : Int) (i : Int) (m : Int) (toS es)) ((ufF m (sel es s) : Nat) : Int) := by
  have h10 := hv.len
  have h5 := hv.le
  intro d
  induction d with
  | zero =>
    intro i hi
    refine Ev.step (f := fun _ => some ((ufF m (sel es s) : Nat) : Int)) (fun k => ?_) (Ev.now _)
    simp only [spec_l1Parts.l1]
    rw [if_neg (by rw [toS_length]; omega), List.take_of_length_le (by omega)]; rfl
  | succ d ih =>
    intro i hi
    have hk := ih (i + 1) (by omega)
    have hil : i < es.length := by omega
    have hsel := sel_take es s i hil
    have hge := (parts_chk ((hv.take (i + 1)).sel s)).2.1
    have hle := (parts_chk ((hv.take i).sel s)).2.2.1
    rw [hsel] at hk
    have he := hv.inR _ (getD_mem (ds := es) hil)
    have hln := ufOn_len m (sel (es.take i) s)
    have hwi : wrap64 ((i : Int) + 1) = ((i + 1 : Nat) : Int) := by rw [wrap_id (by omega) (by omega)]; simp
    generalize hst : ufOn m (sel (es.take i) s) = st at hln
    have hst1 : ufF m (sel (es.take i) s) = st.1 := by rw [← hst]; rfl
    have hgo : ∀ f : Nat → Option Int, (∀ k, spec_l1Parts.l1 (k + 1) (s : Int) (toI st.2) (st.1 : Int) (i : Int) (m : Int) (toS es) = f k) → Ev f ((ufF m (sel es s) : Nat) : Int) →
        Ev (fun k => spec_l1Parts.l1 k (s : Int) (toI st.2) (st.1 : Int) (i : Int) (m : Int) (toS es)) ((ufF m (sel es s) : Nat) : Int) := fun f h1 h2 => Ev.step h1 h2
    have c1 : ((es.getD i (0, 0)).1 : Int) < ((toI st.2).length : Int) := by rw [toI_length]; omega
    have c2 : ((es.getD i (0, 0)).2 : Int) < ((toI st.2).length : Int) := by rw [toI_length]; omega
    cases ht : s.testBit i with
    | false =>
      rw [ht] at hk
      simp only [cond_false, List.append_nil] at hk
      rw [hst] at hk
      refine hgo _ (fun k => by
        simp only [spec_l1Parts.l1]
        rw [if_pos (by rw [toS_length]; omega), if_pos (by omega), rd_S, if_pos (by simp only; omega), if_pos c1, if_pos (by simp only; omega), if_pos c2, if_pos ((bit_zero (by omega) (by omega)).mpr ht)]) ?_
      refine Ev.step (fun k => ?_) hk
      simp only [spec_l1Parts.j2]; rw [if_pos trivial, hwi]
    | true =>
      rw [ht] at hk hsel
      simp only [cond_true] at hk hsel
      have hstep : ufOn m (sel (es.take i) s ++ [es.getD i (0, 0)]) = ufStep st (es.getD i (0, 0)) := by
        rw [← hst]; simp only [ufOn, List.foldl_append, List.foldl_cons, List.foldl_nil]
      have hge2 : 1 ≤ (ufStep st (es.getD i (0, 0))).1 := by
        rw [← hstep, ← hsel]; exact hge
      rw [hstep] at hk
      refine hgo _ (fun k => by
        simp only [spec_l1Parts.l1]
        rw [if_pos (by rw [toS_length]; omega), if_pos (by omega), rd_S, if_pos (by simp only; omega), if_pos c1, if_pos (by simp only; omega), if_pos c2, if_neg (by rw [bit_zero (by omega) (by omega), ht]; simp)]) ?_
      simp only [rd_toI]
      generalize hA : st.2.getD (es.getD i (0, 0)).1 0 = A at *
      generalize hB : st.2.getD (es.getD i (0, 0)).2 0 = B at *
      by_cases e : A = B
      · have hsame : ufStep st (es.getD i (0, 0)) = st := by unfold ufStep; rw [hA, hB, e]; simp
        rw [hsame] at hk
        refine Ev.step (fun k => ?_) hk
        simp only [spec_l1Parts.j2]; rw [if_pos (by simp [e]), hwi]
      · have hdiff : ufStep st (es.getD i (0, 0)) = (st.1 - 1, st.2.map fun x => bif x == B then A else x) := by
          unfold ufStep; rw [hA, hB, show (A == B) = false by simpa using e]; rfl
        rw [hdiff] at hk hge2
        simp only at hge2
        have hw7 : wrap64 ((st.1 : Int) - 1) = ((st.1 - 1 : Nat) : Int) := by rw [wrap_id (by omega) (by omega)]; omega
        have h2 := uf_l2 (n := 0) h5 (toS es) (s : Int) ((st.1 - 1 : Nat) : Int) (i : Int) A B (at0 := st.2) hln (by rw [hwi]; exact hk) m 0 (by omega)
        refine Ev.step (fun k => ?_) h2
        simp only [spec_l1Parts.j2]
        rw [if_neg (by simp; omega), hw7]; simp
theorem uf_l0 {m : Nat} {es : Ed} (hv : Valid m es) {s : Nat} (hs : s < 2 ^ 62) : ∀ d v : Nat, v + d = m →
    Ev (fun k => spec_l1Parts.l0 k (s : Int) (toI (List.range v)) (v : Int) (m : Int) (toS es)) ((ufF m (sel es s) : Nat) : Int) := by
  have h5 := hv.le
  intro d
  induction d with
  | zero =>
    intro v hvm
    have h := uf_l1 hv hs es.length 0 (by omega)
    refine Ev.step (fun k => ?_) h
    obtain rfl : v = m := by omega
    simp only [spec_l1Parts.l0]; rw [if_neg (by omega)]; rfl
  | succ d ih =>
    intro v hvm
    refine Ev.step (fun k => ?_) (ih (v + 1) (by omega))
    simp only [spec_l1Parts.l0]
    rw [if_pos (by omega), if_pos (by rw [toI_length, List.length_range]; omega), toI_snoc, ← List.range_succ, wrap_id (by omega) (by omega)]; simp
theorem refParts_ev {m : Nat} {es : Ed} (hv : Valid m es) {s : Nat} (hs : s < 2 ^ 62) :
    Ev (fun k => spec_l1Parts.f k (m : Int) (toS es) (s : Int)) ((ufF m (sel es s) : Nat) : Int) := by
  have h := uf_l0 hv hs m 0 (by omega)
  unfold spec_l1Parts.f; exact h
end Go.Proofs.Ytjklkphhfkdkpaa.Lk
end

section
/-
  WayParts of the program: the number of parts of a graph.
-/
namespace Go.Proofs.Ytjklkphhfkdkpaa.Lk
open Go Go.RowKit Go.Proofs.YtjklkphhfkdkpaaW.PrintWords Go.Proofs.YtjklkphhfkdkpaaW.PrintLast Go.Proofs.YtjklkphhfkdkpaaW.PrintMore Go.Proofs.Ytjklkphhfkdkpaa.P Go.Proofs.Ytjklkphhfkdkpaa.Gw
set_option linter.unusedVariables false
set_option linter.unusedSimpArgs false
theorem implWayParts_no {n : Int} {ys : List S37} (hl : ys.length < 2 ^ 62) (hw : gOk n ys = false) : Ev (fun k => impl_WayParts.f k n ys) (0, false) := by
  unfold impl_WayParts.f; exact Ev.bind (impl_wayGraph hl) (by simpa [hw] using Ev.now _)
theorem wp_all {m : Nat} {es : Ed} (hv : Valid m es) : wrap64 (shl .i64 1 ((toS es).length : Int) - 1) = ((2 ^ es.length - 1 : Nat) : Int) := by
  have hp := pow_le hv.len
  have h0 := Nat.two_pow_pos es.length
  have h10 := hv.len
  rw [toS_length, shl_nat (by omega)]
  generalize 2 ^ es.length = p at *
  rw [wrap_id (by omega) (by omega)]; omega
theorem implWayParts_ev {m : Nat} {es : Ed} (hv : Valid m es) : Ev (fun k => impl_WayParts.f k (m : Int) (toS es)) (((ufF m es : Nat) : Int), true) := by
  have hp := pow_le hv.len
  unfold impl_WayParts.f
  refine Ev.bind (impl_wayGraph (by rw [toS_length]; have := hv.len; omega)) ?_
  rw [valid_gOk_iff hv]
  simp only [if_true, wp_all hv]
  have h := partsBy_ev hv (s := 2 ^ es.length - 1) (by omega)
  rw [sel_full] at h
  exact Ev.bind h (Ev.now _)
end Go.Proofs.Ytjklkphhfkdkpaa.Lk
end

section
/-
  WayTurned and WayFlip, of the program and of the reference, tell the same.
-/
namespace Go.Proofs.Ytjklkphhfkdkpaa.Lk
open Go Go.RowKit Go.Proofs.YtjklkphhfkdkpaaW.PrintWords Go.Proofs.YtjklkphhfkdkpaaW.PrintLast Go.Proofs.YtjklkphhfkdkpaaW.PrintMore Go.Proofs.Ytjklkphhfkdkpaa.P Go.Proofs.Ytjklkphhfkdkpaa.Gw
set_option linter.unusedVariables false
set_option linter.unusedSimpArgs false
theorem all_eq {m : Nat} {es : Ed} (hv : Valid m es) (n : Int) : spec_l1All.f n (toS es) = some ((2 ^ es.length - 1 : Nat) : Int) := by
  have hp := pow_le hv.len
  have h0 := Nat.two_pow_pos es.length
  have h10 := hv.len
  unfold spec_l1All.f
  rw [toS_length, shl_nat (by omega)]
  generalize 2 ^ es.length = p at *
  rw [wrap_id (by omega) (by omega)]; congr 1; omega
theorem allm1 {m : Nat} {es : Ed} (hv : Valid m es) : wrap64 (shl .i64 1 ((toS es).length : Int) - 1) = ((2 ^ es.length - 1 : Nat) : Int) := by
  have := all_eq hv 0
  unfold spec_l1All.f at this
  exact Option.some.inj this
theorem turned_eq {m : Nat} {es : Ed} (hv : Valid m es) {b : Nat} (hb : b < 2 ^ es.length) (n : Int) : impl_turned.f n (toS es) (b : Int) = some ((tn es.length b : Nat) : Int) := by
  have hp := pow_le hv.len
  unfold impl_turned.f
  rw [allm1 hv, xor_nat (by omega) (by omega), tn_xor hb]
theorem sub_eq {m : Nat} {es : Ed} (hv : Valid m es) {b : Nat} (hb : b < 2 ^ es.length) : wrap64 (((2 ^ es.length - 1 : Nat) : Int) - (b : Int)) = ((tn es.length b : Nat) : Int) := by
  have hp := pow_le hv.len
  unfold tn
  generalize 2 ^ es.length = p at *
  rw [wrap_id (by omega) (by omega)]; omega
end Go.Proofs.Ytjklkphhfkdkpaa.Lk
end

section
/-
  ScoreTrees of the program and of the reference tell the same, for every graph.
-/
namespace Go.Proofs.Ytjklkphhfkdkpaa.Lk
open Go Go.RowKit Go.Proofs.YtjklkphhfkdkpaaW.PrintWords Go.Proofs.YtjklkphhfkdkpaaW.PrintLast Go.Proofs.YtjklkphhfkdkpaaW.PrintMore Go.Proofs.Ytjklkphhfkdkpaa.P Go.Proofs.Ytjklkphhfkdkpaa.Gw
set_option linter.unusedVariables false
set_option linter.unusedSimpArgs false
def cTrees (m : Nat) (es : Ed) : Nat := cntP (treeF m es) (2 ^ es.length)
theorem lenST {m : Nat} {es : Ed} (hv : Valid m es) : (toS es).length < 2 ^ 62 := by rw [toS_length]; have := hv.len; omega
def sizeOk (s : Nat) : Bool := match spec_l4Size.f 12 (s : Int) with
  | some r => r == (popc s : Int)
  | none => false
theorem size_all : ∀ s, s < 1024 → sizeOk s = true := by decide +kernel
theorem size_ev {s : Nat} (h : s < 1024) : Ev (fun k => spec_l4Size.f k (s : Int)) (popc s : Int) := by
  have := size_all s h
  unfold sizeOk at this
  refine Ev.of (fun k => spec_l4Size.mono _ k) (k := 12) ?_
  cases hr : spec_l4Size.f 12 (s : Int) with
  | none => rw [hr] at this; cases this
  | some r => rw [hr] at this; simp only [beq_iff_eq] at this; rw [this]
theorem impl_ScoreTrees_no {n : Int} {ys : List S37} (hl : ys.length < 2 ^ 62) (hw : gOk n ys = false) : Ev (fun k => impl_ScoreTrees.f k n ys) (0, false) := by
  unfold impl_ScoreTrees.f; exact Ev.bind (implWayParts_no hl hw) (by simpa using Ev.now _)
theorem spec_ScoreTrees_no {n : Int} {ys : List S37} (hl : ys.length < 2 ^ 62) (hw : gOk n ys = false) : Ev (fun k => spec_ScoreTrees.f k n ys) (0, false) := by
  unfold spec_ScoreTrees.f; exact Ev.bind (spec_wayGraph hl) (by simpa [hw] using Ev.now _)
theorem impl_ScoreTrees_ev {m : Nat} {es : Ed} (hv : Valid m es) : Ev (fun k => impl_ScoreTrees.f k (m : Int) (toS es)) (((cTrees m es : Nat) : Int), true) := by
  have h10 := hv.len
  have hp := pow_le h10
  unfold impl_ScoreTrees.f
  refine Ev.bind (implWayParts_ev hv) ?_
  simp only [if_true, toS_length, shl_nat (show es.length ≤ 61 by omega)]
  have h := cntL_ev (g := fun k o => impl_ScoreTreesX.f k o (m : Int) (toS es) ((ufF m es : Nat) : Int)) (p := treeF m es) hp (fun o ho => treesX_ev hv ho)
  exact Ev.bind h (Ev.now _)
theorem specTrees_l {m : Nat} {es : Ed} (hv : Valid m es) : ∀ d o : Nat, o + d = 2 ^ es.length →
    Ev (fun k => spec_ScoreTrees.l0 k ((cntP (treeF m es) o : Nat) : Int) ((ufF m es : Nat) : Int) (o : Int) (m : Int) (toS es)) (((cTrees m es : Nat) : Int), true) := by
  have h5 := hv.le
  have hp := pow_le hv.len
  have h0 := Nat.two_pow_pos es.length
  obtain ⟨_, u1, u2, u3⟩ := parts_chk hv
  intro d
  induction d with
  | zero =>
    intro o ho
    obtain rfl : o = 2 ^ es.length := by omega
    refine Ev.step (f := fun _ => some (((cTrees m es : Nat) : Int), true)) (fun k => ?_) (Ev.now _)
    simp only [spec_ScoreTrees.l0, all_eq hv, Option.bind_some]; rw [if_neg (by omega)]; rfl
  | succ d ih =>
    intro o hod
    have hk := ih (o + 1) (by omega)
    have hle := cntP_le (treeF m es) o
    rw [cntP] at hk
    have ho : o < 2 ^ es.length := by omega
    have hpc := popc_le o (by omega)
    have hw1 : wrap64 ((o : Int) + 1) = ((o + 1 : Nat) : Int) := by rw [wrap_id (by omega) (by omega)]; simp
    have hw2 : wrap64 (((cntP (treeF m es) o : Nat) : Int) + 1) = ((1 + cntP (treeF m es) o : Nat) : Int) := by clear hw1; rw [wrap_id (by omega) (by omega)]; omega
    have hw3 : wrap64 ((m : Int) - ((ufF m es : Nat) : Int)) = ((m - ufF m es : Nat) : Int) := by clear hw1 hw2; rw [wrap_id (by omega) (by omega)]; omega
    refine Ev.step (fun k => rfl) ?_
    simp only [spec_ScoreTrees.l0, all_eq hv, Option.bind_some, if_pos (show (o : Int) ≤ ((2 ^ es.length - 1 : Nat) : Int) by clear hw1 hw2 hw3; omega)]
    refine Ev.bind (refParts_ev hv (by clear hw1 hw2 hw3; omega)) ?_
    by_cases he : ufF m (sel es o) = ufF m es
    · simp only [he, if_true]
      refine Ev.bind (size_ev (by clear hw1 hw2 hw3; omega)) ?_
      rw [hw3]
      by_cases hs : popc o = m - ufF m es
      · have hr : treeF m es o = true := by clear hw1 hw2 hw3; rw [treeF, forestF, he, decide_eq_true rfl, Bool.and_true, decide_eq_true_eq]; omega
        rw [hr] at hk
        simp only [cond_true] at hk
        simp only [hs, if_true, hw1, hw2]; exact hk
      · have hr : treeF m es o = false := by clear hw1 hw2 hw3; rw [treeF, forestF, he, decide_eq_true rfl, Bool.and_true, decide_eq_false_iff_not]; omega
        rw [hr] at hk
        simp only [cond_false, Nat.zero_add] at hk
        simp only [if_neg (show ¬ (((popc o : Nat) : Int) = ((m - ufF m es : Nat) : Int)) by clear hw1 hw2 hw3; omega), hw1]; exact hk
    · have hr : treeF m es o = false := by clear hw1 hw2 hw3; rw [treeF, decide_eq_false he, Bool.and_false]
      rw [hr] at hk
      simp only [cond_false, Nat.zero_add] at hk
      simp only [if_neg (show ¬ (((ufF m (sel es o) : Nat) : Int) = ((ufF m es : Nat) : Int)) by clear hw1 hw2 hw3; omega), hw1]; exact hk
theorem spec_ScoreTrees_ev {m : Nat} {es : Ed} (hv : Valid m es) : Ev (fun k => spec_ScoreTrees.f k (m : Int) (toS es)) (((cTrees m es : Nat) : Int), true) := by
  have hp := pow_le hv.len
  have h0 := Nat.two_pow_pos es.length
  unfold spec_ScoreTrees.f
  refine Ev.bind (spec_wayGraph (lenST hv)) ?_
  rw [valid_gOk_iff hv]
  simp only [if_true, all_eq hv, Option.bind_some]
  have h := refParts_ev hv (s := 2 ^ es.length - 1) (by omega)
  rw [sel_full] at h
  refine Ev.bind h ?_
  exact specTrees_l hv (2 ^ es.length) 0 (by omega)
theorem same_ScoreTrees (n : Int) (ys : List S37) (hl : ys.length < 2 ^ 62) : ∃ r : Int × Bool, Ev (fun k => spec_ScoreTrees.f k n ys) r ∧ Ev (fun k => impl_ScoreTrees.f k n ys) r := by
  cases hw : gOk n ys with
  | false => exact ⟨_, spec_ScoreTrees_no hl hw, impl_ScoreTrees_no hl hw⟩
  | true =>
    obtain ⟨m, es, rfl, rfl, hv⟩ := gOk_valid hw
    exact ⟨_, spec_ScoreTrees_ev hv, impl_ScoreTrees_ev hv⟩
end Go.Proofs.Ytjklkphhfkdkpaa.Lk
end
