/-
  FnExactPlainRoot: what the program's functions and the reference's compute, joined from several texts.
-/
import Derived.Test.YtjklkphhfkdkpaaOps
import Derived.Test.YtjklkphhfkdkpaaPx5
import Derived.Test.YtjklkphhfkdkpaaPx6
import Derived.Test.YtjklkphhfkdkpaaPx18
import Derived.Test.YtjklkphhfkdkpaaPx63
import Derived.Test.YtjklkphhfkdkpaaPx66
import Derived.Test.YtjklkphhfkdkpaaPx69
import Derived.Test.YtjklkphhfkdkpaaClo
import Derived.Test.YtjklkphhfkdkpaaPx7
import Derived.Test.YtjklkphhfkdkpaaPx82
import Derived.Test.YtjklkphhfkdkpaaCoreT
import Derived.Test.YtjklkphhfkdkpaaPx76
import Derived.Test.YtjklkphhfkdkpaaPx77
import Derived.Test.YtjklkphhfkdkpaaPx11
import Derived.Test.YtjklkphhfkdkpaaPx75
import Derived.Test.YtjklkphhfkdkpaaPx78
import Derived.Test.YtjklkphhfkdkpaaPx79
import Derived.Test.YtjklkphhfkdkpaaPx12
import Derived.Test.YtjklkphhfkdkpaaPx38
import Derived.Test.YtjklkphhfkdkpaaPx13
import Derived.Test.YtjklkphhfkdkpaaPx87
import Derived.Test.YtjklkphhfkdkpaaPx14
import Derived.Test.YtjklkphhfkdkpaaPx15
import Derived.Test.YtjklkphhfkdkpaaPx16
import Derived.Test.YtjklkphhfkdkpaaPx17
section
/-
  WayGraph, of the program and of the reference: both tell 'gOk', for every graph; what is a graph is a sublist of all pairs.
-/
namespace Go.Proofs.Ytjklkphhfkdkpaa.Lk
open Go Go.RowKit Go.Proofs.YtjklkphhfkdkpaaW.PrintWords Go.Proofs.YtjklkphhfkdkpaaW.PrintLast Go.Proofs.YtjklkphhfkdkpaaW.PrintMore Go.Proofs.Ytjklkphhfkdkpaa.P Go.Proofs.Ytjklkphhfkdkpaa.Gw
set_option linter.unusedVariables false
set_option linter.unusedSimpArgs false

/-- edges as Go has them -/
def toS (es : Ed) : List S37 := es.map fun e => (⟨(e.1 : Int), (e.2 : Int)⟩ : S37)
theorem toS_length (es : Ed) : (toS es).length = es.length := by simp [toS]
theorem rd_toS (es : Ed) (i : Nat) : rd_T37 (toS es) (i : Int) = ⟨((es.getD i (0, 0)).1 : Int), ((es.getD i (0, 0)).2 : Int)⟩ := by
  simp [rd_T37, toS, List.getD_eq_getElem?_getD]; cases es[i]? <;> simp [z37]

theorem l6In_eq (a b c : Int) : spec_l6In.f a b c = some (decide (b ≤ a) && decide (a ≤ c)) := by
  unfold spec_l6In.f
  by_cases h : a ≥ b
  · rw [if_pos h]; simp [show b ≤ a from h]
  · rw [if_neg h]; simp [show ¬ b ≤ a from h]

def badAt (n : Int) (xs : List S37) (i : Nat) : Bool := decide ((xs.getD i z37).f0 < 0) || decide ((xs.getD i z37).f0 ≥ (xs.getD i z37).f1) || decide ((xs.getD i z37).f1 ≥ n)
def backAt (xs : List S37) (i : Nat) : Bool := decide (0 < i) && (decide ((xs.getD i z37).f0 < (xs.getD (i - 1) z37).f0) || (decide ((xs.getD i z37).f0 = (xs.getD (i - 1) z37).f0) && decide ((xs.getD i z37).f1 ≤ (xs.getD (i - 1) z37).f1)))
def okFrom (n : Int) (xs : List S37) : Nat → Nat → Bool
  | 0, _ => true
  | d + 1, i => !badAt n xs i && !backAt xs i && okFrom n xs d (i + 1)
def gOk (n : Int) (xs : List S37) : Bool := decide (1 ≤ n) && decide (n ≤ 5) && okFrom n xs xs.length 0

theorem impl_j2 {n : Int} {xs : List S37} (hl : xs.length < 2 ^ 62) {d i : Nat} (hi : i + (d + 1) = xs.length)
    (ih : Ev (fun k => impl_WayGraph.l0 k xs (xs.length : Int) ((i + 1 : Nat) : Int) n xs) (okFrom n xs d (i + 1))) :
    Ev (fun k => impl_WayGraph.j2 k (i : Int) xs (xs.length : Int) (i : Int) (badAt n xs i) n xs (xs.getD i z37).f0 (xs.getD i z37).f1) (okFrom n xs (d + 1) i) := by
  have hw1 : wrap64 ((i : Int) + 1) = ((i + 1 : Nat) : Int) := by rw [wrap_id (by omega) (by omega)]; simp
  rw [okFrom]
  cases hb : badAt n xs i with
  | true => exact Ev.step (f := fun _ => some false) (fun k => by simp only [impl_WayGraph.j2]; rw [if_pos trivial]) (by simpa using Ev.now false)
  | false =>
    by_cases h0 : 0 < i
    · have hw : wrap64 ((i : Int) - 1) = ((i - 1 : Nat) : Int) := by rw [wrap_id (by omega) (by omega)]; omega
      have hr : rd_T37 xs ((i - 1 : Nat) : Int) = xs.getD (i - 1) z37 := by simp [rd_T37]
      by_cases c1 : (xs.getD i z37).f0 < (xs.getD (i - 1) z37).f0
      · have hbk : backAt xs i = true := by simp only [backAt, h0, c1]; rfl
        rw [hbk]
        exact Ev.step (f := fun _ => some false) (fun k => by
          simp only [impl_WayGraph.j2]; rw [if_neg (by simp), if_pos (by omega), hw, if_pos (by omega), if_pos (by omega), hr, if_pos c1]) (by simpa using Ev.now false)
      · by_cases c2 : (xs.getD i z37).f0 = (xs.getD (i - 1) z37).f0
        · by_cases c3 : (xs.getD i z37).f1 ≤ (xs.getD (i - 1) z37).f1
          · have hbk : backAt xs i = true := by simp only [backAt, h0, c2, c3]; simp
            rw [hbk]
            exact Ev.step (f := fun _ => some false) (fun k => by
              simp only [impl_WayGraph.j2]; rw [if_neg (by simp), if_pos (by omega), hw, if_pos (by omega), if_pos (by omega), hr, if_neg c1, if_pos c2, if_pos c3]) (by simpa using Ev.now false)
          · have hbk : backAt xs i = false := by simp only [backAt, c1, c3]; simp
            rw [hbk]
            refine Ev.step (f := fun k => impl_WayGraph.l0 k xs (xs.length : Int) ((i + 1 : Nat) : Int) n xs) (fun k => by
              simp only [impl_WayGraph.j2]; rw [if_neg (by simp), if_pos (by omega), hw, if_pos (by omega), if_pos (by omega), hr, if_neg c1, if_pos c2, if_neg c3, hw1]) (by simpa using ih)
        · have hbk : backAt xs i = false := by simp only [backAt, c1, c2]; simp
          rw [hbk]
          refine Ev.step (f := fun k => impl_WayGraph.l0 k xs (xs.length : Int) ((i + 1 : Nat) : Int) n xs) (fun k => by
            simp only [impl_WayGraph.j2]; rw [if_neg (by simp), if_pos (by omega), hw, if_pos (by omega), if_pos (by omega), hr, if_neg c1, if_neg c2, hw1]) (by simpa using ih)
    · have hbk : backAt xs i = false := by simp only [backAt, h0]; simp
      rw [hbk]
      refine Ev.step (f := fun k => impl_WayGraph.l0 k xs (xs.length : Int) ((i + 1 : Nat) : Int) n xs) (fun k => by
        simp only [impl_WayGraph.j2]; rw [if_neg (by simp), if_neg (by omega), hw1]) (by simpa using ih)
theorem impl_l0 {n : Int} {xs : List S37} (hl : xs.length < 2 ^ 62) : ∀ d i : Nat, i + d = xs.length →
    Ev (fun k => impl_WayGraph.l0 k xs (xs.length : Int) (i : Int) n xs) (okFrom n xs d i) := by
  intro d
  induction d with
  | zero => intro i hi; exact Ev.step (f := fun _ => some true) (fun k => by simp only [impl_WayGraph.l0]; rw [if_neg (by omega)]) (Ev.now true)
  | succ d ih =>
    intro i hi
    refine Ev.step (f := fun k => impl_WayGraph.j2 k (i : Int) xs (xs.length : Int) (i : Int) (badAt n xs i) n xs (xs.getD i z37).f0 (xs.getD i z37).f1) (fun k => ?_) (impl_j2 hl hi (ih (i + 1) (by omega)))
    have hr : rd_T37 xs (i : Int) = xs.getD i z37 := by simp [rd_T37]
    simp only [impl_WayGraph.l0]
    rw [if_pos (by omega), if_pos (by omega), if_pos (by omega), hr]
    unfold badAt
    by_cases c1 : (xs.getD i z37).f0 < 0
    · rw [if_pos c1, decide_eq_true c1]; rfl
    · rw [if_neg c1]
      by_cases c2 : (xs.getD i z37).f0 ≥ (xs.getD i z37).f1
      · rw [if_pos c2, decide_eq_true c2]; simp
      · rw [if_neg c2, decide_eq_false c1, decide_eq_false c2]; simp
theorem impl_wayGraph {n : Int} {xs : List S37} (hl : xs.length < 2 ^ 62) : Ev (fun k => impl_WayGraph.f k n xs) (gOk n xs) := by
  unfold gOk
  by_cases h1 : n < 1
  · rw [decide_eq_false (show ¬ 1 ≤ n by omega)]
    refine Ev.congr (f := fun k => impl_WayGraph.j0 k true n xs) (fun k => by unfold impl_WayGraph.f; rw [if_pos h1]) ?_
    exact Ev.step (f := fun _ => some false) (fun k => by simp only [impl_WayGraph.j0]; rw [if_pos trivial]) (Ev.now false)
  · rw [decide_eq_true (show 1 ≤ n by omega)]
    refine Ev.congr (f := fun k => impl_WayGraph.j0 k (decide (n > 5)) n xs) (fun k => by unfold impl_WayGraph.f; rw [if_neg h1]) ?_
    by_cases h2 : n > 5
    · rw [decide_eq_true h2, decide_eq_false (show ¬ n ≤ 5 by omega)]
      exact Ev.step (f := fun _ => some false) (fun k => by simp only [impl_WayGraph.j0]; rw [if_pos trivial]) (Ev.now false)
    · rw [decide_eq_false h2, decide_eq_true (show n ≤ 5 by omega)]
      refine Ev.step (f := fun k => impl_WayGraph.l0 k xs (xs.length : Int) ((0 : Nat) : Int) n xs) (fun k => by simp only [impl_WayGraph.j0]; rw [if_neg (by simp)]; rfl) ?_
      simpa using impl_l0 (n := n) hl xs.length 0 (by omega)

theorem spec_j1 {n : Int} {xs : List S37} (hl : xs.length < 2 ^ 62) {d i : Nat} (hi : i + (d + 1) = xs.length) (r : Bool)
    (ih : Ev (fun k => spec_WayGraph.l0 k ((i + 1 : Nat) : Int) n xs) r) :
    Ev (fun k => spec_WayGraph.j1 k (i : Int) false n xs (xs.getD i z37).f0 (xs.getD i z37).f1) (!backAt xs i && r) := by
  have hw1 : wrap64 ((i : Int) + 1) = ((i + 1 : Nat) : Int) := by rw [wrap_id (by omega) (by omega)]; simp
  by_cases h0 : 0 < i
  · have hw : wrap64 ((i : Int) - 1) = ((i - 1 : Nat) : Int) := by rw [wrap_id (by omega) (by omega)]; omega
    have hr : rd_T37 xs ((i - 1 : Nat) : Int) = xs.getD (i - 1) z37 := by simp [rd_T37]
    by_cases c1 : (xs.getD i z37).f0 < (xs.getD (i - 1) z37).f0
    · have hbk : backAt xs i = true := by simp only [backAt, h0, c1]; rfl
      rw [hbk]
      exact Ev.step (f := fun _ => some false) (fun k => by
        simp only [spec_WayGraph.j1]; rw [if_neg (by simp), if_pos (by omega), hw, if_pos (by omega), if_pos (by omega), hr, if_pos c1]) (by simpa using Ev.now false)
    · by_cases c2 : (xs.getD i z37).f0 = (xs.getD (i - 1) z37).f0
      · by_cases c3 : (xs.getD i z37).f1 ≤ (xs.getD (i - 1) z37).f1
        · have hbk : backAt xs i = true := by simp only [backAt, h0, c2, c3]; simp
          rw [hbk]
          exact Ev.step (f := fun _ => some false) (fun k => by
            simp only [spec_WayGraph.j1]; rw [if_neg (by simp), if_pos (by omega), hw, if_pos (by omega), if_pos (by omega), hr, if_neg c1, if_pos c2, if_pos c3]) (by simpa using Ev.now false)
        · have hbk : backAt xs i = false := by simp only [backAt, c1, c3]; simp
          rw [hbk]
          refine Ev.step (f := fun k => spec_WayGraph.l0 k ((i + 1 : Nat) : Int) n xs) (fun k => by
            simp only [spec_WayGraph.j1]; rw [if_neg (by simp), if_pos (by omega), hw, if_pos (by omega), if_pos (by omega), hr, if_neg c1, if_pos c2, if_neg c3, hw1]) (by simpa using ih)
      · have hbk : backAt xs i = false := by simp only [backAt, c1, c2]; simp
        rw [hbk]
        refine Ev.step (f := fun k => spec_WayGraph.l0 k ((i + 1 : Nat) : Int) n xs) (fun k => by
          simp only [spec_WayGraph.j1]; rw [if_neg (by simp), if_pos (by omega), hw, if_pos (by omega), if_pos (by omega), hr, if_neg c1, if_neg c2, hw1]) (by simpa using ih)
  · have hbk : backAt xs i = false := by simp only [backAt, h0]; simp
    rw [hbk]
    refine Ev.step (f := fun k => spec_WayGraph.l0 k ((i + 1 : Nat) : Int) n xs) (fun k => by
      simp only [spec_WayGraph.j1]; rw [if_neg (by simp), if_neg (by omega), hw1]) (by simpa using ih)
theorem spec_l0_step {n : Int} {xs : List S37} {i : Nat} (hi : i < xs.length) : ∃ b : Bool,
    (b = (!(decide (0 ≤ (xs.getD i z37).f0) && decide ((xs.getD i z37).f0 ≤ wrap64 (n - 1)) && (decide (wrap64 ((xs.getD i z37).f0 + 1) ≤ (xs.getD i z37).f1) && decide ((xs.getD i z37).f1 ≤ wrap64 (n - 1)))))) ∧
    ∀ k, spec_WayGraph.l0 (k + 1) (i : Int) n xs = spec_WayGraph.j1 k (i : Int) b n xs (xs.getD i z37).f0 (xs.getD i z37).f1 := by
  refine ⟨_, rfl, fun k => ?_⟩
  have hr : rd_T37 xs (i : Int) = xs.getD i z37 := by simp [rd_T37]
  simp only [spec_WayGraph.l0]
  rw [if_pos (by omega), if_pos (by omega), hr, l6In_eq, l6In_eq]
  simp only [Option.bind_some]
  cases (decide (0 ≤ (xs.getD i z37).f0) && decide ((xs.getD i z37).f0 ≤ wrap64 (n - 1))) <;> simp
theorem spec_l0_ok {n : Int} (h1 : 1 ≤ n) (h5 : n ≤ 5) {xs : List S37} (hl : xs.length < 2 ^ 62) : ∀ d i : Nat, i + d = xs.length →
    Ev (fun k => spec_WayGraph.l0 k (i : Int) n xs) (okFrom n xs d i) := by
  intro d
  induction d with
  | zero =>
    intro i hi
    exact Ev.step (f := fun _ => some true) (fun k => by simp only [spec_WayGraph.l0]; rw [if_neg (by omega), l6In_eq]; simp [h1, h5]) (Ev.now true)
  | succ d ih =>
    intro i hi
    obtain ⟨b, hb, hs⟩ := spec_l0_step (n := n) (xs := xs) (i := i) (by omega)
    have hbad : b = badAt n xs i := by
      rw [hb]; unfold badAt
      rw [wrap_id (x := n - 1) (by omega) (by omega)]
      by_cases c1 : 0 ≤ (xs.getD i z37).f0
      · by_cases c2 : (xs.getD i z37).f0 ≤ n - 1
        · rw [wrap_id (x := (xs.getD i z37).f0 + 1) (by omega) (by omega), decide_eq_true c1, decide_eq_true c2, decide_eq_false (show ¬ (xs.getD i z37).f0 < 0 by omega)]
          by_cases c3 : (xs.getD i z37).f0 + 1 ≤ (xs.getD i z37).f1
          · rw [decide_eq_true c3, decide_eq_false (show ¬ (xs.getD i z37).f0 ≥ (xs.getD i z37).f1 by omega)]
            by_cases c4 : (xs.getD i z37).f1 ≤ n - 1
            · rw [decide_eq_true c4, decide_eq_false (show ¬ (xs.getD i z37).f1 ≥ n by omega)]; rfl
            · rw [decide_eq_false c4, decide_eq_true (show (xs.getD i z37).f1 ≥ n by omega)]; rfl
          · rw [decide_eq_false c3, decide_eq_true (show (xs.getD i z37).f0 ≥ (xs.getD i z37).f1 by omega)]; rfl
        · rw [decide_eq_true c1, decide_eq_false c2]
          by_cases c3 : (xs.getD i z37).f0 ≥ (xs.getD i z37).f1
          · rw [decide_eq_true c3]; simp
          · rw [decide_eq_true (show (xs.getD i z37).f1 ≥ n by omega)]; simp
      · rw [decide_eq_false c1, decide_eq_true (show (xs.getD i z37).f0 < 0 by omega)]; simp
    refine Ev.step (f := fun k => spec_WayGraph.j1 k (i : Int) b n xs (xs.getD i z37).f0 (xs.getD i z37).f1) hs ?_
    rw [okFrom, hbad]
    cases badAt n xs i with
    | true => exact Ev.step (f := fun _ => some false) (fun k => by simp only [spec_WayGraph.j1]; rw [if_pos trivial]) (by simpa using Ev.now false)
    | false => simpa using spec_j1 hl hi _ (ih (i + 1) (by omega))
theorem spec_l0_no {n : Int} (hn : ¬ (1 ≤ n ∧ n ≤ 5)) {xs : List S37} (hl : xs.length < 2 ^ 62) : ∀ d i : Nat, i + d = xs.length →
    Ev (fun k => spec_WayGraph.l0 k (i : Int) n xs) false := by
  intro d
  induction d with
  | zero =>
    intro i hi
    exact Ev.step (f := fun _ => some false) (fun k => by
      simp only [spec_WayGraph.l0]; rw [if_neg (by omega), l6In_eq]
      have : (decide (1 ≤ n) && decide (n ≤ 5)) = false := by
        by_cases h : 1 ≤ n
        · rw [decide_eq_false (show ¬ n ≤ 5 by omega)]; simp
        · rw [decide_eq_false h]; rfl
      rw [this]; rfl) (Ev.now false)
  | succ d ih =>
    intro i hi
    obtain ⟨b, hb, hs⟩ := spec_l0_step (n := n) (xs := xs) (i := i) (by omega)
    refine Ev.step (f := fun k => spec_WayGraph.j1 k (i : Int) b n xs (xs.getD i z37).f0 (xs.getD i z37).f1) hs ?_
    cases b with
    | true => exact Ev.step (f := fun _ => some false) (fun k => by simp only [spec_WayGraph.j1]; rw [if_pos trivial]) (by simpa using Ev.now false)
    | false => simpa using spec_j1 hl hi _ (ih (i + 1) (by omega))
theorem spec_wayGraph {n : Int} {xs : List S37} (hl : xs.length < 2 ^ 62) : Ev (fun k => spec_WayGraph.f k n xs) (gOk n xs) := by
  refine Ev.congr (f := fun k => spec_WayGraph.l0 k ((0 : Nat) : Int) n xs) (fun k => rfl) ?_
  unfold gOk
  by_cases h : 1 ≤ n ∧ n ≤ 5
  · rw [decide_eq_true h.1, decide_eq_true h.2]
    simpa using spec_l0_ok h.1 h.2 hl xs.length 0 (by omega)
  · have : (decide (1 ≤ n) && decide (n ≤ 5)) = false := by
      by_cases h1 : 1 ≤ n
      · rw [decide_eq_false (show ¬ n ≤ 5 by omega)]; simp
      · rw [decide_eq_false h1]; rfl
    rw [this]
    exact spec_l0_no h hl xs.length 0 (by omega)

/-! what is a graph -/
def lexlt (a b : Nat × Nat) : Prop := a.1 < b.1 ∨ a.1 = b.1 ∧ a.2 < b.2
instance (a b : Nat × Nat) : Decidable (lexlt a b) := inferInstanceAs (Decidable (_ ∨ _ ∧ _))
theorem lexlt_irrefl (a : Nat × Nat) : ¬ lexlt a a := by unfold lexlt; omega
theorem lexlt_trans (a b c : Nat × Nat) (h : lexlt a b) (k : lexlt b c) : lexlt a c := by unfold lexlt at *; omega
/-- a graph: its edges are some of all pairs, in order -/
structure Valid (m : Nat) (es : Ed) : Prop where
  pos : 1 ≤ m
  le : m ≤ 5
  sub : es.Sublist (pairs m)

theorem okFrom_at {n : Int} {xs : List S37} : ∀ d i : Nat, okFrom n xs d i = true → ∀ j, i ≤ j → j < i + d → badAt n xs j = false ∧ backAt xs j = false := by
  intro d
  induction d with
  | zero => intro i _ j h1 h2; omega
  | succ d ih =>
    intro i h j h1 h2
    rw [okFrom] at h
    simp only [Bool.and_eq_true, Bool.not_eq_true'] at h
    by_cases e : j = i
    · subst e; exact h.1
    · exact ih (i + 1) h.2 j (by omega) (by omega)
theorem pairs_sorted : ∀ m, m ≤ 5 → (pairs m).Pairwise lexlt := by
  intro m hm
  exact (show ∀ m, m < 6 → (pairs m).Pairwise lexlt by decide) m (by omega)
theorem mem_pairs : ∀ m, m ≤ 5 → ∀ a b, a < b → b < m → (a, b) ∈ pairs m := by
  intro m hm a b h1 h2
  have key : ∀ m, m < 6 → ∀ b, b < m → ∀ a, a < b → (pairs m).contains (a, b) = true := by decide
  exact List.contains_iff_mem.mp (key m (by omega) b h2 a h1)
theorem pairs_mem : ∀ m, m < 6 → ∀ e ∈ pairs m, e.1 < e.2 ∧ e.2 < m := by decide
theorem pairs_length : ∀ m, m < 6 → (pairs m).length ≤ 10 := by decide
theorem gOk_valid {n : Int} {xs : List S37} (h : gOk n xs = true) : ∃ (m : Nat) (es : Ed), n = (m : Int) ∧ xs = toS es ∧ Valid m es := by
  unfold gOk at h
  simp only [Bool.and_eq_true, decide_eq_true_eq] at h
  obtain ⟨⟨h1, h5⟩, hok⟩ := h
  have hat := okFrom_at xs.length 0 hok
  obtain ⟨m, rfl⟩ := Int.eq_ofNat_of_zero_le (show 0 ≤ n by omega)
  have hb : ∀ j (hj : j < xs.length), 0 ≤ (xs[j]).f0 ∧ (xs[j]).f0 < (xs[j]).f1 ∧ (xs[j]).f1 < (m : Int) := by
    intro j hj
    have := (hat j (by omega) (by omega)).1
    simp only [badAt, List.getD_eq_getElem?_getD, List.getElem?_eq_getElem hj, Option.getD_some, Bool.or_eq_false_iff, decide_eq_false_iff_not] at this
    omega
  have hk : ∀ j (hj : j + 1 < xs.length), (xs[j]).f0 < (xs[j + 1]).f0 ∨ (xs[j]).f0 = (xs[j + 1]).f0 ∧ (xs[j]).f1 < (xs[j + 1]).f1 := by
    intro j hj
    have := (hat (j + 1) (by omega) (by omega)).2
    simp only [backAt, List.getD_eq_getElem?_getD, List.getElem?_eq_getElem hj, Nat.add_sub_cancel, List.getElem?_eq_getElem (show j < xs.length by omega), Option.getD_some, Bool.and_eq_false_iff, Bool.or_eq_false_iff, decide_eq_false_iff_not] at this
    omega
  refine ⟨m, xs.map fun e => (e.f0.toNat, e.f1.toNat), rfl, ?_, by omega, by omega, ?_⟩
  · apply List.ext_getElem (by simp [toS])
    intro j h2 h3
    have := hb j h2
    have e0 : ((xs[j]).f0.toNat : Int) = (xs[j]).f0 := by omega
    have e1 : ((xs[j]).f1.toNat : Int) = (xs[j]).f1 := by omega
    simp only [toS, List.getElem_map, e0, e1]
  · apply sublist_of_sorted lexlt lexlt_irrefl lexlt_trans _ _ (pairs_sorted m (by omega))
    · rw [List.pairwise_iff_getElem]
      have step : ∀ (c i : Nat) (hj : i + c + 1 < xs.length), lexlt ((xs[i]).f0.toNat, (xs[i]).f1.toNat) ((xs[i + c + 1]).f0.toNat, (xs[i + c + 1]).f1.toNat) := by
        intro c
        induction c with
        | zero =>
          intro i hj
          have a := hb i (by omega); have b := hb (i + 1) (by omega); have c := hk i (by omega)
          unfold lexlt; simp only [Nat.add_zero]; omega
        | succ c ih =>
          intro i hj
          refine lexlt_trans _ _ _ (ih i (by omega)) ?_
          have a := hb (i + c + 1) (by omega); have b := hb (i + c + 1 + 1) (by omega); have c' := hk (i + c + 1) (by omega)
          unfold lexlt; simp only [show i + (c + 1) + 1 = i + c + 1 + 1 by omega]; omega
      intro i j hi hj hij
      simp only [List.length_map] at hi hj
      have := step (j - i - 1) i (by omega)
      simp only [show i + (j - i - 1) + 1 = j by omega] at this
      simpa using this
    · intro x hx
      obtain ⟨e, he, rfl⟩ := List.mem_map.mp hx
      obtain ⟨j, hj, rfl⟩ := List.getElem_of_mem he
      have := hb j hj
      exact mem_pairs m (by omega) _ _ (by omega) (by omega)
namespace Valid
variable {m : Nat} {es : Ed}
theorem inR (h : Valid m es) : InR m es := fun e he => by
  have := pairs_mem m (by have := h.le; omega) e (h.sub.subset he); omega
theorem lt (h : Valid m es) : ∀ e ∈ es, e.1 < e.2 := fun e he => (pairs_mem m (by have := h.le; omega) e (h.sub.subset he)).1
theorem len (h : Valid m es) : es.length ≤ 10 := Nat.le_trans h.sub.length_le (pairs_length m (by have := h.le; omega))
theorem sorted (h : Valid m es) : es.Pairwise lexlt := List.Pairwise.sublist h.sub (pairs_sorted m h.le)
theorem nodup (h : Valid m es) : es.Nodup := List.Pairwise.imp (fun {a b} hab => by rintro rfl; exact lexlt_irrefl _ hab) h.sorted
end Valid
end Go.Proofs.Ytjklkphhfkdkpaa.Lk
end

section
/-
  What the exact laws do round their calls: the graph's size, its copy, and that the copy is still the same.
-/
namespace Go.Proofs.Ytjklkphhfkdkpaa.Lk
open Go Go.RowKit Go.Proofs.YtjklkphhfkdkpaaW.PrintWords Go.Proofs.YtjklkphhfkdkpaaW.PrintLast Go.Proofs.YtjklkphhfkdkpaaW.PrintMore Go.Proofs.Ytjklkphhfkdkpaa.P Go.Proofs.Ytjklkphhfkdkpaa.Gw
set_option linter.unusedVariables false
set_option linter.unusedSimpArgs false

def cv (xs : List S79) : List S37 := xs.map fun e => (⟨e.f0, e.f1⟩ : S37)
theorem cv_length (xs : List S79) : (cv xs).length = xs.length := by simp [cv]
theorem sz_big {n : Int} {xs : List S79} (h : 1048576 < xs.length) (hm : xs.length ≤ 9223372036854775807) : laws_szGraph.f n xs 1048576 = some (-1) := by
  unfold laws_szGraph.f laws_szEdgeS.f
  rw [wrap_id (by omega) (by omega), if_pos (by omega)]; rfl
theorem sz_small {n : Int} {xs : List S79} (h : xs.length ≤ 1048576) : laws_szGraph.f n xs 1048576 = some (1048576 - (xs.length : Int)) := by
  unfold laws_szGraph.f laws_szEdgeS.f
  rw [wrap_id (by omega) (by omega), if_neg (by omega)]
  simp only [Option.bind_some]
  rw [if_neg (by omega)]
theorem toEdgeS_l0 {xs : List S79} (h : xs.length ≤ 1048576) : ∀ (d i : Nat), i + d = xs.length →
    Ev (fun k => laws_toEdgeS.l0 k xs ((cv xs).take i ++ List.replicate d z37) (i : Int)) (cv xs) := by
  intro d
  induction d with
  | zero =>
    intro i hi
    refine Ev.step (f := fun _ => some (cv xs)) (fun k => ?_) (Ev.now _)
    simp only [laws_toEdgeS.l0]
    rw [if_neg (by omega), List.take_of_length_le (by rw [cv_length]; omega)]; simp
  | succ d ih =>
    intro i hi
    refine Ev.step (f := fun k => laws_toEdgeS.l0 k xs ((cv xs).take (i + 1) ++ List.replicate d z37) ((i + 1 : Nat) : Int)) (fun k => ?_) (ih (i + 1) (by omega))
    have hli : i < xs.length := by omega
    have hr : rd_T79 xs (i : Int) = xs[i] := by simp [rd_T79, List.getD_eq_getElem?_getD, List.getElem?_eq_getElem hli]
    have hset : ((cv xs).take i ++ List.replicate (d + 1) z37).set i (⟨(xs[i]).f0, (xs[i]).f1⟩ : S37) = (cv xs).take (i + 1) ++ List.replicate d z37 := by
      have ht : ((cv xs).take i).length = i := by rw [List.length_take, cv_length]; omega
      rw [List.set_append_right i _ (by omega), ht, Nat.sub_self, List.replicate_succ, List.set_cons_zero, List.take_succ_eq_append_getElem (by rw [cv_length]; exact hli)]
      simp [cv]
    simp only [laws_toEdgeS.l0]
    rw [if_pos (by omega), if_pos (by omega), hr]
    simp only [laws_toEdge.f, Option.bind_some]
    rw [if_pos (by simp only [List.length_append, List.length_take, cv_length, List.length_replicate]; omega), Int.toNat_natCast, hset, wrap_id (by omega) (by omega)]
    simp
theorem toGraph_ev {n : Int} {xs : List S79} (h : xs.length ≤ 1048576) : Ev (fun k => laws_toGraph.f k n xs) (n, cv xs) := by
  have key : Ev (fun k => laws_toEdgeS.f k xs) (cv xs) := by
    refine Ev.congr (f := fun k => laws_toEdgeS.l0 k xs ((cv xs).take 0 ++ List.replicate xs.length z37) ((0 : Nat) : Int)) (fun k => ?_) (toEdgeS_l0 h xs.length 0 (by omega))
    unfold laws_toEdgeS.f
    rw [if_pos (by omega), if_pos (by omega)]; simp
  unfold laws_toGraph.f
  exact Ev.bind key (Ev.now _)
theorem eqEdgeS_l0 {xs : List S37} (h : xs.length < 2 ^ 62) : ∀ (d i : Nat), i + d = xs.length → Ev (fun k => laws_eqEdgeS.l0 k xs xs (i : Int)) true := by
  intro d
  induction d with
  | zero => intro i hi; exact Ev.step (f := fun _ => some true) (fun k => by simp only [laws_eqEdgeS.l0]; rw [if_neg (by omega)]) (Ev.now _)
  | succ d ih =>
    intro i hi
    refine Ev.step (f := fun k => laws_eqEdgeS.l0 k xs xs ((i + 1 : Nat) : Int)) (fun k => ?_) (ih (i + 1) (by omega))
    simp only [laws_eqEdgeS.l0]
    rw [if_pos (by omega), if_pos (by omega), if_pos (by omega)]
    simp only [laws_eqEdge.f, if_true, Option.bind_some]
    rw [wrap_id (by omega) (by omega)]; simp
theorem eqGraph_ev {n : Int} {xs : List S37} (h : xs.length < 2 ^ 62) : Ev (fun k => laws_eqGraph.f k n xs n xs) true := by
  have key : Ev (fun k => laws_eqEdgeS.f k xs xs) true := by
    refine Ev.congr (f := fun k => laws_eqEdgeS.l0 k xs xs ((0 : Nat) : Int)) (fun k => ?_) (eqEdgeS_l0 h xs.length 0 (by omega))
    unfold laws_eqEdgeS.f; rw [if_pos rfl]; rfl
  refine Ev.congr (f := fun k => (laws_eqEdgeS.f k xs xs).bind fun t => if t = true then some true else some false) (fun k => ?_) (Ev.bind key (by simpa using Ev.now true))
  unfold laws_eqGraph.f; rw [if_pos rfl]
theorem big_or (xs : List S79) (hm : xs.length ≤ 9223372036854775807) : (∀ n : Int, laws_szGraph.f n xs 1048576 = some (-1)) ∨ xs.length ≤ 1048576 := by
  by_cases h : 1048576 < xs.length
  · exact .inl fun n => sz_big h hm
  · exact .inr (by omega)
theorem sz_neg {xs : List S79} (h : xs.length ≤ 1048576) : ¬ ((1048576 - (xs.length : Int)) < 0) := by omega
end Go.Proofs.Ytjklkphhfkdkpaa.Lk
end

section
/-
  WayIn, of the program and of the reference: both tell 'wIn'; the direction turned.
-/
namespace Go.Proofs.Ytjklkphhfkdkpaa.Lk
open Go Go.RowKit Go.Proofs.YtjklkphhfkdkpaaW.PrintWords Go.Proofs.YtjklkphhfkdkpaaW.PrintLast Go.Proofs.YtjklkphhfkdkpaaW.PrintMore Go.Proofs.Ytjklkphhfkdkpaa.P Go.Proofs.Ytjklkphhfkdkpaa.Gw
set_option linter.unusedVariables false
set_option linter.unusedSimpArgs false

/-- a direction of a graph -/
def wIn (n : Int) (xs : List S37) (o : Int) : Bool := gOk n xs && (decide (0 ≤ o) && decide (o < ((2 ^ xs.length : Nat) : Int)))
theorem gOk_len {n : Int} {xs : List S37} (h : gOk n xs = true) : xs.length ≤ 10 := by
  obtain ⟨m, es, _, rfl, hv⟩ := gOk_valid h
  rw [toS_length]; exact hv.len
theorem pow_le {l : Nat} (h : l ≤ 10) : 2 ^ l ≤ 1024 := Nat.pow_le_pow_right (n := 2) (j := 10) (by omega) h
theorem impl_wayIn {n o : Int} {xs : List S37} (hl : xs.length < 2 ^ 62) : Ev (fun k => impl_WayIn.f k n xs o) (wIn n xs o) := by
  unfold impl_WayIn.f wIn
  refine Ev.bind (impl_wayGraph hl) ?_
  cases hg : gOk n xs with
  | false => simpa using Ev.now false
  | true =>
    have h10 := gOk_len hg
    simp only [if_true, Bool.true_and, shl_nat (show xs.length ≤ 61 by omega)]
    by_cases h : o ≥ 0
    · simp only [if_pos h]; rw [decide_eq_true (show 0 ≤ o from h)]; exact Ev.now _
    · simp only [if_neg h]; rw [decide_eq_false (show ¬ 0 ≤ o from h)]; exact Ev.now _
theorem spec_wayIn {n o : Int} {xs : List S37} (hl : xs.length < 2 ^ 62) : Ev (fun k => spec_WayIn.f k n xs o) (wIn n xs o) := by
  unfold spec_WayIn.f wIn
  refine Ev.bind (spec_wayGraph hl) ?_
  cases hg : gOk n xs with
  | false => simpa using Ev.now false
  | true =>
    have h10 := gOk_len hg
    have hp := pow_le h10
    simp only [if_true, Bool.true_and, shl_nat (show xs.length ≤ 61 by omega)]
    generalize 2 ^ xs.length = p at hp
    rw [wrap_id (x := (p : Int) - 1) (by omega) (by omega)]
    simp only [l6In_eq, Option.bind_some]
    have : decide (o ≤ (p : Int) - 1) = decide (o < (p : Int)) := by rw [decide_eq_decide]; omega
    rw [this]; exact Ev.now _
theorem wIn_valid {n o : Int} {xs : List S37} (h : wIn n xs o = true) : ∃ (m : Nat) (es : Ed) (b : Nat), n = (m : Int) ∧ xs = toS es ∧ Valid m es ∧ o = (b : Int) ∧ b < 2 ^ es.length := by
  unfold wIn at h
  simp only [Bool.and_eq_true, decide_eq_true_eq] at h
  obtain ⟨m, es, rfl, rfl, hv⟩ := gOk_valid h.1
  obtain ⟨b, rfl⟩ := Int.eq_ofNat_of_zero_le h.2.1
  refine ⟨m, es, b, rfl, rfl, hv, rfl, ?_⟩
  have := h.2.2; rw [toS_length] at this
  exact Int.ofNat_lt.mp this
theorem valid_gOk_iff {m : Nat} {es : Ed} (hv : Valid m es) : gOk (m : Int) (toS es) = true := by
  unfold gOk
  have h1 := hv.pos; have h5 := hv.le
  rw [decide_eq_true (show 1 ≤ (m : Int) by omega), decide_eq_true (show (m : Int) ≤ 5 by omega)]
  have key : ∀ d i : Nat, i + d = (toS es).length → okFrom (m : Int) (toS es) d i = true := by
    intro d
    induction d with
    | zero => intro i _; rfl
    | succ d ih =>
      intro i hi
      rw [okFrom, ih (i + 1) (by omega)]
      rw [toS_length] at hi
      have hi' : i < es.length := by omega
      have g : ∀ j (hj : j < es.length), (toS es).getD j z37 = ⟨((es[j]).1 : Int), ((es[j]).2 : Int)⟩ := fun j hj => by
        simp [toS, List.getD_eq_getElem?_getD, List.getElem?_map, List.getElem?_eq_getElem hj]
      have hlt := hv.lt _ (List.getElem_mem hi')
      have hr := hv.inR _ (List.getElem_mem hi')
      have hb : badAt (m : Int) (toS es) i = false := by
        simp only [badAt, g i hi', Bool.or_eq_false_iff, decide_eq_false_iff_not]; omega
      have hk : backAt (toS es) i = false := by
        by_cases h0 : 0 < i
        · have hs := List.pairwise_iff_getElem.mp hv.sorted (i - 1) i (by omega) hi' (by omega)
          unfold lexlt at hs
          simp only [backAt, g i hi', g (i - 1) (by omega), Bool.and_eq_false_iff, Bool.or_eq_false_iff, decide_eq_false_iff_not]
          omega
        · simp [backAt, h0]
      rw [hb, hk]; rfl
  rw [key _ 0 (by omega)]; rfl
theorem wIn_iff {m : Nat} {es : Ed} (hv : Valid m es) (b : Nat) : wIn (m : Int) (toS es) (b : Int) = decide (b < 2 ^ es.length) := by
  unfold wIn; rw [valid_gOk_iff hv, toS_length, decide_eq_true (show (0 : Int) ≤ (b : Int) by omega), Bool.true_and, Bool.true_and, decide_eq_decide]
  exact Int.ofNat_lt
/-- turned: all bits the other way -/
def tn (l b : Nat) : Nat := 2 ^ l - 1 - b
theorem tn_lt {l b : Nat} : tn l b < 2 ^ l := by unfold tn; have := Nat.two_pow_pos l; omega
theorem tn_bit {l b : Nat} (h : b < 2 ^ l) (i : Nat) : (tn l b).testBit i = (decide (i < l) && !b.testBit i) := by
  unfold tn; rw [show 2 ^ l - 1 - b = 2 ^ l - (b + 1) by omega]; exact Nat.testBit_two_pow_sub_succ h i
theorem tn_xor {l b : Nat} (h : b < 2 ^ l) : b ^^^ (2 ^ l - 1) = tn l b := by
  apply Nat.eq_of_testBit_eq; intro i
  rw [tn_bit h, Nat.testBit_xor, full_bit]
  by_cases hi : i < l
  · simp [hi]
  · simp [hi, Nat.testBit_lt_two_pow (Nat.lt_of_lt_of_le h (Nat.pow_le_pow_right (n := 2) (by omega) (Nat.le_of_not_lt hi)))]
theorem tn_tn {l b : Nat} (h : b < 2 ^ l) : tn l (tn l b) = b := by unfold tn; omega
theorem dirs_tn : ∀ (es : Ed) (b : Nat), b < 2 ^ es.length → dirs es (tn es.length b) = rev (dirs es b) := by
  intro es b hb
  apply List.ext_getElem? ; intro i
  rw [rev, List.getElem?_map, dirs_get, dirs_get]
  cases h : es[i]? with
  | none => rfl
  | some e =>
    have hi : i < es.length := (List.getElem?_eq_some_iff.mp h).1
    simp only [Option.map_some, tn_bit hb, hi, decide_true, Bool.true_and]
    cases b.testBit i <;> rfl
end Go.Proofs.Ytjklkphhfkdkpaa.Lk
end

section
/-
  Directed edges of a graph and a direction: facts that both sides use.
-/
namespace Go.Proofs.Ytjklkphhfkdkpaa.Lk
open Go Go.RowKit Go.Proofs.YtjklkphhfkdkpaaW.PrintWords Go.Proofs.YtjklkphhfkdkpaaW.PrintLast Go.Proofs.YtjklkphhfkdkpaaW.PrintMore Go.Proofs.Ytjklkphhfkdkpaa.P Go.Proofs.Ytjklkphhfkdkpaa.Gw
set_option linter.unusedVariables false
set_option linter.unusedSimpArgs false
theorem dirs_inR {m : Nat} {es : Ed} (hv : InR m es) (b : Nat) : InR m (dirs es b) := by
  intro e he
  obtain ⟨i, hi⟩ := List.getElem?_of_mem he
  rw [dirs_get] at hi
  obtain ⟨x, hx, rfl⟩ := Option.map_eq_some_iff.mp hi
  have := hv x (List.mem_of_getElem? hx)
  cases b.testBit i <;> simp [this.1, this.2]
theorem take_inR {m : Nat} {ds : Ed} (h : InR m ds) (i : Nat) : InR m (ds.take i) := fun e he => h e (List.mem_of_mem_take he)
theorem dirs_getD {es : Ed} {b i : Nat} (hi : i < es.length) : (dirs es b).getD i (0, 0) = bif b.testBit i then ((es.getD i (0, 0)).2, (es.getD i (0, 0)).1) else es.getD i (0, 0) := by
  simp only [List.getD_eq_getElem?_getD, dirs_get, List.getElem?_eq_getElem hi, Option.map_some, Option.getD_some]
theorem take_snoc {ds : Ed} {i : Nat} (hi : i < ds.length) : ds.take (i + 1) = ds.take i ++ [ds.getD i (0, 0)] := by
  rw [List.take_succ_eq_append_getElem hi, List.getD_eq_getElem?_getD, List.getElem?_eq_getElem hi]; rfl
theorem getD_mem {ds : Ed} {i : Nat} (hi : i < ds.length) : ds.getD i (0, 0) ∈ ds := by
  rw [List.getD_eq_getElem?_getD, List.getElem?_eq_getElem hi]; exact List.getElem_mem hi
theorem dirs_nodup {m : Nat} {es : Ed} (hv : Valid m es) (b : Nat) : (dirs es b).Nodup := by
  have key : (dirs es b).map (fun e => if e.1 < e.2 then e else (e.2, e.1)) = es := by
    apply List.ext_getElem?; intro i
    rw [List.getElem?_map, dirs_get]
    cases h : es[i]? with
    | none => rfl
    | some e =>
      have := hv.lt e (List.mem_of_getElem? h)
      simp only [Option.map_some]
      cases b.testBit i
      · simp [this]
      · simp only [cond_true]; rw [if_neg (by omega)]
  have h2 := hv.nodup
  rw [← key] at h2
  have h3 := List.pairwise_map.mp h2
  exact List.Pairwise.imp (fun {a b} hab e => hab (by rw [e])) h3
theorem five {m : Nat} {es : Ed} (hv : Valid m es) : m ≤ 5 := hv.le
theorem rows_small {m : Nat} (hm : m ≤ 5) {ds : Ed} (hd : InR m ds) (u : Nat) : (rowsOf m ds).getD u 0 < 32 := by
  rw [List.getD_eq_getElem?_getD]
  cases h : (rowsOf m ds)[u]? with
  | none => simp
  | some r => exact pow5 hm (rowsOf_lt hd r (List.mem_of_getElem? h))
end Go.Proofs.Ytjklkphhfkdkpaa.Lk
end

section
/-
  impl.count, told by how many numbers do.
-/
namespace Go.Proofs.Ytjklkphhfkdkpaa.Lk
open Go Go.RowKit Go.Proofs.YtjklkphhfkdkpaaW.PrintWords Go.Proofs.YtjklkphhfkdkpaaW.PrintLast Go.Proofs.YtjklkphhfkdkpaaW.PrintMore Go.Proofs.Ytjklkphhfkdkpaa.P Go.Proofs.Ytjklkphhfkdkpaa.Gw
set_option linter.unusedVariables false
set_option linter.unusedSimpArgs false
theorem cntP_le (p : Nat → Bool) : ∀ n, cntP p n ≤ n
  | 0 => Nat.le_refl _
  | n + 1 => by
      have := cntP_le p n
      rw [cntP]; cases p n <;> simp <;> omega
theorem ev_all {g : Nat → Int → Option Bool} {p : Nat → Bool} : ∀ n : Nat, (∀ o : Nat, o < n → Ev (fun k => g k (o : Int)) (p o)) → ∃ K, ∀ k, K ≤ k → ∀ o : Nat, o < n → g k (o : Int) = some (p o)
  | 0, _ => ⟨0, fun k _ o h => absurd h (Nat.not_lt_zero o)⟩
  | n + 1, h => by
      obtain ⟨K1, h1⟩ := ev_all n (fun o ho => h o (by omega))
      obtain ⟨K2, h2⟩ := h n (by omega)
      refine ⟨max K1 K2, fun k hk o ho => ?_⟩
      by_cases e : o = n
      · subst e; exact h2 k (Nat.le_trans (Nat.le_max_right ..) hk)
      · exact h1 k (Nat.le_trans (Nat.le_max_left ..) hk) o (by omega)
theorem cntL_run {g : Int → Option Bool} {p : Nat → Bool} {n : Nat} (hn : n ≤ 1024) (h : ∀ o : Nat, o < n → g (o : Int) = some (p o)) : ∀ d x f : Nat, x + d = n → d < f → cntL g f (n : Int) ((cntP p x : Nat) : Int) (x : Int) = some ((cntP p n : Nat) : Int) := by
  intro d
  induction d with
  | zero =>
    intro x f hx hf
    obtain ⟨f, rfl⟩ : ∃ f', f = f' + 1 := ⟨f - 1, by omega⟩
    obtain rfl : x = n := by omega
    rw [cntL, if_neg (Int.lt_irrefl _)]
  | succ d ih =>
    intro x f hx hf
    obtain ⟨f, rfl⟩ : ∃ f', f = f' + 1 := ⟨f - 1, by omega⟩
    have hle := cntP_le p x
    have hk := ih (x + 1) f (by omega) (by omega)
    rw [cntP] at hk
    have hw1 : wrap64 ((x : Int) + 1) = ((x + 1 : Nat) : Int) := by rw [wrap_id (by omega) (by omega)]; simp
    have hw2 : wrap64 (((cntP p x : Nat) : Int) + 1) = ((1 + cntP p x : Nat) : Int) := by clear hw1; rw [wrap_id (by omega) (by omega)]; omega
    have g1 : (x : Int) < (n : Int) := by clear hw1 hw2; omega
    rw [cntL, if_pos g1, h x (by clear hw1 hw2; omega), Option.bind_some, hw1, hw2]
    cases hp : p x with
    | true => rw [hp] at hk; rw [if_pos rfl]; exact hk
    | false => rw [hp] at hk; rw [if_neg (by simp)]; simpa using hk
theorem cntL_ev {g : Nat → Int → Option Bool} {p : Nat → Bool} {n : Nat} (hn : n ≤ 1024) (h : ∀ o : Nat, o < n → Ev (fun k => g k (o : Int)) (p o)) : Ev (fun k => cntL (g k) k (n : Int) 0 0) ((cntP p n : Nat) : Int) := by
  obtain ⟨K, hK⟩ := ev_all n h
  refine ⟨max K (n + 1), fun k hk => ?_⟩
  exact cntL_run hn (hK k (Nat.le_trans (Nat.le_max_left ..) hk)) n 0 k (by omega) (by have := Nat.le_max_right K (n + 1); omega)
end Go.Proofs.Ytjklkphhfkdkpaa.Lk
end

section
/-
  The program's ends and nextOf: the rows of next nodes.
-/
namespace Go.Proofs.Ytjklkphhfkdkpaa.Lk
open Go Go.RowKit Go.Proofs.YtjklkphhfkdkpaaW.PrintWords Go.Proofs.YtjklkphhfkdkpaaW.PrintLast Go.Proofs.YtjklkphhfkdkpaaW.PrintMore Go.Proofs.Ytjklkphhfkdkpaa.P Go.Proofs.Ytjklkphhfkdkpaa.Gw
set_option linter.unusedVariables false
set_option linter.unusedSimpArgs false
theorem ends_eq {es : Ed} {b i : Nat} (hb : b < 2 ^ 62) (hl : es.length ≤ 60) (hi : i < es.length) (n : Int) :
    impl_ends.f n (toS es) (b : Int) (i : Int) = some ((((dirs es b).getD i (0, 0)).1 : Int), (((dirs es b).getD i (0, 0)).2 : Int)) := by
  unfold impl_ends.f
  rw [if_pos (by omega), if_pos (by rw [toS_length]; omega), rd_toS, dirs_getD hi]
  cases ht : b.testBit i with
  | true => rw [if_pos ((bit_one hb (by omega)).mpr ht)]; rfl
  | false => rw [if_neg (by rw [bit_one hb (by omega), ht]; simp)]; rfl
theorem next_l {m : Nat} {es : Ed} (hv : Valid m es) {b : Nat} (hb : b < 2 ^ es.length) : ∀ d i : Nat, i + d = es.length →
    Ev (fun k => impl_nextOf.l0 k (b : Int) (toI (rowsOf m ((dirs es b).take i))) (es.length : Int) (i : Int) (m : Int) (toS es)) (toI (rowsOf m (dirs es b))) := by
  have hD := dirs_length es b
  have hR := dirs_inR hv.inR b
  have h10 := hv.len
  have hp := pow_le hv.len
  intro d
  induction d with
  | zero =>
    intro i hi
    refine Ev.step (f := fun _ => some (toI (rowsOf m (dirs es b)))) (fun k => ?_) (Ev.now _)
    simp only [impl_nextOf.l0]
    rw [if_neg (by omega), List.take_of_length_le (by omega)]
  | succ d ih =>
    intro i hi
    refine Ev.step (f := fun k => impl_nextOf.l0 k (b : Int) (toI (rowsOf m ((dirs es b).take (i + 1)))) (es.length : Int) ((i + 1 : Nat) : Int) (m : Int) (toS es)) (fun k => ?_) (ih (i + 1) (by omega))
    simp only [impl_nextOf.l0]
    rw [if_pos (by omega), ends_eq (by omega) (by omega) (by omega)]
    simp only [Option.bind_some]
    have he := hR _ (getD_mem (ds := dirs es b) (i := i) (by omega))
    have hlt := rows_small hv.le (take_inR hR i) ((dirs es b).getD i (0, 0)).1
    rw [if_pos (by omega), if_pos (by rw [toI_length, rowsOf_length]; omega), if_pos (by omega), rd_toI, shl_nat (by have := hv.le; omega), or_nat (by omega) (small (n := 5) (by omega) (Nat.pow_lt_pow_right (by omega) (by have := hv.le; omega))), Int.toNat_natCast, set_toI, wrap_id (by omega) (by omega)]
    rw [take_snoc (by omega)]
    simp only [rowsOf, List.foldl_append, List.foldl_cons, List.foldl_nil, addE]
    simp
theorem nextOf_ev {m : Nat} {es : Ed} (hv : Valid m es) {b : Nat} (hb : b < 2 ^ es.length) :
    Ev (fun k => impl_nextOf.f k (m : Int) (toS es) (b : Int)) (toI (rowsOf m (dirs es b))) := by
  refine Ev.congr (f := fun k => impl_nextOf.l0 k (b : Int) (toI (rowsOf m ((dirs es b).take 0))) (es.length : Int) ((0 : Nat) : Int) (m : Int) (toS es)) (fun k => ?_) (next_l hv hb es.length 0 (by omega))
  have h5 := hv.le
  unfold impl_nextOf.f
  rw [if_pos (by omega), if_pos (by omega), Int.toNat_natCast, repl_toI, toS_length]; rfl
end Go.Proofs.Ytjklkphhfkdkpaa.Lk
end

section
/-
  WayTurned and WayFlip, of the program and of the reference, tell the same.
-/
namespace Go.Proofs.Ytjklkphhfkdkpaa.Lk
open Go Go.RowKit Go.Proofs.YtjklkphhfkdkpaaW.PrintWords Go.Proofs.YtjklkphhfkdkpaaW.PrintLast Go.Proofs.YtjklkphhfkdkpaaW.PrintMore Go.Proofs.Ytjklkphhfkdkpaa.P Go.Proofs.Ytjklkphhfkdkpaa.Gw
set_option linter.unusedVariables false
set_option linter.unusedSimpArgs false
theorem all_eq {m : Nat} {es : Ed} (hv : Valid m es) (n : Int) : spec_l1All.f n (toS es) = some ((2 ^ es.length - 1 : Nat) : Int) := by
  have hp := pow_le hv.len
  have h0 := Nat.two_pow_pos es.length
  have h10 := hv.len
  unfold spec_l1All.f
  rw [toS_length, shl_nat (by omega)]
  generalize 2 ^ es.length = p at *
  rw [wrap_id (by omega) (by omega)]; congr 1; omega
theorem allm1 {m : Nat} {es : Ed} (hv : Valid m es) : wrap64 (shl .i64 1 ((toS es).length : Int) - 1) = ((2 ^ es.length - 1 : Nat) : Int) := by
  have := all_eq hv 0
  unfold spec_l1All.f at this
  exact Option.some.inj this
theorem turned_eq {m : Nat} {es : Ed} (hv : Valid m es) {b : Nat} (hb : b < 2 ^ es.length) (n : Int) : impl_turned.f n (toS es) (b : Int) = some ((tn es.length b : Nat) : Int) := by
  have hp := pow_le hv.len
  unfold impl_turned.f
  rw [allm1 hv, xor_nat (by omega) (by omega), tn_xor hb]
theorem sub_eq {m : Nat} {es : Ed} (hv : Valid m es) {b : Nat} (hb : b < 2 ^ es.length) : wrap64 (((2 ^ es.length - 1 : Nat) : Int) - (b : Int)) = ((tn es.length b : Nat) : Int) := by
  have hp := pow_le hv.len
  unfold tn
  generalize 2 ^ es.length = p at *
  rw [wrap_id (by omega) (by omega)]; omega
end Go.Proofs.Ytjklkphhfkdkpaa.Lk
end

section
/-
  The program's sorted and isPlain.
-/
namespace Go.Proofs.Ytjklkphhfkdkpaa.Lk
open Go Go.RowKit Go.Proofs.YtjklkphhfkdkpaaW.PrintWords Go.Proofs.YtjklkphhfkdkpaaW.PrintLast Go.Proofs.YtjklkphhfkdkpaaW.PrintMore Go.Proofs.Ytjklkphhfkdkpaa.P Go.Proofs.Ytjklkphhfkdkpaa.Gw
set_option linter.unusedVariables false
set_option linter.unusedSimpArgs false
def bi : Option Nat → Int
  | none => -1
  | some u => (u : Int)
theorem sorted_l1 {m : Nat} (h5 : m ≤ 5) {rows : List Nat} (hl : rows.length = m) (hr : ∀ u, rows.getD u 0 < 32) (xs : List S37) (n : Int) {done : Nat} (hd : done < 32) (out : List Int) {r : List Int} :
    ∀ d : Nat, d ≤ m → ∀ best : Option Nat,
    Ev (fun k => if bi ((pickF d rows done).or best) < 0 then some out else if out.length < 17592186044416 then (if 0 ≤ bi ((pickF d rows done).or best) then impl_sorted.l0 k (toI rows) (out ++ [bi ((pickF d rows done).or best)]) (Go.bits .or .i64 (done : Int) (shl .i64 1 (bi ((pickF d rows done).or best)))) n xs else none) else none) r →
    Ev (fun k => impl_sorted.l1 k (toI rows) out (done : Int) (bi best) ((d : Int) - 1) n xs) r := by
  intro d
  induction d with
  | zero =>
    intro _ best h
    refine Ev.step (fun k => ?_) h
    simp only [impl_sorted.l1]
    rw [if_neg (by omega)]; rfl
  | succ d ih =>
    intro hdm best h
    have hpick : pickF (d + 1) rows done = (pickF d rows done).or (bif (!done.testBit d && (andn (rows.getD d 0) done == 0)) then some d else none) := by
      unfold pickF
      rw [List.range_succ, List.find?_append]
      rw [List.find?_singleton]
      cases (!done.testBit d && (andn (rows.getD d 0) done == 0)) <;> simp
    rw [hpick, Option.or_assoc] at h
    have hw : wrap64 (((d + 1 : Nat) : Int) - 1 - 1) = (d : Int) - 1 := by rw [wrap_id (by omega) (by omega)]; omega
    have hdd : ((d + 1 : Nat) : Int) - 1 = (d : Int) := by omega
    have hrd := hr d
    have hk := ih (by omega) _ h
    refine Ev.step (fun k => ?_) hk
    simp only [impl_sorted.l1]
    rw [hw, hdd, if_pos (by omega), if_pos (by omega)]
    cases ht : done.testBit d with
    | true => rw [if_neg (by rw [bit_zero (by omega) (by omega), ht]; simp)]; simp [bi]
    | false =>
      rw [if_pos ((bit_zero (by omega) (by omega)).mpr ht), if_pos (by rw [toI_length]; omega), rd_toI, andn_nat (by omega) (by omega)]
      by_cases h0 : andn (rows.getD d 0) done = 0
      · rw [if_pos (by omega), show (andn (rows.getD d 0) done == 0) = true by simpa using h0]; rfl
      · rw [if_neg (by omega), show (andn (rows.getD d 0) done == 0) = false by simpa using h0]; simp
theorem pickF_lt {m : Nat} {rows : List Nat} {done v : Nat} (h : pickF m rows done = some v) : v < m ∧ done.testBit v = false := by
  have h1 := List.find?_some h
  have h2 := List.mem_range.mp (List.mem_of_find?_eq_some h)
  simp only [Bool.and_eq_true, Bool.not_eq_true'] at h1
  exact ⟨h2, h1.1⟩
theorem sorted_l0 {m : Nat} (h5 : m ≤ 5) {rows : List Nat} (hl : rows.length = m) (hr : ∀ u, rows.getD u 0 < 32) (xs : List S37) : ∀ (f done : Nat), done < 2 ^ m → m < pc5 done + f → ∀ out : List Nat, out.length = pc5 done →
    Ev (fun k => impl_sorted.l0 k (toI rows) (toI out) (done : Int) (m : Int) xs) (toI (out ++ sortF m rows f done)) := by
  intro f
  induction f with
  | zero => intro done hd hp; have := pc5_le_n m (by omega) done hd; omega
  | succ f ih =>
    intro done hd hp out ho
    have hd32 := pow5 h5 hd
    have hw : wrap64 ((m : Int) - 1) = (m : Int) - 1 := wrap_id (by omega) (by omega)
    refine Ev.step (fun k => rfl) ?_
    simp only [impl_sorted.l0, hw]
    have hpc := pc5_le_n m (by omega) done hd
    refine sorted_l1 h5 hl hr xs (m : Int) hd32 (toI out) m (Nat.le_refl m) none ?_
    rw [Option.or_none, sortF]
    cases hpick : pickF m rows done with
    | none => simp only [bi, if_pos (show (-1 : Int) < 0 by omega), List.append_nil]; exact Ev.now _
    | some v =>
      obtain ⟨hv, hb⟩ := pickF_lt hpick
      have hadd := pc5_add done hd32 v (by omega) hb
      have p2 : 2 ^ v < 2 ^ 62 := small (n := 5) (by omega) (Nat.pow_lt_pow_right (by omega) (by omega))
      simp only [bi, if_neg (show ¬ (v : Int) < 0 by omega), if_pos (show (toI out).length < 17592186044416 by rw [toI_length]; omega), if_pos (show 0 ≤ (v : Int) by omega), toI_snoc, shl_nat (show v ≤ 61 by omega), or_nat (show done < 2 ^ 62 by omega) p2]
      have hlt : done ||| 2 ^ v < 2 ^ m := Nat.or_lt_two_pow hd (Nat.pow_lt_pow_right (by omega) hv)
      have h := ih (done ||| 2 ^ v) hlt (by omega) (out ++ [v]) (by rw [List.length_append, List.length_singleton]; omega)
      rw [List.append_assoc, List.singleton_append] at h
      exact h
/-- the order that the program finds -/
def srt (m : Nat) (ds : Ed) : List Nat := sortF m (rowsOf m (rev ds)) 6 0
theorem sorted_ev {m : Nat} {es : Ed} (hv : Valid m es) {b : Nat} (hb : b < 2 ^ es.length) :
    Ev (fun k => impl_sorted.f k (m : Int) (toS es) (b : Int)) (toI (srt m (dirs es b))) := by
  have h5 := hv.le
  unfold impl_sorted.f
  simp only [turned_eq hv hb, Option.bind_some]
  have hn := nextOf_ev hv (b := tn es.length b) tn_lt
  rw [dirs_tn es b hb] at hn
  refine Ev.bind hn ?_
  have hR := (dirs_inR hv.inR b).rev
  have h := sorted_l0 h5 (rowsOf_length m _) (rows_small h5 hR) (toS es) 6 0 (Nat.two_pow_pos m) (by have : pc5 0 = 0 := rfl; omega) [] rfl
  rw [List.nil_append] at h
  exact h
theorem isPlain_ev {m : Nat} {es : Ed} (hv : Valid m es) {b : Nat} (hb : b < 2 ^ es.length) :
    Ev (fun k => impl_isPlain.f k (m : Int) (toS es) (b : Int)) (plainF m (rowsOf m (dirs es b))) := by
  unfold impl_isPlain.f
  refine Ev.bind (sorted_ev hv hb) ?_
  have h := plain_eq hv.le (dirs_inR hv.inR b) 6 (by have := hv.le; omega)
  have : (((toI (srt m (dirs es b))).length : Int) == (m : Int)) = plainF m (rowsOf m (dirs es b)) := by
    rw [Bool.eq_iff_iff, ← h, toI_length, beq_iff_eq]
    show ((sortF m (rowsOf m (rev (dirs es b))) 6 0).length : Int) = (m : Int) ↔ _
    omega
  rw [this]; exact Ev.now _
end Go.Proofs.Ytjklkphhfkdkpaa.Lk
end

section
/-
  The reference's l1Ends and l1Reach.
-/
namespace Go.Proofs.Ytjklkphhfkdkpaa.Lk
open Go Go.RowKit Go.Proofs.YtjklkphhfkdkpaaW.PrintWords Go.Proofs.YtjklkphhfkdkpaaW.PrintLast Go.Proofs.YtjklkphhfkdkpaaW.PrintMore Go.Proofs.Ytjklkphhfkdkpaa.P Go.Proofs.Ytjklkphhfkdkpaa.Gw
set_option linter.unusedVariables false
set_option linter.unusedSimpArgs false
theorem refEnds_eq {es : Ed} {b i : Nat} (hb : b < 2 ^ 62) (hl : es.length ≤ 60) (hi : i < es.length) (n : Int) :
    spec_l1Ends.f n (toS es) (b : Int) (i : Int) = some ((((dirs es b).getD i (0, 0)).1 : Int), (((dirs es b).getD i (0, 0)).2 : Int)) := by
  unfold spec_l1Ends.f
  rw [if_pos (by omega), if_pos (by rw [toS_length]; omega), rd_toS, dirs_getD hi]
  cases ht : b.testBit i with
  | true => rw [if_pos ((bit_one hb (by omega)).mpr ht)]; rfl
  | false => rw [if_neg (by rw [bit_one hb (by omega), ht]; simp)]; rfl
theorem refReach_l1 {m : Nat} {es : Ed} (hv : Valid m es) {b : Nat} (hb : b < 2 ^ es.length) {r : Nat} (j : Nat) (s : Nat) (hs : s < 32) : ∀ d i : Nat, i + d = es.length →
    Ev (fun k => spec_l1Reach.l0 k (b : Int) ((lRound (dirs es b) s : Nat) : Int) ((j + 1 : Nat) : Int) (m : Int) (toS es)) (r : Int) → j ≤ 100 →
    Ev (fun k => spec_l1Reach.l1 k (b : Int) ((((dirs es b).take i).foldl lstep s : Nat) : Int) (j : Int) (i : Int) (m : Int) (toS es)) (r : Int) := by
  have hD := dirs_length es b
  have hR := dirs_inR hv.inR b
  have h10 := hv.len
  have hp := pow_le hv.len
  have h5 := hv.le
  intro d
  induction d with
  | zero =>
    intro i hi h hj
    refine Ev.step (fun k => ?_) h
    simp only [spec_l1Reach.l1]
    rw [if_neg (by rw [toS_length]; omega), wrap_id (by omega) (by omega), List.take_of_length_le (by omega)]
    simp [lRound]
  | succ d ih =>
    intro i hi h hj
    have hk := ih (i + 1) (by omega) h hj
    refine Ev.step (fun k => ?_) hk
    have hlt : ((dirs es b).take i).foldl lstep s < 32 := by
      have := lRound_lt (n := 5) ((dirs es b).take i) (fun e he => by have := take_inR hR i e he; omega) s hs
      exact this
    have he := hR _ (getD_mem (ds := dirs es b) (i := i) (by omega))
    have h1 : ((dirs es b).getD i (0, 0)).1 ≤ 64 := by omega
    simp only [spec_l1Reach.l1]
    rw [if_pos (by rw [toS_length]; omega), refEnds_eq (by omega) (by omega) (by omega), wrap_id (by omega) (by omega)]
    simp only [Option.bind_some]
    rw [if_pos (by omega), take_snoc (by omega), List.foldl_append]
    simp only [List.foldl_cons, List.foldl_nil]
    generalize ((dirs es b).take i).foldl lstep s = q at hlt
    unfold lstep
    cases ht : q.testBit ((dirs es b).getD i (0, 0)).1 with
    | true =>
      rw [if_pos ((bit_one (by omega) h1).mpr ht), if_pos (by omega), shl_nat (by omega), or_nat (by omega) (small (n := 5) (by omega) (Nat.pow_lt_pow_right (by omega) (by omega)))]
      simp
    | false => rw [if_neg (by rw [bit_one (by omega) h1, ht]; simp)]; simp
theorem refReach_l0 {m : Nat} {es : Ed} (hv : Valid m es) {b : Nat} (hb : b < 2 ^ es.length) : ∀ d j : Nat, j + d = m → ∀ s : Nat, s < 32 →
    Ev (fun k => spec_l1Reach.l0 k (b : Int) (s : Int) (j : Int) (m : Int) (toS es)) ((lReach d (dirs es b) s : Nat) : Int) := by
  have h5 := hv.le
  have hR := dirs_inR hv.inR b
  intro d
  induction d with
  | zero =>
    intro j hj s hs
    refine Ev.step (f := fun _ => some (s : Int)) (fun k => ?_) (Ev.now _)
    simp only [spec_l1Reach.l0]; rw [if_neg (by omega)]
  | succ d ih =>
    intro j hj s hs
    have hlt : lRound (dirs es b) s < 32 := lRound_lt (n := 5) (dirs es b) (fun e he => by have := hR e he; omega) s hs
    have h1 := refReach_l1 hv hb j s hs es.length 0 (by omega) (ih (j + 1) (by omega) _ hlt) (by omega)
    refine Ev.step (fun k => ?_) h1
    simp only [spec_l1Reach.l0]; rw [if_pos (by omega)]; simp
theorem refReach_ev {m : Nat} {es : Ed} (hv : Valid m es) {b : Nat} (hb : b < 2 ^ es.length) {v : Nat} (hvm : v < m) :
    Ev (fun k => spec_l1Reach.f k (m : Int) (toS es) (b : Int) ((2 ^ v : Nat) : Int)) ((close (rowsOf m (dirs es b)) (2 ^ v) : Nat) : Int) := by
  have h := refReach_l0 hv hb m 0 (by omega) (2 ^ v) (pow5 hv.le (Nat.pow_lt_pow_right (by omega) hvm))
  rw [lReach_eq hv.le (dirs_inR hv.inR b) hvm] at h
  unfold spec_l1Reach.f; exact h
end Go.Proofs.Ytjklkphhfkdkpaa.Lk
end

section
/-
  The reference's l2Plain.
-/
namespace Go.Proofs.Ytjklkphhfkdkpaa.Lk
open Go Go.RowKit Go.Proofs.YtjklkphhfkdkpaaW.PrintWords Go.Proofs.YtjklkphhfkdkpaaW.PrintLast Go.Proofs.YtjklkphhfkdkpaaW.PrintMore Go.Proofs.Ytjklkphhfkdkpaa.P Go.Proofs.Ytjklkphhfkdkpaa.Gw
set_option linter.unusedVariables false
set_option linter.unusedSimpArgs false
def noEdge (v s : Nat) (e : Nat × Nat) : Bool := !(e.1 == v && s.testBit e.2)
theorem free_all {m : Nat} {ds : Ed} (hd : InR m ds) (s v : Nat) : ds.all (noEdge v s) = (((rowsOf m ds).getD v 0 &&& s) == 0) := by
  rw [Bool.eq_iff_iff, List.all_eq_true, beq_iff_eq, row_free hd]
  constructor
  · intro h e he h1
    have := h e he
    simp only [noEdge, h1, beq_self_eq_true, Bool.true_and, Bool.not_eq_true'] at this
    exact this
  · intro h e he
    unfold noEdge
    by_cases h1 : e.1 = v
    · simp [h1, h e he h1]
    · simp [h1]
theorem l2_l2 {m : Nat} {es : Ed} (hv : Valid m es) {b : Nat} (hb : b < 2 ^ es.length) {s : Nat} (hs : s < 32) (j : Int) {v : Nat} (hvm : v < m) {r : Bool} : ∀ d i : Nat, i + d = es.length → ∀ fr : Bool,
    Ev (fun k => if (fr && ((dirs es b).drop i).all (noEdge v s)) = true then (if 0 ≤ (v : Int) then spec_l2Plain.l1 k (b : Int) (Go.bits .andNot .i64 (s : Int) (shl .i64 1 (v : Int))) j (wrap64 ((v : Int) + 1)) (m : Int) (toS es) else none) else spec_l2Plain.l1 k (b : Int) (s : Int) j (wrap64 ((v : Int) + 1)) (m : Int) (toS es)) r →
    Ev (fun k => spec_l2Plain.l2 k (b : Int) (s : Int) j (v : Int) fr (i : Int) (m : Int) (toS es)) r := by
  have hD := dirs_length es b
  have hR := dirs_inR hv.inR b
  have h10 := hv.len
  have hp := pow_le hv.len
  have h5 := hv.le
  intro d
  induction d with
  | zero =>
    intro i hi fr h
    rw [List.drop_eq_nil_of_le (by omega)] at h
    simp only [List.all_nil, Bool.and_true] at h
    refine Ev.step (fun k => ?_) h
    simp only [spec_l2Plain.l2]
    rw [if_neg (by rw [toS_length]; omega)]
  | succ d ih =>
    intro i hi fr h
    have b62 : b < 2 ^ 62 := by clear ih h; omega
    have l60 : es.length ≤ 60 := by clear ih h hb hp; omega
    have hil3 : i < es.length := by clear ih h hb hp; omega
    have hre := refEnds_eq (es := es) (b := b) (i := i) b62 l60 hil3 (m : Int)
    have hil2 : (i : Int) < ((toS es).length : Int) := by rw [toS_length]; exact Int.ofNat_lt.mpr hil3
    have hil : i < (dirs es b).length := by rw [hD]; exact hil3
    clear hp hb
    have hdrop : (dirs es b).drop i = (dirs es b).getD i (0, 0) :: (dirs es b).drop (i + 1) := by
      rw [List.drop_eq_getElem_cons hil, List.getD_eq_getElem?_getD, List.getElem?_eq_getElem hil]; rfl
    rw [hdrop, List.all_cons, ← Bool.and_assoc] at h
    have he := hR _ (getD_mem (ds := dirs es b) hil)
    have hk := ih (i + 1) (by omega) _ h
    clear h ih
    have hwi : wrap64 ((i : Int) + 1) = ((i + 1 : Nat) : Int) := by rw [wrap_id (by omega) (by omega)]; simp
    refine Ev.step (fun k => ?_) hk
    simp only [spec_l2Plain.l2]
    rw [if_pos hil2, hre]
    simp only [Option.bind_some, hwi]
    unfold noEdge
    clear hre hdrop
    generalize (dirs es b).getD i (0, 0) = x at *
    by_cases h1 : x.1 = v
    · rw [if_pos (by omega), if_pos (by omega)]
      cases ht : s.testBit x.2 with
      | true => rw [if_pos ((bit_one (by omega) (by omega)).mpr ht)]; simp [h1]
      | false => rw [if_neg (by rw [bit_one (by omega) (by omega), ht]; simp)]; simp
    · rw [if_neg (by omega), show (x.1 == v) = false by simpa using h1]; simp
theorem dropS_lt (rows : List Nat) (k : Nat) {s : Nat} (h : s < 32) : dropS rows k s < 32 :=
  lt_two_pow_of_bits (n := 5) fun b hb => bit_lt (n := 5) h (dropS_sub rows k s b hb)
theorem l2_l1 {m : Nat} {es : Ed} (hv : Valid m es) {b : Nat} (hb : b < 2 ^ es.length) {s : Nat} (hs : s < 32) (j : Int) {r : Bool}
    (hr : Ev (fun k => spec_l2Plain.l0 k (b : Int) ((dropS (rowsOf m (dirs es b)) m s : Nat) : Int) (wrap64 (j + 1)) (m : Int) (toS es)) r) : ∀ d v : Nat, v + d = m →
    Ev (fun k => spec_l2Plain.l1 k (b : Int) ((dropS (rowsOf m (dirs es b)) v s : Nat) : Int) j (v : Int) (m : Int) (toS es)) r := by
  have h5 := hv.le
  have hR := dirs_inR hv.inR b
  intro d
  induction d with
  | zero =>
    intro v hvm
    obtain rfl : v = m := by omega
    refine Ev.step (fun k => ?_) hr
    simp only [spec_l2Plain.l1]; rw [if_neg (by omega)]
  | succ d ih =>
    intro v hvm
    have hk := ih (v + 1) (by omega)
    have hlt := dropS_lt (rowsOf m (dirs es b)) v hs
    have hwv : wrap64 ((v : Int) + 1) = ((v + 1 : Nat) : Int) := by rw [wrap_id (by omega) (by omega)]; simp
    have p2 : 2 ^ v < 2 ^ 62 := small (n := 5) (by omega) (Nat.pow_lt_pow_right (by omega) (by omega))
    rw [dropS] at hk
    refine Ev.step (f := fun k => spec_l2Plain.l2 k (b : Int) ((dropS (rowsOf m (dirs es b)) v s : Nat) : Int) j (v : Int) true ((0 : Nat) : Int) (m : Int) (toS es)) (fun k => by
      simp only [spec_l2Plain.l1]; rw [if_pos (by omega)]; rfl) ?_
    refine l2_l2 hv hb hlt j (by omega) es.length 0 (by omega) true ?_
    rw [List.drop_zero, Bool.true_and, free_all hR, hwv]
    generalize dropS (rowsOf m (dirs es b)) v s = q at hlt hk
    unfold dropV at hk
    cases hc : ((rowsOf m (dirs es b)).getD v 0 &&& q) == 0 with
    | true =>
      rw [hc] at hk; simp only [cond_true] at hk
      simp only [if_true, if_pos (show 0 ≤ (v : Int) by omega), shl_nat (show v ≤ 61 by omega), andn_nat (show q < 2 ^ 62 by omega) p2]
      exact hk
    | false =>
      rw [hc] at hk; simp only [cond_false] at hk
      simp only [Bool.false_eq_true, if_false]; exact hk
theorem l2_l0 {m : Nat} {es : Ed} (hv : Valid m es) {b : Nat} (hb : b < 2 ^ es.length) : ∀ d j : Nat, j + d = m → ∀ s : Nat, s < 32 →
    Ev (fun k => spec_l2Plain.l0 k (b : Int) (s : Int) (j : Int) (m : Int) (toS es)) (dropN m (rowsOf m (dirs es b)) d s == 0) := by
  have h5 := hv.le
  intro d
  induction d with
  | zero =>
    intro j hj s hs
    have : ((s : Int) == 0) = (s == 0) := by rw [Bool.eq_iff_iff, beq_iff_eq, beq_iff_eq]; omega
    refine Ev.step (f := fun _ => some (s == 0)) (fun k => ?_) (Ev.now _)
    simp only [spec_l2Plain.l0]; rw [if_neg (by omega), this]
  | succ d ih =>
    intro j hj s hs
    have hk := ih (j + 1) (by omega) _ (dropS_lt (rowsOf m (dirs es b)) m hs)
    have hwj : wrap64 ((j : Int) + 1) = ((j + 1 : Nat) : Int) := by rw [wrap_id (by omega) (by omega)]; simp
    rw [← hwj] at hk
    have h := l2_l1 hv hb hs (j : Int) hk m 0 (by omega)
    refine Ev.step (fun k => ?_) h
    simp only [spec_l2Plain.l0]; rw [if_pos (by omega)]; rfl
theorem refPlain_ev {m : Nat} {es : Ed} (hv : Valid m es) {b : Nat} (hb : b < 2 ^ es.length) :
    Ev (fun k => spec_l2Plain.f k (m : Int) (toS es) (b : Int)) (plainF m (rowsOf m (dirs es b))) := by
  have h5 := hv.le
  have h0 := Nat.two_pow_pos m
  have hf : 2 ^ m - 1 < 32 := pow5 h5 (by omega)
  have h := l2_l0 hv hb m 0 (by omega) (2 ^ m - 1) hf
  have hw : wrap64 (((2 ^ m : Nat) : Int) - 1) = ((2 ^ m - 1 : Nat) : Int) := by
    generalize 2 ^ m = p at *
    rw [wrap_id (by omega) (by omega)]; omega
  refine Ev.congr (fun k => ?_) h
  unfold spec_l2Plain.f
  rw [if_pos (by omega), shl_nat (by omega), hw]; rfl
end Go.Proofs.Ytjklkphhfkdkpaa.Lk
end

section
/-
  The program's sinksOf: the nodes whose rows are empty.
-/
namespace Go.Proofs.Ytjklkphhfkdkpaa.Lk
open Go Go.RowKit Go.Proofs.YtjklkphhfkdkpaaW.PrintWords Go.Proofs.YtjklkphhfkdkpaaW.PrintLast Go.Proofs.YtjklkphhfkdkpaaW.PrintMore Go.Proofs.Ytjklkphhfkdkpaa.P Go.Proofs.Ytjklkphhfkdkpaa.Gw
set_option linter.unusedVariables false
set_option linter.unusedSimpArgs false
theorem sinks_l {rows : List Nat} (hr : rows.length ≤ 5) : ∀ d i : Nat, i + d = rows.length → ∀ s : Nat, s < 32 →
    Ev (fun k => impl_sinksOf.l0 k (s : Int) (toI rows) (rows.length : Int) (i : Int)) ((sinksL (rows.drop i) i s : Nat) : Int) := by
  intro d
  induction d with
  | zero =>
    intro i hi s hs
    refine Ev.step (f := fun _ => some (s : Int)) (fun k => ?_) (by rw [List.drop_eq_nil_of_le (by omega)]; exact Ev.now _)
    simp only [impl_sinksOf.l0]; rw [if_neg (by omega)]
  | succ d ih =>
    intro i hi s hs
    have hil : i < rows.length := by omega
    rw [List.drop_eq_getElem_cons hil, sinksL]
    have hlt : (bif rows[i] == 0 then s ||| 2 ^ i else s) < 32 := by
      cases rows[i] == 0
      · exact hs
      · exact Nat.or_lt_two_pow (n := 5) hs (Nat.pow_lt_pow_right (by omega) (by omega))
    refine Ev.step (fun k => ?_) (ih (i + 1) (by omega) _ hlt)
    have hrd : rd (toI rows) (i : Int) = ((rows[i] : Nat) : Int) := by rw [rd_toI, List.getD_eq_getElem?_getD, List.getElem?_eq_getElem hil]; rfl
    simp only [impl_sinksOf.l0]
    rw [if_pos (by omega), if_pos (by omega), if_pos (by rw [toI_length]; omega), hrd, wrap_id (by omega) (by omega)]
    by_cases h0 : rows[i] = 0
    · rw [if_pos (by omega), h0, shl_nat (by omega), or_nat (by omega) (small (n := 5) (by omega) (Nat.pow_lt_pow_right (by omega) (by omega)))]; simp
    · rw [if_neg (by omega), show (rows[i] == 0) = false by simpa using h0]; simp
theorem sinksOf_ev {m : Nat} {es : Ed} (hv : Valid m es) {b : Nat} (hb : b < 2 ^ es.length) :
    Ev (fun k => impl_sinksOf.f k (m : Int) (toS es) (b : Int)) ((sinksF (rowsOf m (dirs es b)) : Nat) : Int) := by
  unfold impl_sinksOf.f
  refine Ev.bind (nextOf_ev hv hb) ?_
  simp only [toI_length]
  have h := sinks_l (rows := rowsOf m (dirs es b)) (by rw [rowsOf_length]; exact hv.le) m 0 (by rw [rowsOf_length]; omega) 0 (by omega)
  exact h
end Go.Proofs.Ytjklkphhfkdkpaa.Lk
end

section
/-
  The reference's l1Out: degrees.
-/
namespace Go.Proofs.Ytjklkphhfkdkpaa.Lk
open Go Go.RowKit Go.Proofs.YtjklkphhfkdkpaaW.PrintWords Go.Proofs.YtjklkphhfkdkpaaW.PrintLast Go.Proofs.YtjklkphhfkdkpaaW.PrintMore Go.Proofs.Ytjklkphhfkdkpaa.P Go.Proofs.Ytjklkphhfkdkpaa.Gw
set_option linter.unusedVariables false
set_option linter.unusedSimpArgs false
theorem refEndsO_eq {es : Ed} {b i : Nat} (hb : b < 2 ^ 62) (hl : es.length ≤ 60) (hi : i < es.length) (n : Int) :
    spec_l1Ends.f n (toS es) (b : Int) (i : Int) = some ((((dirs es b).getD i (0, 0)).1 : Int), (((dirs es b).getD i (0, 0)).2 : Int)) := by
  unfold spec_l1Ends.f
  rw [if_pos (by omega), if_pos (by rw [toS_length]; omega), rd_toS, dirs_getD hi]
  cases ht : b.testBit i with
  | true => rw [if_pos ((bit_one hb (by omega)).mpr ht)]; rfl
  | false => rw [if_neg (by rw [bit_one hb (by omega), ht]; simp)]; rfl
theorem outs_le {m : Nat} {ds : Ed} (hd : InR m ds) (u : Nat) : (outsOf m ds).getD u 0 ≤ ds.length := by
  rw [outsOf_get hd]; exact List.countP_le_length
theorem refOut_l {m : Nat} {es : Ed} (hv : Valid m es) {b : Nat} (hb : b < 2 ^ es.length) : ∀ d i : Nat, i + d = es.length →
    Ev (fun k => spec_l1Out.l0 k (b : Int) (toI (outsOf m ((dirs es b).take i))) (i : Int) (m : Int) (toS es)) (toI (outsOf m (dirs es b))) := by
  have hD := dirs_length es b
  have hR := dirs_inR hv.inR b
  have h10 := hv.len
  have hp := pow_le hv.len
  have h5 := hv.le
  intro d
  induction d with
  | zero =>
    intro i hi
    refine Ev.step (f := fun _ => some (toI (outsOf m (dirs es b)))) (fun k => ?_) (Ev.now _)
    simp only [spec_l1Out.l0]
    rw [if_neg (by rw [toS_length]; omega), List.take_of_length_le (by omega)]
  | succ d ih =>
    intro i hi
    refine Ev.step (fun k => ?_) (ih (i + 1) (by omega))
    have he := hR _ (getD_mem (ds := dirs es b) (i := i) (by omega))
    have hle := outs_le (take_inR hR i) ((dirs es b).getD i (0, 0)).1
    have hlt : ((dirs es b).take i).length ≤ 10 := by rw [List.length_take]; omega
    simp only [spec_l1Out.l0]
    rw [if_pos (by rw [toS_length]; omega), refEndsO_eq (by omega) (by omega) (by omega)]
    simp only [Option.bind_some]
    rw [if_pos (by omega), if_pos (by rw [toI_length, outsOf_length]; omega), rd_toI, wrap_id (x := _ + 1) (by omega) (by omega), wrap_id (by omega) (by omega), Int.toNat_natCast]
    rw [show (((outsOf m ((dirs es b).take i)).getD ((dirs es b).getD i (0, 0)).1 0 : Nat) : Int) + 1 = (((outsOf m ((dirs es b).take i)).getD ((dirs es b).getD i (0, 0)).1 0 + 1 : Nat) : Int) by simp, set_toI, take_snoc (by omega)]
    simp only [outsOf, List.foldl_append, List.foldl_cons, List.foldl_nil, addO]
    simp
theorem refOut_ev {m : Nat} {es : Ed} (hv : Valid m es) {b : Nat} (hb : b < 2 ^ es.length) :
    Ev (fun k => spec_l1Out.f k (m : Int) (toS es) (b : Int)) (toI (outsOf m (dirs es b))) := by
  refine Ev.congr (fun k => ?_) (refOut_l hv hb es.length 0 (by omega))
  have h5 := hv.le
  unfold spec_l1Out.f
  rw [if_pos (by omega), if_pos (by omega), Int.toNat_natCast, repl_toI]; rfl
end Go.Proofs.Ytjklkphhfkdkpaa.Lk
end

section
/-
  The reference's l1Sinks: the same set as the rows' that are empty.
-/
namespace Go.Proofs.Ytjklkphhfkdkpaa.Lk
open Go Go.RowKit Go.Proofs.YtjklkphhfkdkpaaW.PrintWords Go.Proofs.YtjklkphhfkdkpaaW.PrintLast Go.Proofs.YtjklkphhfkdkpaaW.PrintMore Go.Proofs.Ytjklkphhfkdkpaa.P Go.Proofs.Ytjklkphhfkdkpaa.Gw
set_option linter.unusedVariables false
set_option linter.unusedSimpArgs false
theorem refSinks_l {outs : List Nat} {m : Nat} (hm : outs.length = m) (h5 : m ≤ 5) (xs : List S37) : ∀ d i : Nat, i + d = m → ∀ s : Nat, s < 32 →
    Ev (fun k => spec_l1Sinks.l0 k (s : Int) (toI outs) (i : Int) (m : Int) xs) ((sinksL (outs.drop i) i s : Nat) : Int) := by
  intro d
  induction d with
  | zero =>
    intro i hi s hs
    refine Ev.step (f := fun _ => some (s : Int)) (fun k => ?_) (by rw [List.drop_eq_nil_of_le (by omega)]; exact Ev.now _)
    simp only [spec_l1Sinks.l0]; rw [if_neg (by omega)]
  | succ d ih =>
    intro i hi s hs
    have hil : i < outs.length := by omega
    rw [List.drop_eq_getElem_cons hil, sinksL]
    have hlt : (bif outs[i] == 0 then s ||| 2 ^ i else s) < 32 := by
      cases outs[i] == 0
      · exact hs
      · exact Nat.or_lt_two_pow (n := 5) hs (Nat.pow_lt_pow_right (by omega) (by omega))
    refine Ev.step (fun k => ?_) (ih (i + 1) (by omega) _ hlt)
    have hrd : rd (toI outs) (i : Int) = ((outs[i] : Nat) : Int) := by rw [rd_toI, List.getD_eq_getElem?_getD, List.getElem?_eq_getElem hil]; rfl
    simp only [spec_l1Sinks.l0]
    rw [if_pos (by omega), if_pos (by omega), if_pos (by rw [toI_length]; omega), hrd, wrap_id (by omega) (by omega)]
    by_cases h0 : outs[i] = 0
    · rw [if_pos (by omega), h0, shl_nat (by omega), or_nat (by omega) (small (n := 5) (by omega) (Nat.pow_lt_pow_right (by omega) (by omega)))]; simp
    · rw [if_neg (by omega), show (outs[i] == 0) = false by simpa using h0]; simp
theorem sinks_outs {m : Nat} (h5 : m ≤ 5) {ds : Ed} (hd : InR m ds) (hn : ds.Nodup) : sinksF (outsOf m ds) = sinksF (rowsOf m ds) := by
  apply Nat.eq_of_testBit_eq; intro i
  rw [Bool.eq_iff_iff, sinksF_bit, sinksF_bit]
  by_cases hi : i < m
  · have h1 := pc_row h5 hd hn i
    have h2 := rows_small h5 hd i
    have h3 := pc5_zero _ h2
    rw [List.getElem?_eq_getElem (by rw [outsOf_length]; exact hi), List.getElem?_eq_getElem (by rw [rowsOf_length]; exact hi)]
    simp only [List.getD_eq_getElem?_getD, List.getElem?_eq_getElem (show i < (rowsOf m ds).length by rw [rowsOf_length]; exact hi), List.getElem?_eq_getElem (show i < (outsOf m ds).length by rw [outsOf_length]; exact hi), Option.getD_some] at h1 h3
    rw [h1] at h3
    simp only [Option.some.injEq]; exact h3
  · rw [List.getElem?_eq_none (by rw [outsOf_length]; omega), List.getElem?_eq_none (by rw [rowsOf_length]; omega)]
theorem refSinks_ev {m : Nat} {es : Ed} (hv : Valid m es) {b : Nat} (hb : b < 2 ^ es.length) :
    Ev (fun k => spec_l1Sinks.f k (m : Int) (toS es) (b : Int)) ((sinksF (rowsOf m (dirs es b)) : Nat) : Int) := by
  unfold spec_l1Sinks.f
  refine Ev.bind (refOut_ev hv hb) ?_
  rw [← sinks_outs hv.le (dirs_inR hv.inR b) (dirs_nodup hv b)]
  exact refSinks_l (outsOf_length m _) hv.le (toS es) m 0 (by omega) 0 (by omega)
end Go.Proofs.Ytjklkphhfkdkpaa.Lk
end

section
/-
  PlainRoot of the program and of the reference tell the same, for every graph and number.
-/
namespace Go.Proofs.Ytjklkphhfkdkpaa.Lk
open Go Go.RowKit Go.Proofs.YtjklkphhfkdkpaaW.PrintWords Go.Proofs.YtjklkphhfkdkpaaW.PrintLast Go.Proofs.YtjklkphhfkdkpaaW.PrintMore Go.Proofs.Ytjklkphhfkdkpaa.P Go.Proofs.Ytjklkphhfkdkpaa.Gw
set_option linter.unusedVariables false
set_option linter.unusedSimpArgs false
/-- acyclic, with v as its only source -/
def rootP (m : Nat) (es : Ed) (v o : Nat) : Bool := plainF m (rowsOf m (dirs es o)) && decide (sinksF (rowsOf m (rev (dirs es o))) = 2 ^ v)
def cRoot (m : Nat) (es : Ed) (v : Nat) : Nat := cntP (rootP m es v) (2 ^ es.length)
theorem lenPR {m : Nat} {es : Ed} (hv : Valid m es) : (toS es).length < 2 ^ 62 := by rw [toS_length]; have := hv.len; omega
theorem sinks_lt2 (m : Nat) (ds : Ed) : sinksF (rowsOf m ds) < 2 ^ m := by
  apply lt_two_pow_of_bits
  intro b hb
  rw [sinksF_bit] at hb
  have := (List.getElem?_eq_some_iff.mp hb).1
  rw [rowsOf_length] at this; exact this
theorem rootX_ev {m : Nat} {es : Ed} (hv : Valid m es) {v : Nat} (hvm : v < m) {o : Nat} (ho : o < 2 ^ es.length) : Ev (fun k => impl_PlainRootX.f k (o : Int) (m : Int) (toS es) (v : Int)) (rootP m es v o) := by
  have h5 := hv.le
  unfold impl_PlainRootX.f
  refine Ev.bind (isPlain_ev hv ho) ?_
  cases hp : plainF m (rowsOf m (dirs es o)) with
  | false => simp only [Bool.false_eq_true, if_false, rootP, hp, Bool.false_and]; exact Ev.now _
  | true =>
    simp only [if_true, turned_eq hv ho, Option.bind_some]
    have h := sinksOf_ev hv (b := tn es.length o) tn_lt
    rw [dirs_tn es o ho] at h
    refine Ev.bind h ?_
    simp only [if_pos (Int.natCast_nonneg v), shl_nat (show v ≤ 61 by omega)]
    have : (((sinksF (rowsOf m (rev (dirs es o))) : Nat) : Int) == ((2 ^ v : Nat) : Int)) = rootP m es v o := by
      rw [rootP, hp, Bool.true_and, Bool.eq_iff_iff, beq_iff_eq, decide_eq_true_eq]; omega
    rw [this]; exact Ev.now _
theorem impl_PlainRoot_no {n v : Int} {ys : List S37} (hl : ys.length < 2 ^ 62) (hw : gOk n ys = false ∨ ¬ (0 ≤ v ∧ v < n)) : Ev (fun k => impl_PlainRoot.f k n ys v) (0, false) := by
  unfold impl_PlainRoot.f
  refine Ev.bind (impl_wayGraph hl) ?_
  cases hg : gOk n ys with
  | false => simp only [Bool.false_eq_true, if_false]; exact Ev.now _
  | true =>
    have hn : ¬ (0 ≤ v ∧ v < n) := hw.resolve_left (by rw [hg]; simp)
    simp only [if_true]
    by_cases h0 : v < 0
    · simp only [if_pos h0]; exact Ev.now _
    · simp only [if_neg h0, if_pos (show v ≥ n by omega)]; exact Ev.now _
theorem impl_PlainRoot_ev {m : Nat} {es : Ed} (hv : Valid m es) {v : Nat} (hvm : v < m) : Ev (fun k => impl_PlainRoot.f k (m : Int) (toS es) (v : Int)) (((cRoot m es v : Nat) : Int), true) := by
  have h10 := hv.len
  have hp := pow_le h10
  unfold impl_PlainRoot.f
  refine Ev.bind (impl_wayGraph (lenPR hv)) ?_
  rw [valid_gOk_iff hv]
  simp only [if_true, if_neg (show ¬ (v : Int) < 0 by omega), if_neg (show ¬ (v : Int) ≥ (m : Int) by omega), toS_length, shl_nat (show es.length ≤ 61 by omega)]
  have h := cntL_ev (g := fun k o => impl_PlainRootX.f k o (m : Int) (toS es) (v : Int)) (p := rootP m es v) hp (fun o ho => rootX_ev hv hvm ho)
  exact Ev.bind h (Ev.now _)
theorem specRoot_l {m : Nat} {es : Ed} (hv : Valid m es) {v : Nat} (hvm : v < m) : ∀ d o : Nat, o + d = 2 ^ es.length →
    Ev (fun k => spec_PlainRoot.l0 k (v : Int) ((cntP (rootP m es v) o : Nat) : Int) (o : Int) (m : Int) (toS es)) (((cRoot m es v : Nat) : Int), true) := by
  have h5 := hv.le
  have hp := pow_le hv.len
  have h0 := Nat.two_pow_pos es.length
  intro d
  induction d with
  | zero =>
    intro o ho
    obtain rfl : o = 2 ^ es.length := by omega
    refine Ev.step (f := fun _ => some (((cRoot m es v : Nat) : Int), true)) (fun k => ?_) (Ev.now _)
    simp only [spec_PlainRoot.l0, all_eq hv, Option.bind_some]; rw [if_neg (by omega)]; rfl
  | succ d ih =>
    intro o hod
    have hk := ih (o + 1) (by omega)
    have hle := cntP_le (rootP m es v) o
    rw [cntP] at hk
    have ho : o < 2 ^ es.length := by omega
    have hw1 : wrap64 ((o : Int) + 1) = ((o + 1 : Nat) : Int) := by rw [wrap_id (by omega) (by omega)]; simp
    have hw2 : wrap64 (((cntP (rootP m es v) o : Nat) : Int) + 1) = ((1 + cntP (rootP m es v) o : Nat) : Int) := by clear hw1; rw [wrap_id (by omega) (by omega)]; omega
    refine Ev.step (fun k => rfl) ?_
    simp only [spec_PlainRoot.l0, all_eq hv, Option.bind_some, if_pos (show (o : Int) ≤ ((2 ^ es.length - 1 : Nat) : Int) by clear hw1 hw2; omega)]
    refine Ev.bind (refPlain_ev hv ho) ?_
    cases hpl : plainF m (rowsOf m (dirs es o)) with
    | false =>
      have hr : rootP m es v o = false := by rw [rootP, hpl]; rfl
      rw [hr] at hk
      simp only [cond_false, Nat.zero_add] at hk
      simp only [Bool.false_eq_true, if_false, hw1]; exact hk
    | true =>
      simp only [if_true, sub_eq hv ho]
      have h := refSinks_ev hv (b := tn es.length o) tn_lt
      rw [dirs_tn es o ho] at h
      refine Ev.bind h ?_
      simp only [if_pos (Int.natCast_nonneg v), shl_nat (show v ≤ 61 by omega)]
      by_cases hs : sinksF (rowsOf m (rev (dirs es o))) = 2 ^ v
      · have hr : rootP m es v o = true := by rw [rootP, hpl, decide_eq_true hs]; rfl
        rw [hr] at hk
        simp only [cond_true] at hk
        simp only [hs, if_true, hw1, hw2]; exact hk
      · have hr : rootP m es v o = false := by rw [rootP, hpl, decide_eq_false hs]; rfl
        rw [hr] at hk
        simp only [cond_false, Nat.zero_add] at hk
        simp only [if_neg (show ¬ (((sinksF (rowsOf m (rev (dirs es o))) : Nat) : Int) = ((2 ^ v : Nat) : Int)) by clear hw1 hw2; omega), hw1]; exact hk
theorem spec_PlainRoot_no {n v : Int} {ys : List S37} (hl : ys.length < 2 ^ 62) (hw : gOk n ys = false ∨ ¬ (0 ≤ v ∧ v < n)) : Ev (fun k => spec_PlainRoot.f k n ys v) (0, false) := by
  unfold spec_PlainRoot.f
  refine Ev.bind (spec_wayGraph hl) ?_
  cases hg : gOk n ys with
  | false =>
    simp only [Bool.false_eq_true, if_false]
    refine Ev.step (fun k => by simp only [spec_PlainRoot.j0]; rfl) ?_
    simp only [if_true]; exact Ev.now _
  | true =>
    have hn : ¬ (0 ≤ v ∧ v < n) := hw.resolve_left (by rw [hg]; simp)
    obtain ⟨m, es, rfl, rfl, hv⟩ := gOk_valid hg
    have h5 := hv.le; have h1 := hv.pos
    have : (decide (0 ≤ v) && decide (v ≤ (m : Int) - 1)) = false := by
      rw [Bool.and_eq_false_iff, decide_eq_false_iff_not, decide_eq_false_iff_not]; omega
    simp only [if_true, l6In_eq, Option.bind_some, wrap_id (x := (m : Int) - 1) (by omega) (by omega), this, Bool.not_false]
    refine Ev.step (fun k => by simp only [spec_PlainRoot.j0]; rfl) ?_
    simp only [if_true]; exact Ev.now _
theorem spec_PlainRoot_ev {m : Nat} {es : Ed} (hv : Valid m es) {v : Nat} (hvm : v < m) : Ev (fun k => spec_PlainRoot.f k (m : Int) (toS es) (v : Int)) (((cRoot m es v : Nat) : Int), true) := by
  have h5 := hv.le; have h1 := hv.pos
  unfold spec_PlainRoot.f
  refine Ev.bind (spec_wayGraph (lenPR hv)) ?_
  rw [valid_gOk_iff hv]
  have : (decide (0 ≤ (v : Int)) && decide ((v : Int) ≤ (m : Int) - 1)) = true := by
    rw [decide_eq_true (show 0 ≤ (v : Int) by omega), decide_eq_true (show (v : Int) ≤ (m : Int) - 1 by omega)]; rfl
  simp only [if_true, l6In_eq, Option.bind_some, wrap_id (x := (m : Int) - 1) (by omega) (by omega), this, Bool.not_true]
  refine Ev.step (fun k => by simp only [spec_PlainRoot.j0]; rfl) ?_
  simp only [Bool.false_eq_true, if_false]
  exact specRoot_l hv hvm (2 ^ es.length) 0 (by omega)
theorem same_PlainRoot (n : Int) (ys : List S37) (v : Int) (hl : ys.length < 2 ^ 62) : ∃ r : Int × Bool, Ev (fun k => spec_PlainRoot.f k n ys v) r ∧ Ev (fun k => impl_PlainRoot.f k n ys v) r := by
  cases hw : gOk n ys with
  | false => exact ⟨_, spec_PlainRoot_no hl (.inl hw), impl_PlainRoot_no hl (.inl hw)⟩
  | true =>
    by_cases h : 0 ≤ v ∧ v < n
    · obtain ⟨m, es, rfl, rfl, hv⟩ := gOk_valid hw
      obtain ⟨u, rfl⟩ := Int.eq_ofNat_of_zero_le h.1
      exact ⟨_, spec_PlainRoot_ev hv (by omega), impl_PlainRoot_ev hv (by omega)⟩
    · exact ⟨_, spec_PlainRoot_no hl (.inr h), impl_PlainRoot_no hl (.inr h)⟩
end Go.Proofs.Ytjklkphhfkdkpaa.Lk
end
