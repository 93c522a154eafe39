/-
  WayGraph, of the program and of the reference: both tell 'gOk', for every graph; what is a graph is a sublist of all pairs.
-/
import Derived.Test.YtjhedhpippppeaaOps
import Derived.Test.YtjhedhpippppeaaPx4
import Derived.Test.YtjhedhpippppeaaPx5
import Derived.Test.YtjhedhpippppeaaPx11
namespace Go.Proofs.Ytjhedhpippppeaa.Lk
open Go Go.RowKit Go.Proofs.YtjhedhpippppeaaW.PrintWords Go.Proofs.YtjhedhpippppeaaW.PrintLast Go.Proofs.YtjhedhpippppeaaW.PrintMore Go.Proofs.Ytjhedhpippppeaa.P Go.Proofs.Ytjhedhpippppeaa.Gw
set_option linter.unusedVariables false
set_option linter.unusedSimpArgs false

/-- edges as Go has them -/
def toS (es : Ed) : List S33 := es.map fun e => (⟨(e.1 : Int), (e.2 : Int)⟩ : S33)
theorem toS_length (es : Ed) : (toS es).length = es.length := by simp [toS]
theorem rd_toS (es : Ed) (i : Nat) : rd_T33 (toS es) (i : Int) = ⟨((es.getD i (0, 0)).1 : Int), ((es.getD i (0, 0)).2 : Int)⟩ := by
  simp [rd_T33, toS, List.getD_eq_getElem?_getD]; cases es[i]? <;> simp [z33]

theorem l6In_eq (a b c : Int) : spec_l6In.f a b c = some (decide (b ≤ a) && decide (a ≤ c)) := by
  unfold spec_l6In.f
  by_cases h : a ≥ b
  · rw [if_pos h]; simp [show b ≤ a from h]
  · rw [if_neg h]; simp [show ¬ b ≤ a from h]

def badAt (n : Int) (xs : List S33) (i : Nat) : Bool := decide ((xs.getD i z33).f0 < 0) || decide ((xs.getD i z33).f0 ≥ (xs.getD i z33).f1) || decide ((xs.getD i z33).f1 ≥ n)
def backAt (xs : List S33) (i : Nat) : Bool := decide (0 < i) && (decide ((xs.getD i z33).f0 < (xs.getD (i - 1) z33).f0) || (decide ((xs.getD i z33).f0 = (xs.getD (i - 1) z33).f0) && decide ((xs.getD i z33).f1 ≤ (xs.getD (i - 1) z33).f1)))
def okFrom (n : Int) (xs : List S33) : Nat → Nat → Bool
  | 0, _ => true
  | d + 1, i => !badAt n xs i && !backAt xs i && okFrom n xs d (i + 1)
def gOk (n : Int) (xs : List S33) : Bool := decide (1 ≤ n) && decide (n ≤ 5) && okFrom n xs xs.length 0

theorem impl_j2 {n : Int} {xs : List S33} (hl : xs.length < 2 ^ 62) {d i : Nat} (hi : i + (d + 1) = xs.length)
    (ih : Ev (fun k => impl_WayGraph.l0 k xs (xs.length : Int) ((i + 1 : Nat) : Int) n xs) (okFrom n xs d (i + 1))) :
    Ev (fun k => impl_WayGraph.j2 k (i : Int) xs (xs.length : Int) (i : Int) (badAt n xs i) n xs (xs.getD i z33).f0 (xs.getD i z33).f1) (okFrom n xs (d + 1) i) := by
  have hw1 : wrap64 ((i : Int) + 1) = ((i + 1 : Nat) : Int) := by rw [wrap_id (by omega) (by omega)]; simp
  rw [okFrom]
  cases hb : badAt n xs i with
  | true => exact Ev.step (f := fun _ => some false) (fun k => by simp only [impl_WayGraph.j2]; rw [if_pos trivial]) (by simpa using Ev.now false)
  | false =>
    by_cases h0 : 0 < i
    · have hw : wrap64 ((i : Int) - 1) = ((i - 1 : Nat) : Int) := by rw [wrap_id (by omega) (by omega)]; omega
      have hr : rd_T33 xs ((i - 1 : Nat) : Int) = xs.getD (i - 1) z33 := by simp [rd_T33]
      by_cases c1 : (xs.getD i z33).f0 < (xs.getD (i - 1) z33).f0
      · have hbk : backAt xs i = true := by simp only [backAt, h0, c1]; rfl
        rw [hbk]
        exact Ev.step (f := fun _ => some false) (fun k => by
          simp only [impl_WayGraph.j2]; rw [if_neg (by simp), if_pos (by omega), hw, if_pos (by omega), if_pos (by omega), hr, if_pos c1]) (by simpa using Ev.now false)
      · by_cases c2 : (xs.getD i z33).f0 = (xs.getD (i - 1) z33).f0
        · by_cases c3 : (xs.getD i z33).f1 ≤ (xs.getD (i - 1) z33).f1
          · have hbk : backAt xs i = true := by simp only [backAt, h0, c2, c3]; simp
            rw [hbk]
            exact Ev.step (f := fun _ => some false) (fun k => by
              simp only [impl_WayGraph.j2]; rw [if_neg (by simp), if_pos (by omega), hw, if_pos (by omega), if_pos (by omega), hr, if_neg c1, if_pos c2, if_pos c3]) (by simpa using Ev.now false)
          · have hbk : backAt xs i = false := by simp only [backAt, c1, c3]; simp
            rw [hbk]
            refine Ev.step (f := fun k => impl_WayGraph.l0 k xs (xs.length : Int) ((i + 1 : Nat) : Int) n xs) (fun k => by
              simp only [impl_WayGraph.j2]; rw [if_neg (by simp), if_pos (by omega), hw, if_pos (by omega), if_pos (by omega), hr, if_neg c1, if_pos c2, if_neg c3, hw1]) (by simpa using ih)
        · have hbk : backAt xs i = false := by simp only [backAt, c1, c2]; simp
          rw [hbk]
          refine Ev.step (f := fun k => impl_WayGraph.l0 k xs (xs.length : Int) ((i + 1 : Nat) : Int) n xs) (fun k => by
            simp only [impl_WayGraph.j2]; rw [if_neg (by simp), if_pos (by omega), hw, if_pos (by omega), if_pos (by omega), hr, if_neg c1, if_neg c2, hw1]) (by simpa using ih)
    · have hbk : backAt xs i = false := by simp only [backAt, h0]; simp
      rw [hbk]
      refine Ev.step (f := fun k => impl_WayGraph.l0 k xs (xs.length : Int) ((i + 1 : Nat) : Int) n xs) (fun k => by
        simp only [impl_WayGraph.j2]; rw [if_neg (by simp), if_neg (by omega), hw1]) (by simpa using ih)
theorem impl_l0 {n : Int} {xs : List S33} (hl : xs.length < 2 ^ 62) : ∀ d i : Nat, i + d = xs.length →
    Ev (fun k => impl_WayGraph.l0 k xs (xs.length : Int) (i : Int) n xs) (okFrom n xs d i) := by
  intro d
  induction d with
  | zero => intro i hi; exact Ev.step (f := fun _ => some true) (fun k => by simp only [impl_WayGraph.l0]; rw [if_neg (by omega)]) (Ev.now true)
  | succ d ih =>
    intro i hi
    refine Ev.step (f := fun k => impl_WayGraph.j2 k (i : Int) xs (xs.length : Int) (i : Int) (badAt n xs i) n xs (xs.getD i z33).f0 (xs.getD i z33).f1) (fun k => ?_) (impl_j2 hl hi (ih (i + 1) (by omega)))
    have hr : rd_T33 xs (i : Int) = xs.getD i z33 := by simp [rd_T33]
    simp only [impl_WayGraph.l0]
    rw [if_pos (by omega), if_pos (by omega), if_pos (by omega), hr]
    unfold badAt
    by_cases c1 : (xs.getD i z33).f0 < 0
    · rw [if_pos c1, decide_eq_true c1]; rfl
    · rw [if_neg c1]
      by_cases c2 : (xs.getD i z33).f0 ≥ (xs.getD i z33).f1
      · rw [if_pos c2, decide_eq_true c2]; simp
      · rw [if_neg c2, decide_eq_false c1, decide_eq_false c2]; simp
theorem impl_wayGraph {n : Int} {xs : List S33} (hl : xs.length < 2 ^ 62) : Ev (fun k => impl_WayGraph.f k n xs) (gOk n xs) := by
  unfold gOk
  by_cases h1 : n < 1
  · rw [decide_eq_false (show ¬ 1 ≤ n by omega)]
    refine Ev.congr (f := fun k => impl_WayGraph.j0 k true n xs) (fun k => by unfold impl_WayGraph.f; rw [if_pos h1]) ?_
    exact Ev.step (f := fun _ => some false) (fun k => by simp only [impl_WayGraph.j0]; rw [if_pos trivial]) (Ev.now false)
  · rw [decide_eq_true (show 1 ≤ n by omega)]
    refine Ev.congr (f := fun k => impl_WayGraph.j0 k (decide (n > 5)) n xs) (fun k => by unfold impl_WayGraph.f; rw [if_neg h1]) ?_
    by_cases h2 : n > 5
    · rw [decide_eq_true h2, decide_eq_false (show ¬ n ≤ 5 by omega)]
      exact Ev.step (f := fun _ => some false) (fun k => by simp only [impl_WayGraph.j0]; rw [if_pos trivial]) (Ev.now false)
    · rw [decide_eq_false h2, decide_eq_true (show n ≤ 5 by omega)]
      refine Ev.step (f := fun k => impl_WayGraph.l0 k xs (xs.length : Int) ((0 : Nat) : Int) n xs) (fun k => by simp only [impl_WayGraph.j0]; rw [if_neg (by simp)]; rfl) ?_
      simpa using impl_l0 (n := n) hl xs.length 0 (by omega)

theorem spec_j1 {n : Int} {xs : List S33} (hl : xs.length < 2 ^ 62) {d i : Nat} (hi : i + (d + 1) = xs.length) (r : Bool)
    (ih : Ev (fun k => spec_WayGraph.l0 k ((i + 1 : Nat) : Int) n xs) r) :
    Ev (fun k => spec_WayGraph.j1 k (i : Int) false n xs (xs.getD i z33).f0 (xs.getD i z33).f1) (!backAt xs i && r) := by
  have hw1 : wrap64 ((i : Int) + 1) = ((i + 1 : Nat) : Int) := by rw [wrap_id (by omega) (by omega)]; simp
  by_cases h0 : 0 < i
  · have hw : wrap64 ((i : Int) - 1) = ((i - 1 : Nat) : Int) := by rw [wrap_id (by omega) (by omega)]; omega
    have hr : rd_T33 xs ((i - 1 : Nat) : Int) = xs.getD (i - 1) z33 := by simp [rd_T33]
    by_cases c1 : (xs.getD i z33).f0 < (xs.getD (i - 1) z33).f0
    · have hbk : backAt xs i = true := by simp only [backAt, h0, c1]; rfl
      rw [hbk]
      exact Ev.step (f := fun _ => some false) (fun k => by
        simp only [spec_WayGraph.j1]; rw [if_neg (by simp), if_pos (by omega), hw, if_pos (by omega), if_pos (by omega), hr, if_pos c1]) (by simpa using Ev.now false)
    · by_cases c2 : (xs.getD i z33).f0 = (xs.getD (i - 1) z33).f0
      · by_cases c3 : (xs.getD i z33).f1 ≤ (xs.getD (i - 1) z33).f1
        · have hbk : backAt xs i = true := by simp only [backAt, h0, c2, c3]; simp
          rw [hbk]
          exact Ev.step (f := fun _ => some false) (fun k => by
            simp only [spec_WayGraph.j1]; rw [if_neg (by simp), if_pos (by omega), hw, if_pos (by omega), if_pos (by omega), hr, if_neg c1, if_pos c2, if_pos c3]) (by simpa using Ev.now false)
        · have hbk : backAt xs i = false := by simp only [backAt, c1, c3]; simp
          rw [hbk]
          refine Ev.step (f := fun k => spec_WayGraph.l0 k ((i + 1 : Nat) : Int) n xs) (fun k => by
            simp only [spec_WayGraph.j1]; rw [if_neg (by simp), if_pos (by omega), hw, if_pos (by omega), if_pos (by omega), hr, if_neg c1, if_pos c2, if_neg c3, hw1]) (by simpa using ih)
      · have hbk : backAt xs i = false := by simp only [backAt, c1, c2]; simp
        rw [hbk]
        refine Ev.step (f := fun k => spec_WayGraph.l0 k ((i + 1 : Nat) : Int) n xs) (fun k => by
          simp only [spec_WayGraph.j1]; rw [if_neg (by simp), if_pos (by omega), hw, if_pos (by omega), if_pos (by omega), hr, if_neg c1, if_neg c2, hw1]) (by simpa using ih)
  · have hbk : backAt xs i = false := by simp only [backAt, h0]; simp
    rw [hbk]
    refine Ev.step (f := fun k => spec_WayGraph.l0 k ((i + 1 : Nat) : Int) n xs) (fun k => by
      simp only [spec_WayGraph.j1]; rw [if_neg (by simp), if_neg (by omega), hw1]) (by simpa using ih)
theorem spec_l0_step {n : Int} {xs : List S33} {i : Nat} (hi : i < xs.length) : ∃ b : Bool,
    (b = (!(decide (0 ≤ (xs.getD i z33).f0) && decide ((xs.getD i z33).f0 ≤ wrap64 (n - 1)) && (decide (wrap64 ((xs.getD i z33).f0 + 1) ≤ (xs.getD i z33).f1) && decide ((xs.getD i z33).f1 ≤ wrap64 (n - 1)))))) ∧
    ∀ k, spec_WayGraph.l0 (k + 1) (i : Int) n xs = spec_WayGraph.j1 k (i : Int) b n xs (xs.getD i z33).f0 (xs.getD i z33).f1 := by
  refine ⟨_, rfl, fun k => ?_⟩
  have hr : rd_T33 xs (i : Int) = xs.getD i z33 := by simp [rd_T33]
  simp only [spec_WayGraph.l0]
  rw [if_pos (by omega), if_pos (by omega), hr, l6In_eq, l6In_eq]
  simp only [Option.bind_some]
  cases (decide (0 ≤ (xs.getD i z33).f0) && decide ((xs.getD i z33).f0 ≤ wrap64 (n - 1))) <;> simp
theorem spec_l0_ok {n : Int} (h1 : 1 ≤ n) (h5 : n ≤ 5) {xs : List S33} (hl : xs.length < 2 ^ 62) : ∀ d i : Nat, i + d = xs.length →
    Ev (fun k => spec_WayGraph.l0 k (i : Int) n xs) (okFrom n xs d i) := by
  intro d
  induction d with
  | zero =>
    intro i hi
    exact Ev.step (f := fun _ => some true) (fun k => by simp only [spec_WayGraph.l0]; rw [if_neg (by omega), l6In_eq]; simp [h1, h5]) (Ev.now true)
  | succ d ih =>
    intro i hi
    obtain ⟨b, hb, hs⟩ := spec_l0_step (n := n) (xs := xs) (i := i) (by omega)
    have hbad : b = badAt n xs i := by
      rw [hb]; unfold badAt
      rw [wrap_id (x := n - 1) (by omega) (by omega)]
      by_cases c1 : 0 ≤ (xs.getD i z33).f0
      · by_cases c2 : (xs.getD i z33).f0 ≤ n - 1
        · rw [wrap_id (x := (xs.getD i z33).f0 + 1) (by omega) (by omega), decide_eq_true c1, decide_eq_true c2, decide_eq_false (show ¬ (xs.getD i z33).f0 < 0 by omega)]
          by_cases c3 : (xs.getD i z33).f0 + 1 ≤ (xs.getD i z33).f1
          · rw [decide_eq_true c3, decide_eq_false (show ¬ (xs.getD i z33).f0 ≥ (xs.getD i z33).f1 by omega)]
            by_cases c4 : (xs.getD i z33).f1 ≤ n - 1
            · rw [decide_eq_true c4, decide_eq_false (show ¬ (xs.getD i z33).f1 ≥ n by omega)]; rfl
            · rw [decide_eq_false c4, decide_eq_true (show (xs.getD i z33).f1 ≥ n by omega)]; rfl
          · rw [decide_eq_false c3, decide_eq_true (show (xs.getD i z33).f0 ≥ (xs.getD i z33).f1 by omega)]; rfl
        · rw [decide_eq_true c1, decide_eq_false c2]
          by_cases c3 : (xs.getD i z33).f0 ≥ (xs.getD i z33).f1
          · rw [decide_eq_true c3]; simp
          · rw [decide_eq_true (show (xs.getD i z33).f1 ≥ n by omega)]; simp
      · rw [decide_eq_false c1, decide_eq_true (show (xs.getD i z33).f0 < 0 by omega)]; simp
    refine Ev.step (f := fun k => spec_WayGraph.j1 k (i : Int) b n xs (xs.getD i z33).f0 (xs.getD i z33).f1) hs ?_
    rw [okFrom, hbad]
    cases badAt n xs i with
    | true => exact Ev.step (f := fun _ => some false) (fun k => by simp only [spec_WayGraph.j1]; rw [if_pos trivial]) (by simpa using Ev.now false)
    | false => simpa using spec_j1 hl hi _ (ih (i + 1) (by omega))
theorem spec_l0_no {n : Int} (hn : ¬ (1 ≤ n ∧ n ≤ 5)) {xs : List S33} (hl : xs.length < 2 ^ 62) : ∀ d i : Nat, i + d = xs.length →
    Ev (fun k => spec_WayGraph.l0 k (i : Int) n xs) false := by
  intro d
  induction d with
  | zero =>
    intro i hi
    exact Ev.step (f := fun _ => some false) (fun k => by
      simp only [spec_WayGraph.l0]; rw [if_neg (by omega), l6In_eq]
      have : (decide (1 ≤ n) && decide (n ≤ 5)) = false := by
        by_cases h : 1 ≤ n
        · rw [decide_eq_false (show ¬ n ≤ 5 by omega)]; simp
        · rw [decide_eq_false h]; rfl
      rw [this]; rfl) (Ev.now false)
  | succ d ih =>
    intro i hi
    obtain ⟨b, hb, hs⟩ := spec_l0_step (n := n) (xs := xs) (i := i) (by omega)
    refine Ev.step (f := fun k => spec_WayGraph.j1 k (i : Int) b n xs (xs.getD i z33).f0 (xs.getD i z33).f1) hs ?_
    cases b with
    | true => exact Ev.step (f := fun _ => some false) (fun k => by simp only [spec_WayGraph.j1]; rw [if_pos trivial]) (by simpa using Ev.now false)
    | false => simpa using spec_j1 hl hi _ (ih (i + 1) (by omega))
theorem spec_wayGraph {n : Int} {xs : List S33} (hl : xs.length < 2 ^ 62) : Ev (fun k => spec_WayGraph.f k n xs) (gOk n xs) := by
  refine Ev.congr (f := fun k => spec_WayGraph.l0 k ((0 : Nat) : Int) n xs) (fun k => rfl) ?_
  unfold gOk
  by_cases h : 1 ≤ n ∧ n ≤ 5
  · rw [decide_eq_true h.1, decide_eq_true h.2]
    simpa using spec_l0_ok h.1 h.2 hl xs.length 0 (by omega)
  · have : (decide (1 ≤ n) && decide (n ≤ 5)) = false := by
      by_cases h1 : 1 ≤ n
      · rw [decide_eq_false (show ¬ n ≤ 5 by omega)]; simp
      · rw [decide_eq_false h1]; rfl
    rw [this]
    exact spec_l0_no h hl xs.length 0 (by omega)

/-! what is a graph -/
def lexlt (a b : Nat × Nat) : Prop := a.1 < b.1 ∨ a.1 = b.1 ∧ a.2 < b.2
instance (a b : Nat × Nat) : Decidable (lexlt a b) := inferInstanceAs (Decidable (_ ∨ _ ∧ _))
theorem lexlt_irrefl (a : Nat × Nat) : ¬ lexlt a a := by unfold lexlt; omega
theorem lexlt_trans (a b c : Nat × Nat) (h : lexlt a b) (k : lexlt b c) : lexlt a c := by unfold lexlt at *; omega
/-- a graph: its edges are some of all pairs, in order -/
structure Valid (m : Nat) (es : Ed) : Prop where
  pos : 1 ≤ m
  le : m ≤ 5
  sub : es.Sublist (pairs m)

theorem okFrom_at {n : Int} {xs : List S33} : ∀ d i : Nat, okFrom n xs d i = true → ∀ j, i ≤ j → j < i + d → badAt n xs j = false ∧ backAt xs j = false := by
  intro d
  induction d with
  | zero => intro i _ j h1 h2; omega
  | succ d ih =>
    intro i h j h1 h2
    rw [okFrom] at h
    simp only [Bool.and_eq_true, Bool.not_eq_true'] at h
    by_cases e : j = i
    · subst e; exact h.1
    · exact ih (i + 1) h.2 j (by omega) (by omega)
theorem pairs_sorted : ∀ m, m ≤ 5 → (pairs m).Pairwise lexlt := by
  intro m hm
  exact (show ∀ m, m < 6 → (pairs m).Pairwise lexlt by decide) m (by omega)
theorem mem_pairs : ∀ m, m ≤ 5 → ∀ a b, a < b → b < m → (a, b) ∈ pairs m := by
  intro m hm a b h1 h2
  have key : ∀ m, m < 6 → ∀ b, b < m → ∀ a, a < b → (pairs m).contains (a, b) = true := by decide
  exact List.contains_iff_mem.mp (key m (by omega) b h2 a h1)
theorem pairs_mem : ∀ m, m < 6 → ∀ e ∈ pairs m, e.1 < e.2 ∧ e.2 < m := by decide
theorem pairs_length : ∀ m, m < 6 → (pairs m).length ≤ 10 := by decide
theorem gOk_valid {n : Int} {xs : List S33} (h : gOk n xs = true) : ∃ (m : Nat) (es : Ed), n = (m : Int) ∧ xs = toS es ∧ Valid m es := by
  unfold gOk at h
  simp only [Bool.and_eq_true, decide_eq_true_eq] at h
  obtain ⟨⟨h1, h5⟩, hok⟩ := h
  have hat := okFrom_at xs.length 0 hok
  obtain ⟨m, rfl⟩ := Int.eq_ofNat_of_zero_le (show 0 ≤ n by omega)
  have hb : ∀ j (hj : j < xs.length), 0 ≤ (xs[j]).f0 ∧ (xs[j]).f0 < (xs[j]).f1 ∧ (xs[j]).f1 < (m : Int) := by
    intro j hj
    have := (hat j (by omega) (by omega)).1
    simp only [badAt, List.getD_eq_getElem?_getD, List.getElem?_eq_getElem hj, Option.getD_some, Bool.or_eq_false_iff, decide_eq_false_iff_not] at this
    omega
  have hk : ∀ j (hj : j + 1 < xs.length), (xs[j]).f0 < (xs[j + 1]).f0 ∨ (xs[j]).f0 = (xs[j + 1]).f0 ∧ (xs[j]).f1 < (xs[j + 1]).f1 := by
    intro j hj
    have := (hat (j + 1) (by omega) (by omega)).2
    simp only [backAt, List.getD_eq_getElem?_getD, List.getElem?_eq_getElem hj, Nat.add_sub_cancel, List.getElem?_eq_getElem (show j < xs.length by omega), Option.getD_some, Bool.and_eq_false_iff, Bool.or_eq_false_iff, decide_eq_false_iff_not] at this
    omega
  refine ⟨m, xs.map fun e => (e.f0.toNat, e.f1.toNat), rfl, ?_, by omega, by omega, ?_⟩
  · apply List.ext_getElem (by simp [toS])
    intro j h2 h3
    have := hb j h2
    have e0 : ((xs[j]).f0.toNat : Int) = (xs[j]).f0 := by omega
    have e1 : ((xs[j]).f1.toNat : Int) = (xs[j]).f1 := by omega
    simp only [toS, List.getElem_map, e0, e1]
  · apply sublist_of_sorted lexlt lexlt_irrefl lexlt_trans _ _ (pairs_sorted m (by omega))
    · rw [List.pairwise_iff_getElem]
      have step : ∀ (c i : Nat) (hj : i + c + 1 < xs.length), lexlt ((xs[i]).f0.toNat, (xs[i]).f1.toNat) ((xs[i + c + 1]).f0.toNat, (xs[i + c + 1]).f1.toNat) := by
        intro c
        induction c with
        | zero =>
          intro i hj
          have a := hb i (by omega); have b := hb (i + 1) (by omega); have c := hk i (by omega)
          unfold lexlt; simp only [Nat.add_zero]; omega
        | succ c ih =>
          intro i hj
          refine lexlt_trans _ _ _ (ih i (by omega)) ?_
          have a := hb (i + c + 1) (by omega); have b := hb (i + c + 1 + 1) (by omega); have c' := hk (i + c + 1) (by omega)
          unfold lexlt; simp only [show i + (c + 1) + 1 = i + c + 1 + 1 by omega]; omega
      intro i j hi hj hij
      simp only [List.length_map] at hi hj
      have := step (j - i - 1) i (by omega)
      simp only [show i + (j - i - 1) + 1 = j by omega] at this
      simpa using this
    · intro x hx
      obtain ⟨e, he, rfl⟩ := List.mem_map.mp hx
      obtain ⟨j, hj, rfl⟩ := List.getElem_of_mem he
      have := hb j hj
      exact mem_pairs m (by omega) _ _ (by omega) (by omega)
namespace Valid
variable {m : Nat} {es : Ed}
theorem inR (h : Valid m es) : InR m es := fun e he => by
  have := pairs_mem m (by have := h.le; omega) e (h.sub.subset he); omega
theorem lt (h : Valid m es) : ∀ e ∈ es, e.1 < e.2 := fun e he => (pairs_mem m (by have := h.le; omega) e (h.sub.subset he)).1
theorem len (h : Valid m es) : es.length ≤ 10 := Nat.le_trans h.sub.length_le (pairs_length m (by have := h.le; omega))
theorem sorted (h : Valid m es) : es.Pairwise lexlt := List.Pairwise.sublist h.sub (pairs_sorted m h.le)
theorem nodup (h : Valid m es) : es.Nodup := List.Pairwise.imp (fun {a b} hab => by rintro rfl; exact lexlt_irrefl _ hab) h.sorted
end Valid
end Go.Proofs.Ytjhedhpippppeaa.Lk
