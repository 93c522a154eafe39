/-
  A graph that comes in as an argument: its number of nodes, and its edges as a list that memory holds.
-/
import Derived.Test.YtjhedhpippppeaaPx0
import Derived.WalkKit
import Derived.ProofKit
import Derived.Deep.Slices
import Derived.Deep.Fields
import Derived.ChangeSame
import Derived.Lib.SmallJoins
namespace Go.Proofs.Ytjhedhpippppeaa.Arg
open Go.ChangeShapes Go.WideShapes Go.ChangeAt Go.RowKit Go.Deep
open Go.Proofs.YtjhedhpippppeaaW.PrintWords Go.Proofs.Ytjhedhpippppeaa.P
set_option linter.unusedVariables false
section
variable {H : Type} {enc : TypeId × Value → H} {w : World} {base : Nat} {spare : Nat → Bool} {held : Bool}
theorem open_edges {fuel : Nat} {cs : List Value} {x : DataW H × List MemPlace} (h : DataW.trod enc Try.prog w base spare held fuel 44 cs = some x) :
    ∃ (A : Option Addr) (len cap : Nat) (xs : List S82), cs = [.slice A len cap] ∧ xs.length = len ∧ len ≤ cap ∧ cap ≤ maxLen ∧ Kd.C k82 w A len xs ∧ ∀ e ∈ xs, (Lit.int .i64 e.f0).wf = true ∧ (Lit.int .i64 e.f1).wf = true := by
  have hC : Try.prog.cellsOf 82 = 2 := by kernel_rfl
  rcases open_slice Try.underlying44 h with ⟨hcs, _⟩ | ⟨a, len, cap, m, n, D, Pl, hcs, hb, hl, hm, hmm, hx, hi⟩
  · exact ⟨none, 0, 0, [], hcs, rfl, Nat.le_refl _, Nat.zero_le _, ⟨rfl, Nat.zero_le _, fun h0 => absurd h0 (by omega)⟩, fun e he => by simp at he⟩
  · have hlm : len ≤ m := by rw [hmm]; split <;> omega
    have key : ∀ i, i < len → ∃ e : S82, ((Lit.int .i64 e.f0).wf = true ∧ (Lit.int .i64 e.f1).wf = true) ∧ w.cell? (a.add (i * 2 + 0)) = some (.int .i64 e.f0) ∧ w.cell? (a.add (i * 2 + 1)) = some (.int .i64 e.f1) := by
      intro i hil
      obtain ⟨cs', hc, ht'⟩ := hi i (by omega)
      rw [hC] at hc
      obtain ⟨ys, n', hn', hy, hlen, hyl, hf⟩ := DataW.trod_struct Try.underlying82 ht'
      obtain ⟨_, hcl, hat⟩ := World.cells?_some hc
      obtain ⟨c0, c1, rfl⟩ : ∃ c0 c1, cs' = [c0, c1] := by
        match cs', hcl with
        | [c0, c1], _ => exact ⟨c0, c1, rfl⟩
      have hC3 : Try.prog.cellsOf 3 = 1 := by kernel_rfl
      have h0 : DataW.trod enc Try.prog w base spare held n' 3 [c0] = ys[0]? := by simpa [hC3] using hf 0 _ rfl
      have h1 : DataW.trod enc Try.prog w base spare held n' 3 [c1] = ys[1]? := by simpa [hC3] using hf 1 _ rfl
      have hy0 : ys[0]? = some (ys[0]'(by rw [hyl]; decide)) := List.getElem?_eq_getElem _
      have hy1 : ys[1]? = some (ys[1]'(by rw [hyl]; decide)) := List.getElem?_eq_getElem _
      obtain ⟨n0, e0, _, w0⟩ := DataW.trod_int Try.underlying3 (h0.trans hy0)
      obtain ⟨n1, e1, _, w1⟩ := DataW.trod_int Try.underlying3 (h1.trans hy1)
      have a0 := hat 0 (by decide)
      have a1 := hat 1 (by decide)
      rw [Go.Deep.add_add] at a0 a1
      injection e0 with e0 _
      injection e1 with e1 _
      subst e0; subst e1
      exact ⟨⟨n0, n1⟩, ⟨w0, w1⟩, a0, a1⟩
    have all : ∃ xs : List S82, xs.length = len ∧ ∀ i e, xs[i]? = some e → ((Lit.int .i64 e.f0).wf = true ∧ (Lit.int .i64 e.f1).wf = true) ∧ w.cell? (a.add (i * 2 + 0)) = some (.int .i64 e.f0) ∧ w.cell? (a.add (i * 2 + 1)) = some (.int .i64 e.f1) := by
      clear hx hi hmm hl hcs hlm
      induction len with
      | zero => exact ⟨[], rfl, fun i e he => by simp at he⟩
      | succ len ih =>
        obtain ⟨xs, h1, h2⟩ := ih (fun i hi => key i (by omega))
        obtain ⟨e, he⟩ := key len (by omega)
        refine ⟨xs ++ [e], by simp [h1], fun i e' hie => ?_⟩
        by_cases hil : i < xs.length
        · rw [List.getElem?_append_left hil] at hie; exact h2 i e' hie
        · rw [List.getElem?_append_right (by omega)] at hie
          have : i - xs.length = 0 := by
            apply Classical.byContradiction; intro hne
            rw [List.getElem?_eq_none (by simp; omega)] at hie; cases hie
          rw [this] at hie
          have hee : e = e' := by simpa using hie
          subst hee
          have : i = len := by omega
          subst this; exact he
    obtain ⟨xs, hxl, hxs⟩ := all
    refine ⟨some a, len, cap, xs, hcs, hxl, hl, hm, ⟨hxl, ?_, fun _ => ⟨a, rfl, fun j p hp => ?_⟩⟩, fun e he => ?_⟩
    · unfold maxLen at hm; omega
    · obtain ⟨_, c0, c1⟩ := hxs j p hp
      refine ⟨[.int .i64 p.f0, .int .i64 p.f1], rfl, ⟨[.int .i64 p.f0], [.int .i64 p.f1], rfl, rfl, rfl⟩, fun i u hu => ?_⟩
      match i, hu with
      | 0, hu => simp at hu; subst hu; exact c0
      | 1, hu => simp at hu; subst hu; exact c1
    · obtain ⟨i, hi', rfl⟩ := List.getElem_of_mem he
      exact (hxs i _ (List.getElem?_eq_getElem hi')).1
theorem open_graph {r : Reach} {b0 : Nat} {v : Value} {d : DataW H} {p : List MemPlace} (hv : Value.okWide Try.prog w r b0 46 v) (h : DataW.Trod enc Try.prog w base spare held 46 v d p) :
    ∃ (n : Int) (A : Option Addr) (cap : Nat) (xs : List S82), v = .agg #[.int .i64 n, .slice A xs.length cap] ∧ (Lit.int .i64 n).wf = true ∧ xs.length ≤ cap ∧ cap ≤ maxLen ∧ Kd.C k82 w A xs.length xs ∧ ∀ e ∈ xs, (Lit.int .i64 e.f0).wf = true ∧ (Lit.int .i64 e.f1).wf = true := by
  obtain ⟨v0, v1, y0, y1, n, rfl, _, _, h0, h1⟩ := Go.Joins.open_agg2 Try.underlying46 (by kernel_rfl) (by kernel_rfl) hv h
  obtain ⟨n0, e0, _, w0⟩ := DataW.trod_int Try.underlying3 h0
  obtain ⟨A, len, cap, xs, e1, rfl, hl, hm, hc, hw⟩ := open_edges h1
  injection e0 with e0 _
  injection e1 with e1 _
  subst e0; subst e1
  exact ⟨n0, A, cap, xs, rfl, w0, hl, hm, hc, hw⟩
end
end Go.Proofs.Ytjhedhpippppeaa.Arg
