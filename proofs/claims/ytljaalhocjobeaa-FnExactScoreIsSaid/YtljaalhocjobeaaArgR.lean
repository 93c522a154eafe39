/-
  A list of whole numbers that comes in as an argument.
-/
import Derived.Test.YtljaalhocjobeaaArg
namespace Go.Proofs.Ytljaalhocjobeaa.Arg
open Go.ChangeShapes Go.WideShapes Go.ChangeAt Go.RowKit Go.Deep
open Go.Proofs.YtljaalhocjobeaaW.PrintWords Go.Proofs.Ytljaalhocjobeaa.P
set_option linter.unusedVariables false
section
variable {H : Type} {enc : TypeId × Value → H} {w : World} {base : Nat} {spare : Nat → Bool} {held : Bool}
theorem open_ints {fuel : Nat} {cs : List Value} {x : DataW H × List MemPlace} (h : DataW.trod enc Try.prog w base spare held fuel 25 cs = some x) :
    ∃ (A : Option Addr) (len cap : Nat) (xs : List Int), cs = [.slice A len cap] ∧ xs.length = len ∧ len ≤ cap ∧ cap ≤ maxLen ∧ Kd.C (Kd.int .i64) w A len xs ∧ ∀ e ∈ xs, (Lit.int .i64 e).wf = true := by
  have hC : Try.prog.cellsOf 3 = 1 := by kernel_rfl
  rcases open_slice Try.underlying25 h with ⟨hcs, _⟩ | ⟨a, len, cap, m, n, D, Pl, hcs, hb, hl, hm, hmm, hx, hi⟩
  · exact ⟨none, 0, 0, [], hcs, rfl, Nat.le_refl _, Nat.zero_le _, ⟨rfl, Nat.zero_le _, fun h0 => absurd h0 (by omega)⟩, fun e he => by simp at he⟩
  · have hlm : len ≤ m := by rw [hmm]; split <;> omega
    have key : ∀ i, i < len → ∃ e : Int, (Lit.int .i64 e).wf = true ∧ w.cell? (a.add (i * 1 + 0)) = some (.int .i64 e) := by
      intro i hil
      obtain ⟨cs', hc, ht'⟩ := hi i (by omega)
      rw [hC] at hc
      obtain ⟨_, hcl, hat⟩ := World.cells?_some hc
      obtain ⟨c0, rfl⟩ : ∃ c0, cs' = [c0] := by
        match cs', hcl with
        | [c0], _ => exact ⟨c0, rfl⟩
      obtain ⟨n0, e0, _, w0⟩ := DataW.trod_int Try.underlying3 ht'
      have a0 := hat 0 (by decide)
      rw [Go.Deep.add_add] at a0
      injection e0 with e0 _
      subst e0
      exact ⟨n0, w0, a0⟩
    have all : ∃ xs : List Int, xs.length = len ∧ ∀ i e, xs[i]? = some e → (Lit.int .i64 e).wf = true ∧ w.cell? (a.add (i * 1 + 0)) = some (.int .i64 e) := by
      clear hx hi hmm hl hcs hlm
      induction len with
      | zero => exact ⟨[], rfl, fun i e he => by simp at he⟩
      | succ len ih =>
        obtain ⟨xs, h1, h2⟩ := ih (fun i hi => key i (by omega))
        obtain ⟨e, he⟩ := key len (by omega)
        refine ⟨xs ++ [e], by simp [h1], fun i e' hie => ?_⟩
        by_cases hil : i < xs.length
        · rw [List.getElem?_append_left hil] at hie; exact h2 i e' hie
        · rw [List.getElem?_append_right (by omega)] at hie
          have : i - xs.length = 0 := by
            apply Classical.byContradiction; intro hne
            rw [List.getElem?_eq_none (by simp; omega)] at hie; cases hie
          rw [this] at hie
          have hee : e = e' := by simpa using hie
          subst hee
          have : i = len := by omega
          subst this; exact he
    obtain ⟨xs, hxl, hxs⟩ := all
    refine ⟨some a, len, cap, xs, hcs, hxl, hl, hm, ⟨hxl, ?_, fun _ => ⟨a, rfl, fun j p hp => ?_⟩⟩, fun e he => ?_⟩
    · unfold maxLen at hm; omega
    · obtain ⟨_, c0⟩ := hxs j p hp
      refine ⟨[.int .i64 p], rfl, rfl, fun i u hu => ?_⟩
      match i, hu with
      | 0, hu => simp at hu; subst hu; exact c0
    · obtain ⟨i, hi', rfl⟩ := List.getElem_of_mem he
      exact (hxs i _ (List.getElem?_eq_getElem hi')).1
theorem open_row {r : Reach} {b0 : Nat} {v : Value} {d : DataW H} {p : List MemPlace} (hv : Value.okWide Try.prog w r b0 25 v) (h : DataW.Trod enc Try.prog w base spare held 25 v d p) :
    ∃ (A : Option Addr) (cap : Nat) (xs : List Int), v = .slice A xs.length cap ∧ xs.length ≤ cap ∧ cap ≤ maxLen ∧ Kd.C (Kd.int .i64) w A xs.length xs ∧ ∀ e ∈ xs, (Lit.int .i64 e).wf = true := by
  obtain ⟨A0, l0, c0, rfl⟩ := okWide_slice Try.underlying25 hv
  obtain ⟨fuel, hf⟩ := h
  obtain ⟨A, len, cap, xs, e1, rfl, hl, hm, hc, hw⟩ := open_ints hf
  simp [Value.cells] at e1
  obtain ⟨rfl, rfl, rfl⟩ := e1
  exact ⟨A0, c0, xs, rfl, hl, hm, hc, hw⟩
end
end Go.Proofs.Ytljaalhocjobeaa.Arg
