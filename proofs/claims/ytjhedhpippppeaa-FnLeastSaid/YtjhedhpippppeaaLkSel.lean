/-
  Some edges of a graph, told by bits; the numbers of their parts, told two ways.
-/
import Derived.Test.YtjhedhpippppeaaLkDirs
namespace Go.Proofs.Ytjhedhpippppeaa.Lk
open Go Go.RowKit Go.Proofs.YtjhedhpippppeaaW.PrintWords Go.Proofs.YtjhedhpippppeaaW.PrintLast Go.Proofs.YtjhedhpippppeaaW.PrintMore Go.Proofs.Ytjhedhpippppeaa.P Go.Proofs.Ytjhedhpippppeaa.Gw
set_option linter.unusedVariables false
set_option linter.unusedSimpArgs false
theorem sel_take : ∀ (es : Ed) (s i : Nat) (hi : i < es.length), sel (es.take (i + 1)) s = sel (es.take i) s ++ (bif s.testBit i then [es.getD i (0, 0)] else [])
  | [], s, i, hi => by simp at hi
  | e :: es, s, 0, hi => by
      simp only [List.take_succ_cons, List.take_zero, sel, List.nil_append]
      cases s.testBit 0 <;> simp
  | e :: es, s, i + 1, hi => by
      have ih := sel_take es (s / 2) i (by simpa using hi)
      simp only [List.take_succ_cons, sel] at ih ⊢
      rw [ih, Nat.testBit_div_two]
      cases s.testBit 0 <;> simp
theorem sym_append : ∀ l l' : Ed, sym (l ++ l') = sym l ++ sym l'
  | [], l' => rfl
  | e :: l, l' => by simp [sym, sym_append l l']
theorem mem_sym {l : Ed} {a b : Nat} : (a, b) ∈ sym l ↔ ((a, b) ∈ l ∨ (b, a) ∈ l) := by
  induction l with
  | nil => simp [sym]
  | cons e l ih =>
    obtain ⟨x, y⟩ := e
    simp only [sym, List.mem_cons, ih, Prod.mk.injEq]
    constructor
    · rintro (h | h | h | h)
      · exact .inl (.inl h)
      · exact .inr (.inl ⟨h.2, h.1⟩)
      · exact .inl (.inr h)
      · exact .inr (.inr h)
    · rintro ((h | h) | (h | h))
      · exact .inl h
      · exact .inr (.inr (.inl h))
      · exact .inr (.inl ⟨h.2, h.1⟩)
      · exact .inr (.inr (.inr h))
theorem sym_inR {m : Nat} {l : Ed} (h : InR m l) : InR m (sym l) := by
  rintro ⟨a, b⟩ he
  rcases mem_sym.mp he with h1 | h1
  · exact h _ h1
  · have := h _ h1; exact ⟨this.2, this.1⟩
theorem Valid.sel {m : Nat} {es : Ed} (hv : Valid m es) (s : Nat) : Valid m (Gw.sel es s) := ⟨hv.pos, hv.le, (sel_sub es s).trans hv.sub⟩
theorem Valid.take {m : Nat} {es : Ed} (hv : Valid m es) (i : Nat) : Valid m (es.take i) := ⟨hv.pos, hv.le, (List.take_sublist i es).trans hv.sub⟩
/-- the two tellings of parts agree (reckoned for all graphs) -/
theorem parts_chk {m : Nat} {es : Ed} (hv : Valid m es) : partsF m es = ufF m es ∧ 1 ≤ ufF m es ∧ ufF m es ≤ m ∧ m ≤ ufF m es + es.length := by
  have h : chkParts m es = true := by
    have h1 := hv.pos; have h5 := hv.le
    rcases (show m = 1 ∨ m = 2 ∨ m = 3 ∨ m = 4 ∨ m = 5 by omega) with e | e | e | e | e <;> subst e
    · exact allSub_of _ _ parts1 _ hv.sub
    · exact allSub_of _ _ parts2 _ hv.sub
    · exact allSub_of _ _ parts3 _ hv.sub
    · exact allSub_of _ _ parts4 _ hv.sub
    · exact allSub_of _ _ parts5 _ hv.sub
  simp only [chkParts, Bool.and_eq_true, beq_iff_eq, Nat.ble_eq] at h
  exact ⟨h.1, h.2.1, h.2.2.1, h.2.2.2⟩
theorem rd_S {es : Ed} {i : Nat} : rd_T33 (toS es) (i : Int) = ⟨((es.getD i (0, 0)).1 : Int), ((es.getD i (0, 0)).2 : Int)⟩ := rd_toS es i
theorem sel_all {es : Ed} : ∀ s, (∀ i, i < es.length → s.testBit i = true) → sel es s = es := by
  induction es with
  | nil => intro s _; rfl
  | cons e es ih =>
    intro s h
    rw [sel, ih (s / 2) (fun i hi => by rw [Nat.testBit_div_two]; exact h (i + 1) (by simpa using hi)), h 0 (by simp)]; rfl
theorem sel_full (es : Ed) : sel es (2 ^ es.length - 1) = es := sel_all _ fun i hi => by rw [full_bit]; simpa using hi
end Go.Proofs.Ytjhedhpippppeaa.Lk
