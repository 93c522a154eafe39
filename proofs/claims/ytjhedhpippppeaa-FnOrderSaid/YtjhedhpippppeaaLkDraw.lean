/-
  What the laws' drawing of a graph comes to: some number of nodes from 1 to 5 and some list of edges.
-/
import Derived.Test.YtjhedhpippppeaaLkG
import Derived.Test.YtjhedhpippppeaaPx2
import Derived.Test.YtjhedhpippppeaaPx3
import Derived.Test.YtjhedhpippppeaaPx1
import Derived.Test.YtjhedhpippppeaaPx26
namespace Go.Proofs.Ytjhedhpippppeaa.Lk
open Go Go.RowKit Go.Proofs.YtjhedhpippppeaaW.PrintWords Go.Proofs.YtjhedhpippppeaaW.PrintLast Go.Proofs.YtjhedhpippppeaaW.PrintMore Go.Proofs.Ytjhedhpippppeaa.P Go.Proofs.Ytjhedhpippppeaa.Gw
set_option linter.unusedVariables false
set_option linter.unusedSimpArgs false

theorem wf_u8 {x : Int} (h : (Lit.int .u8 x).wf = true) : 0 ≤ x ∧ x ≤ 255 := by
  have h : (decide (IntKind.u8.min ≤ x) && decide (x ≤ IntKind.u8.max)) = true := h
  simp only [Bool.and_eq_true, decide_eq_true_eq] at h
  have a : IntKind.u8.min = 0 := by decide
  have b : IntKind.u8.max = 255 := by decide
  omega
/-- a code that is read -/
structure Cod (b : List Int) : Prop where
  len : b.length ≤ 2000
  byte : ∀ x ∈ b, 0 ≤ x ∧ x ≤ 255
theorem Cod.rd {b : List Int} (h : Cod b) (i : Int) : 0 ≤ rd b i ∧ rd b i ≤ 255 := by
  unfold Go.Proofs.YtjhedhpippppeaaW.PrintWords.rd
  rw [List.getD_eq_getElem?_getD]
  cases hx : b[i.toNat]? with
  | none => simp
  | some x => exact h.byte x (List.mem_of_getElem? hx)
theorem tmod_range {x n : Int} (hx : 0 ≤ x) (hn : 1 ≤ n) : 0 ≤ Int.tmod x n ∧ Int.tmod x n < n :=
  ⟨Int.tmod_nonneg _ hx, Int.tmod_lt_of_pos _ (by omega)⟩
theorem pick_ev {b : List Int} (h : Cod b) (p : Nat) (hp : p ≤ 1000000) (n : Int) : ∃ r : Int, 0 ≤ r ∧ (r < n ∨ r = 0) ∧ Ev (fun k => spec_l6Rd_pick.f k b (p : Int) n) (r, ((p + 1 : Nat) : Int)) := by
  have hw : wrap64 ((p : Int) + 1) = ((p + 1 : Nat) : Int) := by rw [wrap_id (by omega) (by omega)]; simp
  have hw1 : wrap64 (((p + 1 : Nat) : Int) - 1) = (p : Int) := by rw [wrap_id (by omega) (by omega)]; omega
  by_cases h1 : n < 1
  · refine ⟨0, by omega, .inr rfl, ?_⟩
    simp only [spec_l6Rd_pick.f, if_pos h1, hw]
    exact Ev.step (f := fun _ => some (0, ((p + 1 : Nat) : Int))) (fun k => by simp only [spec_l6Rd_pick.j0]; rw [if_pos trivial]) (Ev.now _)
  · by_cases h2 : b.length = 0
    · refine ⟨0, by omega, .inr rfl, ?_⟩
      have e : ((b.length : Int) == 0) = true := by rw [h2]; rfl
      simp only [spec_l6Rd_pick.f, if_neg h1, hw, e]
      exact Ev.step (f := fun _ => some (0, ((p + 1 : Nat) : Int))) (fun k => by simp only [spec_l6Rd_pick.j0]; rw [if_pos trivial]) (Ev.now _)
    · have e : ((b.length : Int) == 0) = false := by simpa using h2
      have hl := h.len
      by_cases h3 : (p : Int) < (b.length : Int)
      · have hr := h.rd (p : Int)
        have hx := tmod_range (x := wrap64 (rd b (p : Int))) (n := n) (by rw [wrap_id (by omega) (by omega)]; omega) (by omega)
        refine ⟨_, hx.1, .inl hx.2, ?_⟩
        simp only [spec_l6Rd_pick.f, if_neg h1, hw, e]
        refine Ev.step (f := fun _ => some (Int.tmod (wrap64 (rd b (p : Int))) n, ((p + 1 : Nat) : Int))) (fun k => ?_) (Ev.now _)
        simp only [spec_l6Rd_pick.j0, hw1]
        rw [if_neg (by simp), if_pos h3, if_pos (by omega), if_neg (by omega)]
      · have m1 := tmod_range (x := (p : Int)) (n := (b.length : Int)) (by omega) (by omega)
        have w7 : wrap64 (wrap64 ((p : Int) * 7) + 3) = (p : Int) * 7 + 3 := by rw [wrap_id (x := (p : Int) * 7) (by omega) (by omega), wrap_id (by omega) (by omega)]
        have m2 := tmod_range (x := (p : Int) * 7 + 3) (n := (b.length : Int)) (by omega) (by omega)
        have r1 := h.rd (Int.tmod (p : Int) (b.length : Int))
        have r2 := h.rd (Int.tmod ((p : Int) * 7 + 3) (b.length : Int))
        have q0 : 0 ≤ Int.tdiv (p : Int) (b.length : Int) ∧ Int.tdiv (p : Int) (b.length : Int) ≤ (p : Int) := by
          rw [Int.tdiv_eq_ediv_of_nonneg (by omega)]
          exact ⟨Int.ediv_nonneg (by omega) (by omega), Int.ediv_le_self _ (by omega)⟩
        generalize hA : rd b (Int.tmod (p : Int) (b.length : Int)) = A at r1
        generalize hB : rd b (Int.tmod ((p : Int) * 7 + 3) (b.length : Int)) = B at r2
        generalize hQ : Int.tdiv (p : Int) (b.length : Int) = Q at q0
        have wx : wrap64 (wrap64 (wrap64 (wrap64 (wrap64 A * 131) + wrap64 (wrap64 B * 1117)) + wrap64 ((p : Int) * 29)) + wrap64 (wrap64 Q * 53)) = A * 131 + B * 1117 + (p : Int) * 29 + Q * 53 := by
          rw [wrap_id (x := A) (by omega) (by omega), wrap_id (x := A * 131) (by omega) (by omega), wrap_id (x := B) (by omega) (by omega), wrap_id (x := B * 1117) (by omega) (by omega),
            wrap_id (x := (p : Int) * 29) (by omega) (by omega), wrap_id (x := Q) (by omega) (by omega), wrap_id (x := Q * 53) (by omega) (by omega), wrap_id (x := A * 131 + B * 1117) (by omega) (by omega),
            wrap_id (x := A * 131 + B * 1117 + (p : Int) * 29) (by omega) (by omega), wrap_id (by omega) (by omega)]
        obtain ⟨X, hX⟩ := Int.eq_ofNat_of_zero_le (show 0 ≤ A * 131 + B * 1117 + (p : Int) * 29 + Q * 53 by omega)
        have hXlt : X < 2 ^ 40 := by omega
        have wd : wrap64 (Int.tdiv (X : Int) 64) = ((X / 64 : Nat) : Int) := by
          rw [Int.tdiv_eq_ediv_of_nonneg (by omega)]
          rw [wrap_id (by omega) (by omega)]; simp
        have hxor : Go.bits .xor .i64 (X : Int) ((X / 64 : Nat) : Int) = ((X ^^^ (X / 64) : Nat) : Int) := xor_nat (by omega) (by omega)
        have m3 := tmod_range (x := ((X ^^^ (X / 64) : Nat) : Int)) (n := n) (by omega) (by omega)
        refine ⟨_, m3.1, .inl m3.2, ?_⟩
        simp only [spec_l6Rd_pick.f, if_neg h1, hw, e]
        refine Ev.step (f := fun _ => some (Int.tmod ((X ^^^ (X / 64) : Nat) : Int) n, ((p + 1 : Nat) : Int))) (fun k => ?_) (Ev.now _)
        simp only [spec_l6Rd_pick.j0, hw1, w7, hA, hB, hQ, wx, hX]
        rw [if_neg (by simp), if_neg h3, if_neg (by omega), if_pos m1.1, if_pos m1.2, if_pos m2.1, if_pos m2.2, if_neg (by omega), wd, hxor]

theorem open_ev {l : List Int} (hl : l.length ≤ 1048576) (hb : ∀ x ∈ l, (Lit.int .u8 x).wf = true) : ∃ b, Cod b ∧ spec_l6Open.f l = some (b, 0) := by
  have hb' : ∀ x ∈ l, 0 ≤ x ∧ x ≤ 255 := fun x hx => wf_u8 (hb x hx)
  unfold spec_l6Open.f
  by_cases h : (l.length : Int) > 2000
  · rw [if_pos h, if_pos (by omega)]
    exact ⟨_, ⟨by rw [List.length_take]; omega, fun x hx => hb' x (List.mem_of_mem_take hx)⟩, rfl⟩
  · rw [if_neg h]; exact ⟨_, ⟨by omega, hb'⟩, rfl⟩

/-- what a drawn graph is -/
structure Drawn (m : Nat) (xs : List S33) (p : Nat) : Prop where
  pos : 1 ≤ m
  le : m ≤ 5
  len : xs.length ≤ 100
  at_ : p ≤ 200
theorem graph_l {b : List Int} (h : Cod b) {m : Nat} (hm : m ≤ 5) (kind : Int) (hk : 0 ≤ kind) : ∀ (d a : Nat), a + d = m → ∀ (p : Nat) (xs : List S33), p + 5 * d ≤ 1000 → xs.length + 5 * d ≤ 1000 →
    ∃ (xs' : List S33) (p' : Nat), xs'.length ≤ xs.length + 5 * d + 1 ∧ p' ≤ p + 5 * d + 1 ∧ Ev (fun k => spec_l91Graph.l0 k (m : Int) kind (a : Int) b (p : Int) (m : Int) xs) ((m : Int), xs', (p' : Int)) := by
  intro d
  induction d with
  | zero =>
    intro a ha p xs hp hx
    obtain ⟨r, _, _, hr⟩ := pick_ev h p (by omega) 40
    by_cases h0 : r = 0
    · refine ⟨xs ++ [⟨wrap64 ((m : Int) - 1), 0⟩], p + 1, by simp, by omega, ?_⟩
      refine Ev.step (fun k => rfl) ?_
      simp only [spec_l91Graph.l0, if_neg (show ¬ (a : Int) < (m : Int) by omega)]
      refine Ev.bind hr ?_
      simp only [if_pos h0, if_pos (show xs.length < 8796093022208 by omega)]; exact Ev.now _
    · refine ⟨xs, p + 1, by omega, by omega, ?_⟩
      refine Ev.step (fun k => rfl) ?_
      simp only [spec_l91Graph.l0, if_neg (show ¬ (a : Int) < (m : Int) by omega)]
      refine Ev.bind hr ?_
      simp only [if_neg h0]; exact Ev.now _
  | succ d ih =>
    intro a ha p xs hp hx
    have inner : ∀ (e c : Nat), c + e = m → e ≤ 5 → ∀ (p : Nat) (xs : List S33), p + e + 5 * d ≤ 1000 → xs.length + e + 5 * d ≤ 1000 →
        ∃ (xs' : List S33) (p' : Nat), xs'.length ≤ xs.length + e + 5 * d + 1 ∧ p' ≤ p + e + 5 * d + 1 ∧ Ev (fun k => spec_l91Graph.l1 k (m : Int) kind (a : Int) (c : Int) b (p : Int) (m : Int) xs) ((m : Int), xs', (p' : Int)) := by
      intro e
      induction e with
      | zero =>
        intro c hc _ p xs hp hx
        obtain ⟨xs', p', h1, h2, h3⟩ := ih (a + 1) (by omega) p xs (by omega) (by omega)
        refine ⟨xs', p', by omega, by omega, ?_⟩
        refine Ev.step (f := fun k => spec_l91Graph.l0 k (m : Int) kind ((a + 1 : Nat) : Int) b (p : Int) (m : Int) xs) (fun k => ?_) h3
        simp only [spec_l91Graph.l1]
        rw [if_neg (by omega), wrap_id (by omega) (by omega)]; simp
      | succ e ihe =>
        intro c hc he p xs hp hx
        have hwc : wrap64 ((c : Int) + 1) = ((c + 1 : Nat) : Int) := by rw [wrap_id (by omega) (by omega)]; simp
        have hlt : (c : Int) < (m : Int) := by omega
        have hxl : xs.length < 8796093022208 := by omega
        obtain ⟨xa, pa, a1, a2, a3⟩ := ihe (c + 1) (by omega) (by omega) p (xs ++ [⟨(a : Int), (c : Int)⟩]) (by omega) (by simp; omega)
        obtain ⟨xb, pb, b1, b2, b3⟩ := ihe (c + 1) (by omega) (by omega) p xs (by omega) (by omega)
        obtain ⟨r, _, _, hr⟩ := pick_ev h p (by omega) 5
        obtain ⟨xc, pc, c1, c2, c3⟩ := ihe (c + 1) (by omega) (by omega) (p + 1) (xs ++ [⟨(a : Int), (c : Int)⟩]) (by omega) (by simp; omega)
        obtain ⟨xd, pd, d1, d2, d3⟩ := ihe (c + 1) (by omega) (by omega) (p + 1) xs (by omega) (by omega)
        simp only [List.length_append, List.length_singleton] at a1 c1
        have yes : ∃ (xs' : List S33) (p' : Nat), xs'.length ≤ xs.length + (e + 1) + 5 * d + 1 ∧ p' ≤ p + (e + 1) + 5 * d + 1 ∧ Ev (fun k => spec_l91Graph.l1 k (m : Int) kind (a : Int) (wrap64 ((c : Int) + 1)) b (p : Int) (m : Int) (xs ++ [⟨(a : Int), (c : Int)⟩])) ((m : Int), xs', (p' : Int)) :=
          ⟨xa, pa, by omega, by omega, by rw [hwc]; exact a3⟩
        have no : ∃ (xs' : List S33) (p' : Nat), xs'.length ≤ xs.length + (e + 1) + 5 * d + 1 ∧ p' ≤ p + (e + 1) + 5 * d + 1 ∧ Ev (fun k => spec_l91Graph.l1 k (m : Int) kind (a : Int) (wrap64 ((c : Int) + 1)) b (p : Int) (m : Int) xs) ((m : Int), xs', (p' : Int)) :=
          ⟨xb, pb, by omega, by omega, by rw [hwc]; exact b3⟩
        have pk : ∃ (xs' : List S33) (p' : Nat), xs'.length ≤ xs.length + (e + 1) + 5 * d + 1 ∧ p' ≤ p + (e + 1) + 5 * d + 1 ∧ Ev (fun k => (spec_l6Rd_pick.f k b (p : Int) 5).bind fun bt => if bt.1 > 1 then (if xs.length < 8796093022208 then spec_l91Graph.l1 k (m : Int) kind (a : Int) (wrap64 ((c : Int) + 1)) b bt.2 (m : Int) (xs ++ [⟨(a : Int), (c : Int)⟩]) else none) else spec_l91Graph.l1 k (m : Int) kind (a : Int) (wrap64 ((c : Int) + 1)) b bt.2 (m : Int) xs) ((m : Int), xs', (p' : Int)) := by
          by_cases hr1 : r > 1
          · refine ⟨xc, pc, by omega, by omega, Ev.bind hr ?_⟩
            simp only [if_pos hr1, if_pos hxl, hwc]; exact c3
          · refine ⟨xd, pd, by omega, by omega, Ev.bind hr ?_⟩
            simp only [if_neg hr1, hwc]; exact d3
        have fin : ∀ g : Nat → Option (Int × List S33 × Int), (∀ k, spec_l91Graph.l1 (k + 1) (m : Int) kind (a : Int) (c : Int) b (p : Int) (m : Int) xs = g k) →
            (∃ (xs' : List S33) (p' : Nat), xs'.length ≤ xs.length + (e + 1) + 5 * d + 1 ∧ p' ≤ p + (e + 1) + 5 * d + 1 ∧ Ev g ((m : Int), xs', (p' : Int))) →
            ∃ (xs' : List S33) (p' : Nat), xs'.length ≤ xs.length + (e + 1) + 5 * d + 1 ∧ p' ≤ p + (e + 1) + 5 * d + 1 ∧ Ev (fun k => spec_l91Graph.l1 k (m : Int) kind (a : Int) (c : Int) b (p : Int) (m : Int) xs) ((m : Int), xs', (p' : Int)) :=
          fun g hg ⟨xs', p', h1, h2, h3⟩ => ⟨xs', p', h1, h2, Ev.step hg h3⟩
        by_cases k0 : kind = 0
        · exact fin _ (fun k => by simp only [spec_l91Graph.l1]; rw [if_pos hlt, if_pos k0, if_pos hxl]) yes
        by_cases k1 : kind = 1
        · have k2 : ¬ kind > 1 := by omega
          by_cases c1 : (c : Int) = wrap64 ((a : Int) + 1)
          · exact fin _ (fun k => by simp only [spec_l91Graph.l1]; rw [if_pos hlt, if_neg k0, if_pos k1, if_pos c1, if_pos hxl]) yes
          · by_cases c2 : (a : Int) = 0
            · by_cases c3 : (c : Int) = wrap64 ((m : Int) - 1)
              · exact fin _ (fun k => by simp only [spec_l91Graph.l1]; rw [if_pos hlt, if_neg k0, if_pos k1, if_neg c1, if_pos c2, if_pos c3, if_pos hxl]) yes
              · exact fin _ (fun k => by simp only [spec_l91Graph.l1]; rw [if_pos hlt, if_neg k0, if_pos k1, if_neg c1, if_pos c2, if_neg c3, if_neg k2]) no
            · exact fin _ (fun k => by simp only [spec_l91Graph.l1]; rw [if_pos hlt, if_neg k0, if_pos k1, if_neg c1, if_neg c2, if_neg k2]) no
        · have k2 : kind > 1 := by omega
          exact fin _ (fun k => by simp only [spec_l91Graph.l1]; rw [if_pos hlt, if_neg k0, if_neg k1, if_pos k2]) pk
    by_cases hlt : a + 1 ≤ m
    · obtain ⟨xs', p', h1, h2, h3⟩ := inner (m - (a + 1)) (a + 1) (by omega) (by omega) p xs (by omega) (by omega)
      refine ⟨xs', p', by omega, by omega, ?_⟩
      refine Ev.step (f := fun k => spec_l91Graph.l1 k (m : Int) kind (a : Int) ((a + 1 : Nat) : Int) b (p : Int) (m : Int) xs) (fun k => ?_) h3
      simp only [spec_l91Graph.l0]
      rw [if_pos (by omega), wrap_id (by omega) (by omega)]; simp
    · omega
theorem graph_ev {b : List Int} (h : Cod b) : ∃ (m : Nat) (xs : List S33) (p : Nat), Drawn m xs p ∧ Ev (fun k => spec_l91Graph.f k b 0) ((m : Int), xs, (p : Int)) := by
  obtain ⟨r1, a1, b1, e1⟩ := pick_ev h 0 (by omega) 5
  obtain ⟨r2, a2, b2, e2⟩ := pick_ev h 1 (by omega) 4
  obtain ⟨r, rfl⟩ := Int.eq_ofNat_of_zero_le a1
  obtain ⟨xs', p', h1, h2, h3⟩ := graph_l h (m := 1 + r) (by omega) r2 a2 (1 + r) 0 (by omega) 2 [] (by omega) (by simp only [List.length_nil]; omega)
  simp only [List.length_nil] at h1
  refine ⟨1 + r, xs', p', ⟨by omega, by omega, by omega, by omega⟩, ?_⟩
  unfold spec_l91Graph.f
  refine Ev.bind e1 (Ev.bind e2 ?_)
  have hw : wrap64 (1 + (r : Int)) = ((1 + r : Nat) : Int) := by rw [wrap_id (by omega) (by omega)]; simp
  simp only [hw]; exact h3
theorem some_ev {l : List Int} (hl : l.length ≤ 1048576) (hb : ∀ x ∈ l, (Lit.int .u8 x).wf = true) : ∃ (m : Nat) (xs : List S33), 1 ≤ m ∧ m ≤ 5 ∧ xs.length < 2 ^ 62 ∧ Ev (fun k => spec_l91Some.f k l) ((m : Int), xs) := by
  obtain ⟨b, hc, ho⟩ := open_ev hl hb
  obtain ⟨m, xs, p, hd, he⟩ := graph_ev hc
  refine ⟨m, xs, hd.pos, hd.le, by have := hd.len; omega, ?_⟩
  unfold spec_l91Some.f
  simp only [ho, Option.bind_some]
  exact Ev.bind he (Ev.now _)
end Go.Proofs.Ytjhedhpippppeaa.Lk
