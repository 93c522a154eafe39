/-
  The reference's l1Parts.
-/
import Derived.Test.YtjhedhpippppeaaLkSel
import Derived.Test.YtjhedhpippppeaaPx35
namespace Go.Proofs.Ytjhedhpippppeaa.Lk
open Go Go.RowKit Go.Proofs.YtjhedhpippppeaaW.PrintWords Go.Proofs.YtjhedhpippppeaaW.PrintLast Go.Proofs.YtjhedhpippppeaaW.PrintMore Go.Proofs.Ytjhedhpippppeaa.P Go.Proofs.Ytjhedhpippppeaa.Gw
set_option linter.unusedVariables false
set_option linter.unusedSimpArgs false
def ufOn (m : Nat) (l : Ed) : Nat × List Nat := l.foldl ufStep (m, List.range m)
theorem ufStep_len (st : Nat × List Nat) (e : Nat × Nat) : (ufStep st e).2.length = st.2.length := by
  unfold ufStep; cases st.2.getD e.1 0 == st.2.getD e.2 0 <;> simp
theorem ufOn_len (m : Nat) (l : Ed) : (ufOn m l).2.length = m := by
  have : ∀ (l : Ed) (st : Nat × List Nat), (l.foldl ufStep st).2.length = st.2.length := by
    intro l; induction l with
    | nil => intro st; rfl
    | cons e l ih => intro st; rw [List.foldl_cons, ih, ufStep_len]
  rw [ufOn, this]; simp
theorem uf_l2 {n : Int} {m : Nat} (hm : m ≤ 5) (xs : List S33) (s q i : Int) (a b : Nat) {r : Int} {at0 : List Nat} (hl : at0.length = m)
    (hr : Ev (fun k => spec_l1Parts.l1 k s (toI (at0.map fun x => bif x == b then a else x)) q (wrap64 (i + 1)) (m : Int) xs) r) : ∀ d v : Nat, v + d = m →
    Ev (fun k => spec_l1Parts.l2 k s (toI ((at0.take v).map (fun x => bif x == b then a else x) ++ at0.drop v)) q i (a : Int) (b : Int) (v : Int) (m : Int) xs) r := by
  intro d
  induction d with
  | zero =>
    intro v hv
    refine Ev.step (fun k => ?_) hr
    simp only [spec_l1Parts.l2]
    rw [if_neg (by omega), List.take_of_length_le (by omega), List.drop_eq_nil_of_le (by omega), List.append_nil]
  | succ d ih =>
    intro v hv
    have hvl : v < at0.length := by omega
    have hlen : ((at0.take v).map (fun x => bif x == b then a else x)).length = v := by simp; omega
    refine Ev.step (fun k => ?_) (ih (v + 1) (by omega))
    have hg : ((at0.take v).map (fun x => bif x == b then a else x) ++ at0.drop v).getD v 0 = at0[v] := by
      rw [List.getD_eq_getElem?_getD, List.getElem?_append_right (by omega), hlen, Nat.sub_self, List.drop_eq_getElem_cons hvl]; rfl
    have hset : ∀ y, ((at0.take v).map (fun x => bif x == b then a else x) ++ at0.drop v).set v y = (at0.take v).map (fun x => bif x == b then a else x) ++ [y] ++ at0.drop (v + 1) := by
      intro y
      rw [List.set_append_right v _ (by omega), hlen, Nat.sub_self, List.drop_eq_getElem_cons hvl, List.set_cons_zero]; simp
    have hnext : (at0.take (v + 1)).map (fun x => bif x == b then a else x) ++ at0.drop (v + 1) = (at0.take v).map (fun x => bif x == b then a else x) ++ [bif at0[v] == b then a else at0[v]] ++ at0.drop (v + 1) := by
      rw [List.take_succ_eq_append_getElem hvl, List.map_append]; rfl
    simp only [spec_l1Parts.l2]
    rw [if_pos (by omega), if_pos (by omega), if_pos (by rw [toI_length, List.length_append, hlen, List.length_drop]; omega), rd_toI, hg, wrap_id (x := (v : Int) + 1) (by omega) (by omega), hnext]
    by_cases e : at0[v] = b
    · rw [if_pos (by omega), Int.toNat_natCast, set_toI, hset, e]; simp
    · rw [if_neg (by omega), show (at0[v] == b) = false by simpa using e]
      have : (at0.take v).map (fun x => bif x == b then a else x) ++ at0.drop v = (at0.take v).map (fun x => bif x == b then a else x) ++ [at0[v]] ++ at0.drop (v + 1) := by
        rw [List.drop_eq_getElem_cons hvl]; simp
      rw [this]; simp
theorem uf_l1 {m : Nat} {es : Ed} (hv : Valid m es) {s : Nat} (hs : s < 2 ^ 62) : ∀ d i : Nat, i + d = es.length →
    Ev (fun k => spec_l1Parts.l1 k (s : Int) (toI (ufOn m (sel (es.take i) s)).2) ((ufOn m (sel (es.take i) s)).1 : Int) (i : Int) (m : Int) (toS es)) ((ufF m (sel es s) : Nat) : Int) := by
  have h10 := hv.len
  have h5 := hv.le
  intro d
  induction d with
  | zero =>
    intro i hi
    refine Ev.step (f := fun _ => some ((ufF m (sel es s) : Nat) : Int)) (fun k => ?_) (Ev.now _)
    simp only [spec_l1Parts.l1]
    rw [if_neg (by rw [toS_length]; omega), List.take_of_length_le (by omega)]; rfl
  | succ d ih =>
    intro i hi
    have hk := ih (i + 1) (by omega)
    have hil : i < es.length := by omega
    have hsel := sel_take es s i hil
    have hge := (parts_chk ((hv.take (i + 1)).sel s)).2.1
    have hle := (parts_chk ((hv.take i).sel s)).2.2.1
    rw [hsel] at hk
    have he := hv.inR _ (getD_mem (ds := es) hil)
    have hln := ufOn_len m (sel (es.take i) s)
    have hwi : wrap64 ((i : Int) + 1) = ((i + 1 : Nat) : Int) := by rw [wrap_id (by omega) (by omega)]; simp
    generalize hst : ufOn m (sel (es.take i) s) = st at hln
    have hst1 : ufF m (sel (es.take i) s) = st.1 := by rw [← hst]; rfl
    have hgo : ∀ f : Nat → Option Int, (∀ k, spec_l1Parts.l1 (k + 1) (s : Int) (toI st.2) (st.1 : Int) (i : Int) (m : Int) (toS es) = f k) → Ev f ((ufF m (sel es s) : Nat) : Int) →
        Ev (fun k => spec_l1Parts.l1 k (s : Int) (toI st.2) (st.1 : Int) (i : Int) (m : Int) (toS es)) ((ufF m (sel es s) : Nat) : Int) := fun f h1 h2 => Ev.step h1 h2
    have c1 : ((es.getD i (0, 0)).1 : Int) < ((toI st.2).length : Int) := by rw [toI_length]; omega
    have c2 : ((es.getD i (0, 0)).2 : Int) < ((toI st.2).length : Int) := by rw [toI_length]; omega
    cases ht : s.testBit i with
    | false =>
      rw [ht] at hk
      simp only [cond_false, List.append_nil] at hk
      rw [hst] at hk
      refine hgo _ (fun k => by
        simp only [spec_l1Parts.l1]
        rw [if_pos (by rw [toS_length]; omega), if_pos (by omega), rd_S, if_pos (by simp only; omega), if_pos c1, if_pos (by simp only; omega), if_pos c2, if_pos ((bit_zero (by omega) (by omega)).mpr ht)]) ?_
      refine Ev.step (fun k => ?_) hk
      simp only [spec_l1Parts.j2]; rw [if_pos trivial, hwi]
    | true =>
      rw [ht] at hk hsel
      simp only [cond_true] at hk hsel
      have hstep : ufOn m (sel (es.take i) s ++ [es.getD i (0, 0)]) = ufStep st (es.getD i (0, 0)) := by
        rw [← hst]; simp only [ufOn, List.foldl_append, List.foldl_cons, List.foldl_nil]
      have hge2 : 1 ≤ (ufStep st (es.getD i (0, 0))).1 := by
        rw [← hstep, ← hsel]; exact hge
      rw [hstep] at hk
      refine hgo _ (fun k => by
        simp only [spec_l1Parts.l1]
        rw [if_pos (by rw [toS_length]; omega), if_pos (by omega), rd_S, if_pos (by simp only; omega), if_pos c1, if_pos (by simp only; omega), if_pos c2, if_neg (by rw [bit_zero (by omega) (by omega), ht]; simp)]) ?_
      simp only [rd_toI]
      generalize hA : st.2.getD (es.getD i (0, 0)).1 0 = A at *
      generalize hB : st.2.getD (es.getD i (0, 0)).2 0 = B at *
      by_cases e : A = B
      · have hsame : ufStep st (es.getD i (0, 0)) = st := by unfold ufStep; rw [hA, hB, e]; simp
        rw [hsame] at hk
        refine Ev.step (fun k => ?_) hk
        simp only [spec_l1Parts.j2]; rw [if_pos (by simp [e]), hwi]
      · have hdiff : ufStep st (es.getD i (0, 0)) = (st.1 - 1, st.2.map fun x => bif x == B then A else x) := by
          unfold ufStep; rw [hA, hB, show (A == B) = false by simpa using e]; rfl
        rw [hdiff] at hk hge2
        simp only at hge2
        have hw7 : wrap64 ((st.1 : Int) - 1) = ((st.1 - 1 : Nat) : Int) := by rw [wrap_id (by omega) (by omega)]; omega
        have h2 := uf_l2 (n := 0) h5 (toS es) (s : Int) ((st.1 - 1 : Nat) : Int) (i : Int) A B (at0 := st.2) hln (by rw [hwi]; exact hk) m 0 (by omega)
        refine Ev.step (fun k => ?_) h2
        simp only [spec_l1Parts.j2]
        rw [if_neg (by simp; omega), hw7]; simp
theorem uf_l0 {m : Nat} {es : Ed} (hv : Valid m es) {s : Nat} (hs : s < 2 ^ 62) : ∀ d v : Nat, v + d = m →
    Ev (fun k => spec_l1Parts.l0 k (s : Int) (toI (List.range v)) (v : Int) (m : Int) (toS es)) ((ufF m (sel es s) : Nat) : Int) := by
  have h5 := hv.le
  intro d
  induction d with
  | zero =>
    intro v hvm
    have h := uf_l1 hv hs es.length 0 (by omega)
    refine Ev.step (fun k => ?_) h
    obtain rfl : v = m := by omega
    simp only [spec_l1Parts.l0]; rw [if_neg (by omega)]; rfl
  | succ d ih =>
    intro v hvm
    refine Ev.step (fun k => ?_) (ih (v + 1) (by omega))
    simp only [spec_l1Parts.l0]
    rw [if_pos (by omega), if_pos (by rw [toI_length, List.length_range]; omega), toI_snoc, ← List.range_succ, wrap_id (by omega) (by omega)]; simp
theorem refParts_ev {m : Nat} {es : Ed} (hv : Valid m es) {s : Nat} (hs : s < 2 ^ 62) :
    Ev (fun k => spec_l1Parts.f k (m : Int) (toS es) (s : Int)) ((ufF m (sel es s) : Nat) : Int) := by
  have h := uf_l0 hv hs m 0 (by omega)
  unfold spec_l1Parts.f; exact h
end Go.Proofs.Ytjhedhpippppeaa.Lk
