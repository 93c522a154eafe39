/-
  The program's partsBy.
-/
import Derived.Test.YtjhedhpippppeaaLkSel
import Derived.Test.YtjhedhpippppeaaLkReach
import Derived.Test.YtjhedhpippppeaaPx32
namespace Go.Proofs.Ytjhedhpippppeaa.Lk
open Go Go.RowKit Go.Proofs.YtjhedhpippppeaaW.PrintWords Go.Proofs.YtjhedhpippppeaaW.PrintLast Go.Proofs.YtjhedhpippppeaaW.PrintMore Go.Proofs.Ytjhedhpippppeaa.P Go.Proofs.Ytjhedhpippppeaa.Gw
set_option linter.unusedVariables false
set_option linter.unusedSimpArgs false
theorem parts_l1 {m : Nat} (hm : m ≤ 5) {ds : Ed} (hd : InR m ds) : ∀ d v : Nat, v + d = m → ∀ st : Nat × Nat, st.2 < 32 → st.1 ≤ v →
    Ev (fun k => impl_partsBy.l1 k (toI (rowsOf m ds)) (st.1 : Int) (st.2 : Int) (m : Int) (v : Int)) ((((List.range' v d).foldl (partsStep (rowsOf m ds)) st).1 : Nat) : Int) := by
  intro d
  induction d with
  | zero =>
    intro v hv st h1 h2
    refine Ev.step (f := fun _ => some (st.1 : Int)) (fun k => ?_) (Ev.now _)
    simp only [impl_partsBy.l1]; rw [if_neg (by omega)]
  | succ d ih =>
    intro v hv st h1 h2
    have hc := close_lt_n hm hd (v := v) (by omega)
    have hc32 := pow5 hm hc
    rw [List.range'_succ, List.foldl_cons]
    cases ht : st.2.testBit v with
    | true =>
      have hst : partsStep (rowsOf m ds) st v = st := by unfold partsStep; rw [ht]; rfl
      rw [hst]
      refine Ev.step (fun k => ?_) (ih (v + 1) (by omega) st h1 (by omega))
      simp only [impl_partsBy.l1]
      rw [if_pos (by omega), if_pos (by omega), if_neg (by rw [bit_zero (by omega) (by omega), ht]; simp), wrap_id (by omega) (by omega)]; simp
    | false =>
      have hst : partsStep (rowsOf m ds) st v = (st.1 + 1, st.2 ||| close (rowsOf m ds) (2 ^ v)) := by unfold partsStep; rw [ht]; rfl
      rw [hst]
      have hk := ih (v + 1) (by omega) (st.1 + 1, st.2 ||| close (rowsOf m ds) (2 ^ v)) (Nat.or_lt_two_pow (n := 5) h1 hc32) (by simp only; omega)
      refine Ev.step (fun k => rfl) ?_
      simp only [impl_partsBy.l1, if_pos (show (v : Int) < (m : Int) by omega), if_pos (show 0 ≤ (v : Int) by omega), if_pos ((bit_zero (show st.2 < 2 ^ 62 by omega) (show v ≤ 64 by omega)).mpr ht)]
      refine Ev.bind (reachOf_ev hm hd (by omega)) ?_
      simp only [or_nat (show st.2 < 2 ^ 62 by omega) (show close (rowsOf m ds) (2 ^ v) < 2 ^ 62 by omega), wrap_id (x := (v : Int) + 1) (by omega) (by omega), wrap_id (x := (st.1 : Int) + 1) (by omega) (by omega)]
      exact hk
theorem parts_l0 {m : Nat} {es : Ed} (hv : Valid m es) {s : Nat} (hs : s < 2 ^ 62) {r : Nat} (hr : Ev (fun k => impl_partsBy.l1 k (toI (rowsOf m (sym (sel es s)))) 0 0 (m : Int) 0) (r : Int)) : ∀ d i : Nat, i + d = es.length →
    Ev (fun k => impl_partsBy.l0 k (s : Int) (toI (rowsOf m (sym (sel (es.take i) s)))) (toS es) (es.length : Int) (i : Int)) (r : Int) := by
  have h10 := hv.len
  have h5 := hv.le
  intro d
  induction d with
  | zero =>
    intro i hi
    refine Ev.step (fun k => ?_) hr
    simp only [impl_partsBy.l0]
    rw [if_neg (by omega), List.take_of_length_le (by omega), toI_length, rowsOf_length]
  | succ d ih =>
    intro i hi
    have hk := ih (i + 1) (by omega)
    have hil : i < es.length := by omega
    rw [sel_take es s i hil] at hk
    have he := hv.inR _ (getD_mem (ds := es) hil)
    refine Ev.step (fun k => ?_) hk
    simp only [impl_partsBy.l0]
    rw [if_pos (by omega), if_pos (by omega), if_pos (by rw [toS_length]; omega), rd_S]
    cases ht : s.testBit i with
    | false =>
      rw [if_neg (by rw [bit_one (by omega) (by omega), ht]; simp), wrap_id (by omega) (by omega)]
      simp
    | true =>
      rw [if_pos ((bit_one (by omega) (by omega)).mpr ht)]
      have hR := sym_inR ((hv.take i).sel s).inR
      generalize hA : sym (sel (es.take i) s) = A at hR
      simp only [cond_true]
      rw [sym_append, hA]
      generalize hx : (es.getD i (0, 0)).1 = x at *
      generalize hy : (es.getD i (0, 0)).2 = y at *
      have hsingle : sym [es.getD i (0, 0)] = [(x, y), (y, x)] := by
        have : es.getD i (0, 0) = (x, y) := Prod.ext hx hy
        rw [this]; rfl
      rw [hsingle]
      have hR2 : InR m (A ++ [(x, y)]) := by
        intro e he2
        rcases List.mem_append.mp he2 with h | h
        · exact hR e h
        · have : e = (x, y) := by simpa using h
          subst this; exact he
      have hl1 := rows_small h5 hR x
      have hl2 := rows_small h5 hR2 y
      have e1 : rowsOf m (A ++ [(x, y)]) = (rowsOf m A).set x ((rowsOf m A).getD x 0 ||| 2 ^ y) := by
        simp only [rowsOf, List.foldl_append, List.foldl_cons, List.foldl_nil, addE]
      have e2 : rowsOf m (A ++ [(x, y), (y, x)]) = (rowsOf m (A ++ [(x, y)])).set y ((rowsOf m (A ++ [(x, y)])).getD y 0 ||| 2 ^ x) := by
        rw [show A ++ [(x, y), (y, x)] = (A ++ [(x, y)]) ++ [(y, x)] by simp]
        simp only [rowsOf, List.foldl_append, List.foldl_cons, List.foldl_nil, addE]
      have px : 2 ^ x < 2 ^ 62 := small (n := 5) (by omega) (Nat.pow_lt_pow_right (by omega) (by omega))
      have py : 2 ^ y < 2 ^ 62 := small (n := 5) (by omega) (Nat.pow_lt_pow_right (by omega) (by omega))
      rw [if_pos (by omega), if_pos (by rw [toI_length, rowsOf_length]; omega), if_pos (by omega), rd_toI, shl_nat (by omega), or_nat (by omega) py, Int.toNat_natCast, set_toI, ← e1]
      simp only [Option.bind_some]
      rw [if_pos (by rw [toI_length, rowsOf_length]; omega), rd_toI, shl_nat (by omega), or_nat (by omega) px, Int.toNat_natCast, set_toI, ← e2, wrap_id (by omega) (by omega)]
      simp
theorem partsBy_ev {m : Nat} {es : Ed} (hv : Valid m es) {s : Nat} (hs : s < 2 ^ 62) :
    Ev (fun k => impl_partsBy.f k (m : Int) (toS es) (s : Int)) ((ufF m (sel es s) : Nat) : Int) := by
  have h5 := hv.le
  have hR := sym_inR (hv.sel s).inR
  have h1 := parts_l1 h5 hR m 0 (by omega) (0, 0) (by decide) (by decide)
  rw [← List.range_eq_range'] at h1
  have h2 := parts_l0 hv hs (r := partsF m (sel es s)) h1 es.length 0 (by omega)
  rw [(parts_chk (hv.sel s)).1] at h2
  refine Ev.congr (fun k => ?_) h2
  unfold impl_partsBy.f
  rw [if_pos (by omega), if_pos (by omega), Int.toNat_natCast, repl_toI, toS_length]; rfl
end Go.Proofs.Ytjhedhpippppeaa.Lk
