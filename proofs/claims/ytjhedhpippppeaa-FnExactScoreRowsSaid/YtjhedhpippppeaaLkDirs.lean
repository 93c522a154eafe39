/-
  Directed edges of a graph and a direction: facts that both sides use.
-/
import Derived.Test.YtjhedhpippppeaaLkIn
namespace Go.Proofs.Ytjhedhpippppeaa.Lk
open Go Go.RowKit Go.Proofs.YtjhedhpippppeaaW.PrintWords Go.Proofs.YtjhedhpippppeaaW.PrintLast Go.Proofs.YtjhedhpippppeaaW.PrintMore Go.Proofs.Ytjhedhpippppeaa.P Go.Proofs.Ytjhedhpippppeaa.Gw
set_option linter.unusedVariables false
set_option linter.unusedSimpArgs false
theorem dirs_inR {m : Nat} {es : Ed} (hv : InR m es) (b : Nat) : InR m (dirs es b) := by
  intro e he
  obtain ⟨i, hi⟩ := List.getElem?_of_mem he
  rw [dirs_get] at hi
  obtain ⟨x, hx, rfl⟩ := Option.map_eq_some_iff.mp hi
  have := hv x (List.mem_of_getElem? hx)
  cases b.testBit i <;> simp [this.1, this.2]
theorem take_inR {m : Nat} {ds : Ed} (h : InR m ds) (i : Nat) : InR m (ds.take i) := fun e he => h e (List.mem_of_mem_take he)
theorem dirs_getD {es : Ed} {b i : Nat} (hi : i < es.length) : (dirs es b).getD i (0, 0) = bif b.testBit i then ((es.getD i (0, 0)).2, (es.getD i (0, 0)).1) else es.getD i (0, 0) := by
  simp only [List.getD_eq_getElem?_getD, dirs_get, List.getElem?_eq_getElem hi, Option.map_some, Option.getD_some]
theorem take_snoc {ds : Ed} {i : Nat} (hi : i < ds.length) : ds.take (i + 1) = ds.take i ++ [ds.getD i (0, 0)] := by
  rw [List.take_succ_eq_append_getElem hi, List.getD_eq_getElem?_getD, List.getElem?_eq_getElem hi]; rfl
theorem getD_mem {ds : Ed} {i : Nat} (hi : i < ds.length) : ds.getD i (0, 0) ∈ ds := by
  rw [List.getD_eq_getElem?_getD, List.getElem?_eq_getElem hi]; exact List.getElem_mem hi
theorem dirs_nodup {m : Nat} {es : Ed} (hv : Valid m es) (b : Nat) : (dirs es b).Nodup := by
  have key : (dirs es b).map (fun e => if e.1 < e.2 then e else (e.2, e.1)) = es := by
    apply List.ext_getElem?; intro i
    rw [List.getElem?_map, dirs_get]
    cases h : es[i]? with
    | none => rfl
    | some e =>
      have := hv.lt e (List.mem_of_getElem? h)
      simp only [Option.map_some]
      cases b.testBit i
      · simp [this]
      · simp only [cond_true]; rw [if_neg (by omega)]
  have h2 := hv.nodup
  rw [← key] at h2
  have h3 := List.pairwise_map.mp h2
  exact List.Pairwise.imp (fun {a b} hab e => hab (by rw [e])) h3
theorem five {m : Nat} {es : Ed} (hv : Valid m es) : m ≤ 5 := hv.le
theorem rows_small {m : Nat} (hm : m ≤ 5) {ds : Ed} (hd : InR m ds) (u : Nat) : (rowsOf m ds).getD u 0 < 32 := by
  rw [List.getD_eq_getElem?_getD]
  cases h : (rowsOf m ds)[u]? with
  | none => simp
  | some r => exact pow5 hm (rowsOf_lt hd r (List.mem_of_getElem? h))
end Go.Proofs.Ytjhedhpippppeaa.Lk
