/-
  impl.count over a closure: how many numbers below one do.
-/
import Derived.Test.YtjklkphhfkdkpaaPx0
namespace Go.Proofs.Ytjklkphhfkdkpaa.P
open Go.RowKit Go.Proofs.YtjklkphhfkdkpaaW.PrintWords Go.Proofs.YtjklkphhfkdkpaaW.PrintLast Go.Proofs.YtjklkphhfkdkpaaW.PrintMore
set_option linter.unusedVariables false
set_option linter.unusedSimpArgs false
/-- how many numbers below one do -/
def cntL (p : Int → Option Bool) : Nat → Int → Int → Int → Option Int
  | 0, _, _, _ => none
  | k + 1, below, n, x => if x < below then (p x).bind fun t => (if t = true then cntL p k below (wrap64 (n + 1)) (wrap64 (x + 1)) else cntL p k below n (wrap64 (x + 1))) else some n
theorem cntL_mono {p p' : Int → Option Bool} (hp : ∀ x, LeO (p x) (p' x)) : ∀ (k : Nat) (below n x : Int), LeO (cntL p k below n x) (cntL p' (k + 1) below n x)
  | 0, _, _, _ => LeO.none _
  | k + 1, below, n, x => by
      rw [cntL, cntL]
      exact LeO.ite (LeO.bind (hp x) (fun t => LeO.ite (cntL_mono hp k below _ _) (cntL_mono hp k below _ _))) (LeO.refl _)
set_option maxHeartbeats 8000000 in
set_option maxRecDepth 100000 in
theorem count_60 (k : Nat) (below : Int) (cap : Value) (p : Int → Option Bool) (r : Int) (w : World)
    (hp : ∀ x b W, p x = some b → Below w.heap.size w W → Calls Try.prog 60 #[.int .i64 x, cap] W fun e w' => e = .returned (.bool b) ∧ Below W.heap.size W w')
    (h : cntL p k below 0 0 = some r) :
    Calls Try.prog 44 #[.int .i64 below, .func (.func 60) #[] #[cap]] w fun e w' => e = .returned (.int .i64 r) ∧ Below w.heap.size w w' := by
  have HB := Aside0.mk (Below.refl w.heap.size w)
  have HP := Aside0.mk hp
  clear hp
  have H' := Aside0.mk h
  clear h
  go_enter Try.func44, Try.ntmps44
  go_wp2
  go_loopg [5, 8] k (fun kq v5 v8 w' => ∃ (x5 x8 : Int), v5 = .int .i64 x5 ∧ v8 = .int .i64 x8 ∧ Aside0 (cntL p kq below x5 x8 = some r) ∧ Aside0 (kq ≤ k) ∧ Aside0 (Below w.heap.size w w'))
  case atStart => exact ⟨0, 0, rfl, rfl, H', ⟨Nat.le_refl _⟩, HB⟩
  case round =>
    clear H' HB
    obtain ⟨x5, x8, rfl, rfl, HA, HK1, HB⟩ := hrel
    cases gk with
    | zero => exact absurd HA.out (by simp [cntL])
    | succ k1 =>
      have H := HA.out
      clear HA
      simp only [cntL] at H
      by_cases c9 : x8 < below
      · rw [if_pos c9] at H
        have c9b0 : decide (x8 < below) = true := decide_eq_true c9
        clear c9
        replace H := Option.bind_eq_some_iff.mp H
        obtain ⟨t, A0, H⟩ := H
        have HC := Aside0.mk (HP.out x8 t wr A0 HB.out)
        clear A0
        cases t with
        | true =>
          have H' := Aside0.mk (by simpa using H : cntL p k1 below (wrap64 (x5 + 1)) (wrap64 (x8 + 1)) = some r)
          clear H
          go_wp2_with (first | (go_at_call 60; refine (HC.out).mono ?_; rintro e w2 ⟨rfl, hb⟩; have n1_ := Aside0.mk (below_step HB.out hb); clear HB; have HB := n1_; clear n1_; clear hb))
          go_roundg k1
          case measure => have := HK1.out; omega
          case rel => exact ⟨_, _, rfl, rfl, H', ⟨by have := HK1.out; omega⟩, HB⟩
        | false =>
          have H' := Aside0.mk (by simpa using H : cntL p k1 below x5 (wrap64 (x8 + 1)) = some r)
          clear H
          go_wp2_with (first | (go_at_call 60; refine (HC.out).mono ?_; rintro e w2 ⟨rfl, hb⟩; have n1_ := Aside0.mk (below_step HB.out hb); clear HB; have HB := n1_; clear n1_; clear hb))
          go_roundg k1
          case measure => have := HK1.out; omega
          case rel => exact ⟨_, _, rfl, rfl, H', ⟨by have := HK1.out; omega⟩, HB⟩
      · rw [if_neg c9] at H
        have c9b0 : decide (x8 < below) = false := decide_eq_false c9
        clear c9
        obtain rfl := Option.some.inj H
        go_wp2
        go_ret
        exact ⟨rfl, HB.out⟩
set_option maxHeartbeats 8000000 in
set_option maxRecDepth 100000 in
theorem count_62 (k : Nat) (below : Int) (cap : Value) (p : Int → Option Bool) (r : Int) (w : World)
    (hp : ∀ x b W, p x = some b → Below w.heap.size w W → Calls Try.prog 62 #[.int .i64 x, cap] W fun e w' => e = .returned (.bool b) ∧ Below W.heap.size W w')
    (h : cntL p k below 0 0 = some r) :
    Calls Try.prog 44 #[.int .i64 below, .func (.func 62) #[] #[cap]] w fun e w' => e = .returned (.int .i64 r) ∧ Below w.heap.size w w' := by
  have HB := Aside0.mk (Below.refl w.heap.size w)
  have HP := Aside0.mk hp
  clear hp
  have H' := Aside0.mk h
  clear h
  go_enter Try.func44, Try.ntmps44
  go_wp2
  go_loopg [5, 8] k (fun kq v5 v8 w' => ∃ (x5 x8 : Int), v5 = .int .i64 x5 ∧ v8 = .int .i64 x8 ∧ Aside0 (cntL p kq below x5 x8 = some r) ∧ Aside0 (kq ≤ k) ∧ Aside0 (Below w.heap.size w w'))
  case atStart => exact ⟨0, 0, rfl, rfl, H', ⟨Nat.le_refl _⟩, HB⟩
  case round =>
    clear H' HB
    obtain ⟨x5, x8, rfl, rfl, HA, HK1, HB⟩ := hrel
    cases gk with
    | zero => exact absurd HA.out (by simp [cntL])
    | succ k1 =>
      have H := HA.out
      clear HA
      simp only [cntL] at H
      by_cases c9 : x8 < below
      · rw [if_pos c9] at H
        have c9b0 : decide (x8 < below) = true := decide_eq_true c9
        clear c9
        replace H := Option.bind_eq_some_iff.mp H
        obtain ⟨t, A0, H⟩ := H
        have HC := Aside0.mk (HP.out x8 t wr A0 HB.out)
        clear A0
        cases t with
        | true =>
          have H' := Aside0.mk (by simpa using H : cntL p k1 below (wrap64 (x5 + 1)) (wrap64 (x8 + 1)) = some r)
          clear H
          go_wp2_with (first | (go_at_call 62; refine (HC.out).mono ?_; rintro e w2 ⟨rfl, hb⟩; have n1_ := Aside0.mk (below_step HB.out hb); clear HB; have HB := n1_; clear n1_; clear hb))
          go_roundg k1
          case measure => have := HK1.out; omega
          case rel => exact ⟨_, _, rfl, rfl, H', ⟨by have := HK1.out; omega⟩, HB⟩
        | false =>
          have H' := Aside0.mk (by simpa using H : cntL p k1 below x5 (wrap64 (x8 + 1)) = some r)
          clear H
          go_wp2_with (first | (go_at_call 62; refine (HC.out).mono ?_; rintro e w2 ⟨rfl, hb⟩; have n1_ := Aside0.mk (below_step HB.out hb); clear HB; have HB := n1_; clear n1_; clear hb))
          go_roundg k1
          case measure => have := HK1.out; omega
          case rel => exact ⟨_, _, rfl, rfl, H', ⟨by have := HK1.out; omega⟩, HB⟩
      · rw [if_neg c9] at H
        have c9b0 : decide (x8 < below) = false := decide_eq_false c9
        clear c9
        obtain rfl := Option.some.inj H
        go_wp2
        go_ret
        exact ⟨rfl, HB.out⟩
set_option maxHeartbeats 8000000 in
set_option maxRecDepth 100000 in
theorem count_65 (k : Nat) (below : Int) (cap : Value) (p : Int → Option Bool) (r : Int) (w : World)
    (hp : ∀ x b W, p x = some b → Below w.heap.size w W → Calls Try.prog 65 #[.int .i64 x, cap] W fun e w' => e = .returned (.bool b) ∧ Below W.heap.size W w')
    (h : cntL p k below 0 0 = some r) :
    Calls Try.prog 44 #[.int .i64 below, .func (.func 65) #[] #[cap]] w fun e w' => e = .returned (.int .i64 r) ∧ Below w.heap.size w w' := by
  have HB := Aside0.mk (Below.refl w.heap.size w)
  have HP := Aside0.mk hp
  clear hp
  have H' := Aside0.mk h
  clear h
  go_enter Try.func44, Try.ntmps44
  go_wp2
  go_loopg [5, 8] k (fun kq v5 v8 w' => ∃ (x5 x8 : Int), v5 = .int .i64 x5 ∧ v8 = .int .i64 x8 ∧ Aside0 (cntL p kq below x5 x8 = some r) ∧ Aside0 (kq ≤ k) ∧ Aside0 (Below w.heap.size w w'))
  case atStart => exact ⟨0, 0, rfl, rfl, H', ⟨Nat.le_refl _⟩, HB⟩
  case round =>
    clear H' HB
    obtain ⟨x5, x8, rfl, rfl, HA, HK1, HB⟩ := hrel
    cases gk with
    | zero => exact absurd HA.out (by simp [cntL])
    | succ k1 =>
      have H := HA.out
      clear HA
      simp only [cntL] at H
      by_cases c9 : x8 < below
      · rw [if_pos c9] at H
        have c9b0 : decide (x8 < below) = true := decide_eq_true c9
        clear c9
        replace H := Option.bind_eq_some_iff.mp H
        obtain ⟨t, A0, H⟩ := H
        have HC := Aside0.mk (HP.out x8 t wr A0 HB.out)
        clear A0
        cases t with
        | true =>
          have H' := Aside0.mk (by simpa using H : cntL p k1 below (wrap64 (x5 + 1)) (wrap64 (x8 + 1)) = some r)
          clear H
          go_wp2_with (first | (go_at_call 65; refine (HC.out).mono ?_; rintro e w2 ⟨rfl, hb⟩; have n1_ := Aside0.mk (below_step HB.out hb); clear HB; have HB := n1_; clear n1_; clear hb))
          go_roundg k1
          case measure => have := HK1.out; omega
          case rel => exact ⟨_, _, rfl, rfl, H', ⟨by have := HK1.out; omega⟩, HB⟩
        | false =>
          have H' := Aside0.mk (by simpa using H : cntL p k1 below x5 (wrap64 (x8 + 1)) = some r)
          clear H
          go_wp2_with (first | (go_at_call 65; refine (HC.out).mono ?_; rintro e w2 ⟨rfl, hb⟩; have n1_ := Aside0.mk (below_step HB.out hb); clear HB; have HB := n1_; clear n1_; clear hb))
          go_roundg k1
          case measure => have := HK1.out; omega
          case rel => exact ⟨_, _, rfl, rfl, H', ⟨by have := HK1.out; omega⟩, HB⟩
      · rw [if_neg c9] at H
        have c9b0 : decide (x8 < below) = false := decide_eq_false c9
        clear c9
        obtain rfl := Option.some.inj H
        go_wp2
        go_ret
        exact ⟨rfl, HB.out⟩
set_option maxHeartbeats 8000000 in
set_option maxRecDepth 100000 in
theorem count_68 (k : Nat) (below : Int) (cap : Value) (p : Int → Option Bool) (r : Int) (w : World)
    (hp : ∀ x b W, p x = some b → Below w.heap.size w W → Calls Try.prog 68 #[.int .i64 x, cap] W fun e w' => e = .returned (.bool b) ∧ Below W.heap.size W w')
    (h : cntL p k below 0 0 = some r) :
    Calls Try.prog 44 #[.int .i64 below, .func (.func 68) #[] #[cap]] w fun e w' => e = .returned (.int .i64 r) ∧ Below w.heap.size w w' := by
  have HB := Aside0.mk (Below.refl w.heap.size w)
  have HP := Aside0.mk hp
  clear hp
  have H' := Aside0.mk h
  clear h
  go_enter Try.func44, Try.ntmps44
  go_wp2
  go_loopg [5, 8] k (fun kq v5 v8 w' => ∃ (x5 x8 : Int), v5 = .int .i64 x5 ∧ v8 = .int .i64 x8 ∧ Aside0 (cntL p kq below x5 x8 = some r) ∧ Aside0 (kq ≤ k) ∧ Aside0 (Below w.heap.size w w'))
  case atStart => exact ⟨0, 0, rfl, rfl, H', ⟨Nat.le_refl _⟩, HB⟩
  case round =>
    clear H' HB
    obtain ⟨x5, x8, rfl, rfl, HA, HK1, HB⟩ := hrel
    cases gk with
    | zero => exact absurd HA.out (by simp [cntL])
    | succ k1 =>
      have H := HA.out
      clear HA
      simp only [cntL] at H
      by_cases c9 : x8 < below
      · rw [if_pos c9] at H
        have c9b0 : decide (x8 < below) = true := decide_eq_true c9
        clear c9
        replace H := Option.bind_eq_some_iff.mp H
        obtain ⟨t, A0, H⟩ := H
        have HC := Aside0.mk (HP.out x8 t wr A0 HB.out)
        clear A0
        cases t with
        | true =>
          have H' := Aside0.mk (by simpa using H : cntL p k1 below (wrap64 (x5 + 1)) (wrap64 (x8 + 1)) = some r)
          clear H
          go_wp2_with (first | (go_at_call 68; refine (HC.out).mono ?_; rintro e w2 ⟨rfl, hb⟩; have n1_ := Aside0.mk (below_step HB.out hb); clear HB; have HB := n1_; clear n1_; clear hb))
          go_roundg k1
          case measure => have := HK1.out; omega
          case rel => exact ⟨_, _, rfl, rfl, H', ⟨by have := HK1.out; omega⟩, HB⟩
        | false =>
          have H' := Aside0.mk (by simpa using H : cntL p k1 below x5 (wrap64 (x8 + 1)) = some r)
          clear H
          go_wp2_with (first | (go_at_call 68; refine (HC.out).mono ?_; rintro e w2 ⟨rfl, hb⟩; have n1_ := Aside0.mk (below_step HB.out hb); clear HB; have HB := n1_; clear n1_; clear hb))
          go_roundg k1
          case measure => have := HK1.out; omega
          case rel => exact ⟨_, _, rfl, rfl, H', ⟨by have := HK1.out; omega⟩, HB⟩
      · rw [if_neg c9] at H
        have c9b0 : decide (x8 < below) = false := decide_eq_false c9
        clear c9
        obtain rfl := Option.some.inj H
        go_wp2
        go_ret
        exact ⟨rfl, HB.out⟩
set_option maxHeartbeats 8000000 in
set_option maxRecDepth 100000 in
theorem count_45 (k : Nat) (below : Int) (cap cap2 : Value) (p : Int → Option Bool) (r : Int) (w : World)
    (hp : ∀ x b W, p x = some b → Below w.heap.size w W → Calls Try.prog 45 #[.int .i64 x, cap, cap2] W fun e w' => e = .returned (.bool b) ∧ Below W.heap.size W w')
    (h : cntL p k below 0 0 = some r) :
    Calls Try.prog 44 #[.int .i64 below, .func (.func 45) #[] #[cap, cap2]] w fun e w' => e = .returned (.int .i64 r) ∧ Below w.heap.size w w' := by
  have HB := Aside0.mk (Below.refl w.heap.size w)
  have HP := Aside0.mk hp
  clear hp
  have H' := Aside0.mk h
  clear h
  go_enter Try.func44, Try.ntmps44
  go_wp2
  go_loopg [5, 8] k (fun kq v5 v8 w' => ∃ (x5 x8 : Int), v5 = .int .i64 x5 ∧ v8 = .int .i64 x8 ∧ Aside0 (cntL p kq below x5 x8 = some r) ∧ Aside0 (kq ≤ k) ∧ Aside0 (Below w.heap.size w w'))
  case atStart => exact ⟨0, 0, rfl, rfl, H', ⟨Nat.le_refl _⟩, HB⟩
  case round =>
    clear H' HB
    obtain ⟨x5, x8, rfl, rfl, HA, HK1, HB⟩ := hrel
    cases gk with
    | zero => exact absurd HA.out (by simp [cntL])
    | succ k1 =>
      have H := HA.out
      clear HA
      simp only [cntL] at H
      by_cases c9 : x8 < below
      · rw [if_pos c9] at H
        have c9b0 : decide (x8 < below) = true := decide_eq_true c9
        clear c9
        replace H := Option.bind_eq_some_iff.mp H
        obtain ⟨t, A0, H⟩ := H
        have HC := Aside0.mk (HP.out x8 t wr A0 HB.out)
        clear A0
        cases t with
        | true =>
          have H' := Aside0.mk (by simpa using H : cntL p k1 below (wrap64 (x5 + 1)) (wrap64 (x8 + 1)) = some r)
          clear H
          go_wp2_with (first | (go_at_call 45; refine (HC.out).mono ?_; rintro e w2 ⟨rfl, hb⟩; have n1_ := Aside0.mk (below_step HB.out hb); clear HB; have HB := n1_; clear n1_; clear hb))
          go_roundg k1
          case measure => have := HK1.out; omega
          case rel => exact ⟨_, _, rfl, rfl, H', ⟨by have := HK1.out; omega⟩, HB⟩
        | false =>
          have H' := Aside0.mk (by simpa using H : cntL p k1 below x5 (wrap64 (x8 + 1)) = some r)
          clear H
          go_wp2_with (first | (go_at_call 45; refine (HC.out).mono ?_; rintro e w2 ⟨rfl, hb⟩; have n1_ := Aside0.mk (below_step HB.out hb); clear HB; have HB := n1_; clear n1_; clear hb))
          go_roundg k1
          case measure => have := HK1.out; omega
          case rel => exact ⟨_, _, rfl, rfl, H', ⟨by have := HK1.out; omega⟩, HB⟩
      · rw [if_neg c9] at H
        have c9b0 : decide (x8 < below) = false := decide_eq_false c9
        clear c9
        obtain rfl := Option.some.inj H
        go_wp2
        go_ret
        exact ⟨rfl, HB.out⟩
set_option maxHeartbeats 8000000 in
set_option maxRecDepth 100000 in
theorem count_71 (k : Nat) (below : Int) (cap cap2 : Value) (p : Int → Option Bool) (r : Int) (w : World)
    (hp : ∀ x b W, p x = some b → Below w.heap.size w W → Calls Try.prog 71 #[.int .i64 x, cap, cap2] W fun e w' => e = .returned (.bool b) ∧ Below W.heap.size W w')
    (h : cntL p k below 0 0 = some r) :
    Calls Try.prog 44 #[.int .i64 below, .func (.func 71) #[] #[cap, cap2]] w fun e w' => e = .returned (.int .i64 r) ∧ Below w.heap.size w w' := by
  have HB := Aside0.mk (Below.refl w.heap.size w)
  have HP := Aside0.mk hp
  clear hp
  have H' := Aside0.mk h
  clear h
  go_enter Try.func44, Try.ntmps44
  go_wp2
  go_loopg [5, 8] k (fun kq v5 v8 w' => ∃ (x5 x8 : Int), v5 = .int .i64 x5 ∧ v8 = .int .i64 x8 ∧ Aside0 (cntL p kq below x5 x8 = some r) ∧ Aside0 (kq ≤ k) ∧ Aside0 (Below w.heap.size w w'))
  case atStart => exact ⟨0, 0, rfl, rfl, H', ⟨Nat.le_refl _⟩, HB⟩
  case round =>
    clear H' HB
    obtain ⟨x5, x8, rfl, rfl, HA, HK1, HB⟩ := hrel
    cases gk with
    | zero => exact absurd HA.out (by simp [cntL])
    | succ k1 =>
      have H := HA.out
      clear HA
      simp only [cntL] at H
      by_cases c9 : x8 < below
      · rw [if_pos c9] at H
        have c9b0 : decide (x8 < below) = true := decide_eq_true c9
        clear c9
        replace H := Option.bind_eq_some_iff.mp H
        obtain ⟨t, A0, H⟩ := H
        have HC := Aside0.mk (HP.out x8 t wr A0 HB.out)
        clear A0
        cases t with
        | true =>
          have H' := Aside0.mk (by simpa using H : cntL p k1 below (wrap64 (x5 + 1)) (wrap64 (x8 + 1)) = some r)
          clear H
          go_wp2_with (first | (go_at_call 71; refine (HC.out).mono ?_; rintro e w2 ⟨rfl, hb⟩; have n1_ := Aside0.mk (below_step HB.out hb); clear HB; have HB := n1_; clear n1_; clear hb))
          go_roundg k1
          case measure => have := HK1.out; omega
          case rel => exact ⟨_, _, rfl, rfl, H', ⟨by have := HK1.out; omega⟩, HB⟩
        | false =>
          have H' := Aside0.mk (by simpa using H : cntL p k1 below x5 (wrap64 (x8 + 1)) = some r)
          clear H
          go_wp2_with (first | (go_at_call 71; refine (HC.out).mono ?_; rintro e w2 ⟨rfl, hb⟩; have n1_ := Aside0.mk (below_step HB.out hb); clear HB; have HB := n1_; clear n1_; clear hb))
          go_roundg k1
          case measure => have := HK1.out; omega
          case rel => exact ⟨_, _, rfl, rfl, H', ⟨by have := HK1.out; omega⟩, HB⟩
      · rw [if_neg c9] at H
        have c9b0 : decide (x8 < below) = false := decide_eq_false c9
        clear c9
        obtain rfl := Option.some.inj H
        go_wp2
        go_ret
        exact ⟨rfl, HB.out⟩
end Go.Proofs.Ytjklkphhfkdkpaa.P
