/- What the reference's integer functions come to: Of, make1, Norm, Cmp, Neg, Add, Sub, Mul, Same, Short.
What the reference's integer functions come to: DivMod, Small, Text, Parse.
The laws' common parts for integers: their arguments, short, the examples.
The laws' common parts for integers: the examples, short, normal. -/
import Derived.Test.YtkeipmkiilimeaaKF
import Derived.Test.YtkeipmkiilimeaaKC
import Derived.Test.YtkeipmkiilimeaaKG

set_option linter.unusedSimpArgs false
set_option linter.unusedVariables false
namespace Go.Proofs.Ytkeipmkiilimeaa.V
open Go Go.Proofs.Ytkeipmkiilimeaa.M
theorem make1_ev {b : Bool} {l : List Int} (hl : Lim l) (hs : l.length ≤ 1000000000) : Ev (fun k => (lvl tab ext k).call 46 [(.pv (.bool (b))), (.pv (.ints .u32 (l)))]) [.pv (ofZ (iv b l))] := by
  rw [ofZ_iv]
  have h1 := len_val_le hl
  refine Ev.call rfl tab46 ?_
  simp -implicitDefEqProofs (disch := omega) only [F46, go_sem, ↓reduceIte, reduceCtorEq, Nat.reduceAdd, Nat.reduceSub, Nat.reduceEqDiff, Nat.reduceLeDiff, Nat.reduceBEq]
  refine Ev.bind (rnorm_ev hl hs) ?_
  by_cases hz : 0 < (ofN (val l)).length
  · cases b
    · simp -implicitDefEqProofs (disch := omega) only [go_sem, ↓reduceIte, reduceCtorEq, Nat.reduceAdd, Nat.reduceSub, Nat.reduceEqDiff, Nat.reduceLeDiff, Nat.reduceBEq]
      exact Ev.ret _
    · simp -implicitDefEqProofs (disch := omega) only [go_sem, ↓reduceIte, reduceCtorEq, Nat.reduceAdd, Nat.reduceSub, Nat.reduceEqDiff, Nat.reduceLeDiff, Nat.reduceBEq]
      exact Ev.ret _
  · cases b
    · simp -implicitDefEqProofs (disch := omega) only [go_sem, ↓reduceIte, reduceCtorEq, Nat.reduceAdd, Nat.reduceSub, Nat.reduceEqDiff, Nat.reduceLeDiff, Nat.reduceBEq]
      exact Ev.ret _
    · simp -implicitDefEqProofs (disch := omega) only [go_sem, ↓reduceIte, reduceCtorEq, Nat.reduceAdd, Nat.reduceSub, Nat.reduceEqDiff, Nat.reduceLeDiff, Nat.reduceBEq]
      exact Ev.ret _
theorem yof_ev {n : Int} (h0 : -9223372036854775808 ≤ n) (h1 : n < 9223372036854775808) : Ev (fun k => (lvl tab ext k).call 27 [(.pv (.int .i64 (n)))]) [.pv (ofZ n)] := by
  by_cases h : n < 0
  · have ho := rof_ev (a := -n) (by omega) (by omega)
    rw [show (-n).toNat = n.natAbs from by omega] at ho
    have e : (0 - (n + 1)) % 18446744073709551616 + 1 = -n := by omega
    have e1 : (0 - (n + 1)) % 18446744073709551616 = 0 - (n + 1) := by omega
    have e2 : (0 - (n + 1)) + 1 = -n := by omega
    unfold ofZ
    refine Ev.call rfl tab27 ?_
    simp -implicitDefEqProofs (disch := omega) only [F27, e2, go_sem, ↓reduceIte, reduceCtorEq, Nat.reduceAdd, Nat.reduceSub, Nat.reduceEqDiff, Nat.reduceLeDiff, Nat.reduceBEq]
    refine Ev.bind ho ?_
    simp -implicitDefEqProofs (disch := omega) only [go_sem, ↓reduceIte, reduceCtorEq, Nat.reduceAdd, Nat.reduceSub, Nat.reduceEqDiff, Nat.reduceLeDiff, Nat.reduceBEq]
    exact Ev.ret _
  · have ho := rof_ev (a := n) (by omega) (by omega)
    rw [show n.toNat = n.natAbs from by omega] at ho
    unfold ofZ
    refine Ev.call rfl tab27 ?_
    simp -implicitDefEqProofs (disch := omega) only [F27, go_sem, ↓reduceIte, reduceCtorEq, Nat.reduceAdd, Nat.reduceSub, Nat.reduceEqDiff, Nat.reduceLeDiff, Nat.reduceBEq]
    refine Ev.bind ho ?_
    simp -implicitDefEqProofs (disch := omega) only [go_sem, ↓reduceIte, reduceCtorEq, Nat.reduceAdd, Nat.reduceSub, Nat.reduceEqDiff, Nat.reduceLeDiff, Nat.reduceBEq]
    exact Ev.ret _
theorem ynorm_ev {p : PV} {x : Int} (h : IsZ p x) : Ev (fun k => (lvl tab ext k).call 29 [.pv p]) [.pv (ofZ x)] := by
  obtain ⟨b, l, rfl, hl, hs, rfl⟩ := h
  refine Ev.call rfl tab29 ?_
  simp -implicitDefEqProofs (disch := omega) only [F29, go_sem, ↓reduceIte, reduceCtorEq, Nat.reduceAdd, Nat.reduceSub, Nat.reduceEqDiff, Nat.reduceLeDiff, Nat.reduceBEq]
  refine Ev.bind (make1_ev hl (by omega)) ?_
  unfold ofZ
  simp -implicitDefEqProofs (disch := omega) only [go_sem, ↓reduceIte, reduceCtorEq, Nat.reduceAdd, Nat.reduceSub, Nat.reduceEqDiff, Nat.reduceLeDiff, Nat.reduceBEq]
  exact Ev.ret _
theorem yneg_ev {p : PV} {x : Int} (h : IsZ p x) : Ev (fun k => (lvl tab ext k).call 33 [.pv p]) [.pv (ofZ (-x))] := by
  obtain ⟨b, l, rfl, hl, hs, rfl⟩ := h
  have e : iv (!b) l = -iv b l := by cases b <;> simp [iv]
  have sg := make1_ev (b := !b) hl (by omega)
  rw [e] at sg
  refine Ev.call rfl tab33 ?_
  simp -implicitDefEqProofs (disch := omega) only [F33, go_sem, ↓reduceIte, reduceCtorEq, Nat.reduceAdd, Nat.reduceSub, Nat.reduceEqDiff, Nat.reduceLeDiff, Nat.reduceBEq]
  refine Ev.bind sg ?_
  unfold ofZ
  simp -implicitDefEqProofs (disch := omega) only [go_sem, ↓reduceIte, reduceCtorEq, Nat.reduceAdd, Nat.reduceSub, Nat.reduceEqDiff, Nat.reduceLeDiff, Nat.reduceBEq]
  exact Ev.ret _
theorem ycmp_ev {p q : PV} {x y : Int} (hp : IsZ p x) (hq : IsZ q y) (hx : Sz 1000000 x) (hy : Sz 1000000 y) : Ev (fun k => (lvl tab ext k).call 31 [.pv p, .pv q]) [(.pv (.int .i64 (icmp x y)))] := by
  have n1 := ynorm_ev hp
  have n2 := ynorm_ev hq
  unfold Sz at hx hy
  obtain ⟨b, l, rfl, hl, hs, rfl⟩ := hp
  obtain ⟨c, m, rfl, hm, hs2, rfl⟩ := hq
  generalize iv b l = x at *
  generalize iv c m = y at *
  have c1 := rcmp_ev (lim_ofN x.natAbs) (lim_ofN y.natAbs) (by omega) (by omega)
  have c2 := rcmp_ev (lim_ofN y.natAbs) (lim_ofN x.natAbs) (by omega) (by omega)
  rw [val_ofN, val_ofN, ← icmp_nat] at c1 c2
  unfold ofZ at n1 n2
  by_cases h1 : x < 0
  · by_cases h2 : y < 0
    · rw [show icmp (y.natAbs : Int) (x.natAbs : Int) = icmp x y from by unfold icmp; (repeat' split) <;> omega] at c2
      simp -implicitDefEqProofs (disch := omega) only [go_sem, ↓reduceIte, reduceCtorEq, Nat.reduceAdd, Nat.reduceSub, Nat.reduceEqDiff, Nat.reduceLeDiff, Nat.reduceBEq] at n1 n2
      refine Ev.call rfl tab31 ?_
      simp -implicitDefEqProofs (disch := omega) only [F31, go_sem, ↓reduceIte, reduceCtorEq, Nat.reduceAdd, Nat.reduceSub, Nat.reduceEqDiff, Nat.reduceLeDiff, Nat.reduceBEq]
      refine Ev.bind n1 ?_
      simp -implicitDefEqProofs (disch := omega) only [go_sem, ↓reduceIte, reduceCtorEq, Nat.reduceAdd, Nat.reduceSub, Nat.reduceEqDiff, Nat.reduceLeDiff, Nat.reduceBEq]
      refine Ev.bind n2 ?_
      simp -implicitDefEqProofs (disch := omega) only [go_sem, ↓reduceIte, reduceCtorEq, Nat.reduceAdd, Nat.reduceSub, Nat.reduceEqDiff, Nat.reduceLeDiff, Nat.reduceBEq]
      refine Ev.bind c2 ?_
      simp -implicitDefEqProofs (disch := omega) only [go_sem, ↓reduceIte, reduceCtorEq, Nat.reduceAdd, Nat.reduceSub, Nat.reduceEqDiff, Nat.reduceLeDiff, Nat.reduceBEq]
      exact Ev.ret _
    · rw [icmp_lt (show x < y from by omega)]
      simp -implicitDefEqProofs (disch := omega) only [go_sem, ↓reduceIte, reduceCtorEq, Nat.reduceAdd, Nat.reduceSub, Nat.reduceEqDiff, Nat.reduceLeDiff, Nat.reduceBEq] at n1 n2
      refine Ev.call rfl tab31 ?_
      simp -implicitDefEqProofs (disch := omega) only [F31, go_sem, ↓reduceIte, reduceCtorEq, Nat.reduceAdd, Nat.reduceSub, Nat.reduceEqDiff, Nat.reduceLeDiff, Nat.reduceBEq]
      refine Ev.bind n1 ?_
      simp -implicitDefEqProofs (disch := omega) only [go_sem, ↓reduceIte, reduceCtorEq, Nat.reduceAdd, Nat.reduceSub, Nat.reduceEqDiff, Nat.reduceLeDiff, Nat.reduceBEq]
      refine Ev.bind n2 ?_
      simp -implicitDefEqProofs (disch := omega) only [go_sem, ↓reduceIte, reduceCtorEq, Nat.reduceAdd, Nat.reduceSub, Nat.reduceEqDiff, Nat.reduceLeDiff, Nat.reduceBEq]
      exact Ev.ret _
  · by_cases h2 : y < 0
    · rw [icmp_gt (show y < x from by omega)]
      simp -implicitDefEqProofs (disch := omega) only [go_sem, ↓reduceIte, reduceCtorEq, Nat.reduceAdd, Nat.reduceSub, Nat.reduceEqDiff, Nat.reduceLeDiff, Nat.reduceBEq] at n1 n2
      refine Ev.call rfl tab31 ?_
      simp -implicitDefEqProofs (disch := omega) only [F31, go_sem, ↓reduceIte, reduceCtorEq, Nat.reduceAdd, Nat.reduceSub, Nat.reduceEqDiff, Nat.reduceLeDiff, Nat.reduceBEq]
      refine Ev.bind n1 ?_
      simp -implicitDefEqProofs (disch := omega) only [go_sem, ↓reduceIte, reduceCtorEq, Nat.reduceAdd, Nat.reduceSub, Nat.reduceEqDiff, Nat.reduceLeDiff, Nat.reduceBEq]
      refine Ev.bind n2 ?_
      simp -implicitDefEqProofs (disch := omega) only [go_sem, ↓reduceIte, reduceCtorEq, Nat.reduceAdd, Nat.reduceSub, Nat.reduceEqDiff, Nat.reduceLeDiff, Nat.reduceBEq]
      exact Ev.ret _
    · rw [show icmp (x.natAbs : Int) (y.natAbs : Int) = icmp x y from by unfold icmp; (repeat' split) <;> omega] at c1
      simp -implicitDefEqProofs (disch := omega) only [go_sem, ↓reduceIte, reduceCtorEq, Nat.reduceAdd, Nat.reduceSub, Nat.reduceEqDiff, Nat.reduceLeDiff, Nat.reduceBEq] at n1 n2
      refine Ev.call rfl tab31 ?_
      simp -implicitDefEqProofs (disch := omega) only [F31, go_sem, ↓reduceIte, reduceCtorEq, Nat.reduceAdd, Nat.reduceSub, Nat.reduceEqDiff, Nat.reduceLeDiff, Nat.reduceBEq]
      refine Ev.bind n1 ?_
      simp -implicitDefEqProofs (disch := omega) only [go_sem, ↓reduceIte, reduceCtorEq, Nat.reduceAdd, Nat.reduceSub, Nat.reduceEqDiff, Nat.reduceLeDiff, Nat.reduceBEq]
      refine Ev.bind n2 ?_
      simp -implicitDefEqProofs (disch := omega) only [go_sem, ↓reduceIte, reduceCtorEq, Nat.reduceAdd, Nat.reduceSub, Nat.reduceEqDiff, Nat.reduceLeDiff, Nat.reduceBEq]
      refine Ev.bind c1 ?_
      simp -implicitDefEqProofs (disch := omega) only [go_sem, ↓reduceIte, reduceCtorEq, Nat.reduceAdd, Nat.reduceSub, Nat.reduceEqDiff, Nat.reduceLeDiff, Nat.reduceBEq]
      exact Ev.ret _
theorem yadd_ev {p q : PV} {x y : Int} (hp : IsZ p x) (hq : IsZ q y) : Ev (fun k => (lvl tab ext k).call 35 [.pv p, .pv q]) [.pv (ofZ (x + y))] := by
  obtain ⟨b, l, rfl, hl, hs, rfl⟩ := hp
  obtain ⟨c, m, rfl, hm, hs2, rfl⟩ := hq
  have hA := radd_ev hl hm (by omega) (by omega)
  have hS1 := rsub_ev hl hm (by omega) (by omega)
  have hS2 := rsub_ev hm hl (by omega) (by omega)
  have l1 := len_val_le hl
  have l2 := len_val_le hm
  have l3 := len_add (val l) (val m)
  by_cases hbc : b = c
  · subst hbc
    have sg := make1_ev (b := b) (lim_ofN (val l + val m)) (by omega)
    rw [iv_norm, show (if b = true then -((val l + val m : Nat) : Int) else ((val l + val m : Nat) : Int)) = iv b l + iv b m from by cases b <;> simp [iv] <;> omega] at sg
    have ht : (b = b) = True := eq_self b
    refine Ev.call rfl tab35 ?_
    simp -implicitDefEqProofs (disch := omega) only [F35, go_sem, ↓reduceIte, reduceCtorEq, Nat.reduceAdd, Nat.reduceSub, Nat.reduceEqDiff, Nat.reduceLeDiff, Nat.reduceBEq]
    refine Ev.bind hA ?_
    simp -implicitDefEqProofs (disch := omega) only [go_sem, ↓reduceIte, reduceCtorEq, Nat.reduceAdd, Nat.reduceSub, Nat.reduceEqDiff, Nat.reduceLeDiff, Nat.reduceBEq]
    refine Ev.bind sg ?_
    unfold ofZ
    simp -implicitDefEqProofs (disch := omega) only [go_sem, ↓reduceIte, reduceCtorEq, Nat.reduceAdd, Nat.reduceSub, Nat.reduceEqDiff, Nat.reduceLeDiff, Nat.reduceBEq]
    exact Ev.ret _
  · have hf : (b = c) = False := ff hbc
    by_cases hlt : val l < val m
    · rw [decide_eq_false (by omega)] at hS1
      have sg := make1_ev (b := c) (lim_ofN (val m - val l)) (by have := len_mono (Nat.sub_le (val m) (val l)); omega)
      rw [iv_norm, show (if c = true then -((val m - val l : Nat) : Int) else ((val m - val l : Nat) : Int)) = iv b l + iv c m from by cases b <;> cases c <;> simp [iv] at * <;> omega] at sg
      refine Ev.call rfl tab35 ?_
      simp -implicitDefEqProofs (disch := omega) only [F35, hf, go_sem, ↓reduceIte, reduceCtorEq, Nat.reduceAdd, Nat.reduceSub, Nat.reduceEqDiff, Nat.reduceLeDiff, Nat.reduceBEq]
      refine Ev.bind hS1 ?_
      simp -implicitDefEqProofs (disch := omega) only [go_sem, ↓reduceIte, reduceCtorEq, Nat.reduceAdd, Nat.reduceSub, Nat.reduceEqDiff, Nat.reduceLeDiff, Nat.reduceBEq]
      refine Ev.bind hS2 ?_
      simp -implicitDefEqProofs (disch := omega) only [go_sem, ↓reduceIte, reduceCtorEq, Nat.reduceAdd, Nat.reduceSub, Nat.reduceEqDiff, Nat.reduceLeDiff, Nat.reduceBEq]
      refine Ev.bind sg ?_
      unfold ofZ
      simp -implicitDefEqProofs (disch := omega) only [go_sem, ↓reduceIte, reduceCtorEq, Nat.reduceAdd, Nat.reduceSub, Nat.reduceEqDiff, Nat.reduceLeDiff, Nat.reduceBEq]
      exact Ev.ret _
    · rw [decide_eq_true (by omega)] at hS1
      have sg := make1_ev (b := b) (lim_ofN (val l - val m)) (by have := len_mono (Nat.sub_le (val l) (val m)); omega)
      rw [iv_norm, show (if b = true then -((val l - val m : Nat) : Int) else ((val l - val m : Nat) : Int)) = iv b l + iv c m from by cases b <;> cases c <;> simp [iv] at * <;> omega] at sg
      refine Ev.call rfl tab35 ?_
      simp -implicitDefEqProofs (disch := omega) only [F35, hf, go_sem, ↓reduceIte, reduceCtorEq, Nat.reduceAdd, Nat.reduceSub, Nat.reduceEqDiff, Nat.reduceLeDiff, Nat.reduceBEq]
      refine Ev.bind hS1 ?_
      simp -implicitDefEqProofs (disch := omega) only [go_sem, ↓reduceIte, reduceCtorEq, Nat.reduceAdd, Nat.reduceSub, Nat.reduceEqDiff, Nat.reduceLeDiff, Nat.reduceBEq]
      refine Ev.bind sg ?_
      unfold ofZ
      simp -implicitDefEqProofs (disch := omega) only [go_sem, ↓reduceIte, reduceCtorEq, Nat.reduceAdd, Nat.reduceSub, Nat.reduceEqDiff, Nat.reduceLeDiff, Nat.reduceBEq]
      exact Ev.ret _
theorem ysub_ev {p q : PV} {x y : Int} (hp : IsZ p x) (hq : IsZ q y) (hy : Sz 1000000 y) : Ev (fun k => (lvl tab ext k).call 37 [.pv p, .pv q]) [.pv (ofZ (x - y))] := by
  have n := yneg_ev hq
  have a := yadd_ev hp (isZ_of (sz_neg hy))
  rw [← Int.sub_eq_add_neg] at a
  obtain ⟨b, l, rfl, hl, hs, rfl⟩ := hp
  obtain ⟨c, m, rfl, hm, hs2, rfl⟩ := hq
  refine Ev.call rfl tab37 ?_
  simp -implicitDefEqProofs (disch := omega) only [F37, go_sem, ↓reduceIte, reduceCtorEq, Nat.reduceAdd, Nat.reduceSub, Nat.reduceEqDiff, Nat.reduceLeDiff, Nat.reduceBEq]
  refine Ev.bind n ?_
  unfold ofZ at a ⊢
  simp -implicitDefEqProofs (disch := omega) only [go_sem, ↓reduceIte, reduceCtorEq, Nat.reduceAdd, Nat.reduceSub, Nat.reduceEqDiff, Nat.reduceLeDiff, Nat.reduceBEq]
  refine Ev.bind a ?_
  simp -implicitDefEqProofs (disch := omega) only [go_sem, ↓reduceIte, reduceCtorEq, Nat.reduceAdd, Nat.reduceSub, Nat.reduceEqDiff, Nat.reduceLeDiff, Nat.reduceBEq]
  exact Ev.ret _
theorem ymul_ev {p q : PV} {x y : Int} (hp : IsZ p x) (hq : IsZ q y) : Ev (fun k => (lvl tab ext k).call 18 [.pv p, .pv q]) [.pv (ofZ (x * y))] := by
  obtain ⟨b, l, rfl, hl, hs, rfl⟩ := hp
  obtain ⟨c, m, rfl, hm, hs2, rfl⟩ := hq
  have hM := rmul_ev hl hm (by omega)
  have l1 := len_val_le hl
  have l2 := len_val_le hm
  have l3 := len_mul (val l) (val m)
  have sg := make1_ev (b := decide (¬ b = c)) (lim_ofN (val l * val m)) (by omega)
  rw [iv_norm, show (if decide (¬ b = c) = true then -((val l * val m : Nat) : Int) else ((val l * val m : Nat) : Int)) = iv b l * iv c m from by cases b <;> cases c <;> simp [iv, Int.neg_mul, Int.mul_neg]] at sg
  refine Ev.call rfl tab18 ?_
  simp -implicitDefEqProofs (disch := omega) only [F18, go_sem, ↓reduceIte, reduceCtorEq, Nat.reduceAdd, Nat.reduceSub, Nat.reduceEqDiff, Nat.reduceLeDiff, Nat.reduceBEq]
  refine Ev.bind hM ?_
  simp -implicitDefEqProofs (disch := omega) only [go_sem, ↓reduceIte, reduceCtorEq, Nat.reduceAdd, Nat.reduceSub, Nat.reduceEqDiff, Nat.reduceLeDiff, Nat.reduceBEq]
  refine Ev.bind sg ?_
  unfold ofZ
  simp -implicitDefEqProofs (disch := omega) only [go_sem, ↓reduceIte, reduceCtorEq, Nat.reduceAdd, Nat.reduceSub, Nat.reduceEqDiff, Nat.reduceLeDiff, Nat.reduceBEq]
  exact Ev.ret _
theorem same_loop {b c : Bool} {l m : List Int} (he : l.length = m.length) (hs : l.length ≤ 1000000000) : ∀ d i, d + i = l.length → ∀ n : Int, n = i → (∀ j, j < i → l.getD j 0 = m.getD j 0) →
    (l = m → Ev (fun k => run (lvl tab ext k) F16C0 F16L0 ⟨mk [(2, .ptr 2 0), (3, .ptr 3 0), (5, (.pv (.int .i64 (n))))], hp [(3, .vars [.pv (.bool c), .pv (.ints .u32 m)]), (2, .vars [.pv (.bool b), .pv (.ints .u32 l)])]⟩) (.exit 0, ⟨mk [(2, .ptr 2 0), (3, .ptr 3 0), (5, (.pv (.int .i64 ((l.length : Int))))), (24, (.pv (.bool (false))))], hp [(3, .vars [.pv (.bool c), .pv (.ints .u32 m)]), (2, .vars [.pv (.bool b), .pv (.ints .u32 l)])]⟩)) ∧
    (¬ l = m → Ev (fun k => run (lvl tab ext k) F16C0 F16L0 ⟨mk [(2, .ptr 2 0), (3, .ptr 3 0), (5, (.pv (.int .i64 (n))))], hp [(3, .vars [.pv (.bool c), .pv (.ints .u32 m)]), (2, .vars [.pv (.bool b), .pv (.ints .u32 l)])]⟩) (.ret, ⟨mk [(4, (.pv (.bool (false))))], hp [(3, .vars [.pv (.bool c), .pv (.ints .u32 m)]), (2, .vars [.pv (.bool b), .pv (.ints .u32 l)])]⟩)) := by
  intro d
  induction d with
  | zero =>
    intro i hd n hn hj
    have : i = l.length := by omega
    subst this
    subst hn
    refine ⟨fun _ => ?_, fun h => absurd (M.eq_of_getD he hj) h⟩
    clear hj
    refine Ev.body (by unfold F16L0; rfl) ?_
    simp -implicitDefEqProofs (disch := omega) only [go_sem, ↓reduceIte, reduceCtorEq, Nat.reduceAdd, Nat.reduceSub, Nat.reduceEqDiff, Nat.reduceLeDiff, Nat.reduceBEq]
    exact Ev.ret _
  | succ d ih =>
    intro i hd n hn hj
    subst hn
    by_cases h : l.getD i 0 = m.getD i 0
    · have ih := ih (i + 1) (by omega) ((i : Int) + 1) (by omega) (fun j hjj => by
        by_cases e : j = i
        · subst e; exact h
        · exact hj j (by omega))
      refine ih.imp (fun f g => ?_) (fun f g => ?_)
      · have f := f g
        clear ih hj g
        refine Ev.body (by unfold F16L0; rfl) ?_
        simp -implicitDefEqProofs (disch := omega) only [h, go_sem, ↓reduceIte, reduceCtorEq, Nat.reduceAdd, Nat.reduceSub, Nat.reduceEqDiff, Nat.reduceLeDiff, Nat.reduceBEq]
        exact Ev.lp (by simp -implicitDefEqProofs (disch := omega) only [F16C0, go_sem, ↓reduceIte, reduceCtorEq, Nat.reduceAdd, Nat.reduceSub, Nat.reduceEqDiff, Nat.reduceLeDiff, Nat.reduceBEq]) f
      · have f := f g
        clear ih hj g
        refine Ev.body (by unfold F16L0; rfl) ?_
        simp -implicitDefEqProofs (disch := omega) only [h, go_sem, ↓reduceIte, reduceCtorEq, Nat.reduceAdd, Nat.reduceSub, Nat.reduceEqDiff, Nat.reduceLeDiff, Nat.reduceBEq]
        exact Ev.lp (by simp -implicitDefEqProofs (disch := omega) only [F16C0, go_sem, ↓reduceIte, reduceCtorEq, Nat.reduceAdd, Nat.reduceSub, Nat.reduceEqDiff, Nat.reduceLeDiff, Nat.reduceBEq]) f
    · refine ⟨fun g => absurd (by rw [g]) h, fun _ => ?_⟩
      clear ih hj
      refine Ev.body (by unfold F16L0; rfl) ?_
      simp -implicitDefEqProofs (disch := omega) only [go_sem, ↓reduceIte, reduceCtorEq, Nat.reduceAdd, Nat.reduceSub, Nat.reduceEqDiff, Nat.reduceLeDiff, Nat.reduceBEq]
      exact Ev.ret _
theorem same_ev {b c : Bool} {l m : List Int} (hs : l.length ≤ 1000000000) (hs2 : m.length ≤ 1000000000) : Ev (fun k => (lvl tab ext k).call 16 [.pv (.agg [.bool b, .ints .u32 l]), .pv (.agg [.bool c, .ints .u32 m])]) [(.pv (.bool (decide (b = c ∧ l = m))))] := by
  by_cases hb : b = c
  · subst hb
    by_cases he : l.length = m.length
    · have lp := same_loop (b := b) (c := b) he hs l.length 0 (by omega) 0 rfl (fun j hj => absurd hj (Nat.not_lt_zero _))
      by_cases hl : l = m
      · have lp := lp.1 hl
        rw [decide_eq_true ⟨rfl, hl⟩]
        clear hl
        refine Ev.call rfl tab16 ?_
        simp -implicitDefEqProofs (disch := omega) only [F16, go_sem, ↓reduceIte, reduceCtorEq, Nat.reduceAdd, Nat.reduceSub, Nat.reduceEqDiff, Nat.reduceLeDiff, Nat.reduceBEq]
        refine Ev.bind (Ev.lp (by simp -implicitDefEqProofs (disch := omega) only [F16C0, go_sem, ↓reduceIte, reduceCtorEq, Nat.reduceAdd, Nat.reduceSub, Nat.reduceEqDiff, Nat.reduceLeDiff, Nat.reduceBEq]) lp) ?_
        simp -implicitDefEqProofs (disch := omega) only [go_sem, ↓reduceIte, reduceCtorEq, Nat.reduceAdd, Nat.reduceSub, Nat.reduceEqDiff, Nat.reduceLeDiff, Nat.reduceBEq]
        exact Ev.ret _
      · have lp := lp.2 hl
        rw [decide_eq_false (fun h => hl h.2)]
        clear hl
        refine Ev.call rfl tab16 ?_
        simp -implicitDefEqProofs (disch := omega) only [F16, go_sem, ↓reduceIte, reduceCtorEq, Nat.reduceAdd, Nat.reduceSub, Nat.reduceEqDiff, Nat.reduceLeDiff, Nat.reduceBEq]
        refine Ev.bind (Ev.lp (by simp -implicitDefEqProofs (disch := omega) only [F16C0, go_sem, ↓reduceIte, reduceCtorEq, Nat.reduceAdd, Nat.reduceSub, Nat.reduceEqDiff, Nat.reduceLeDiff, Nat.reduceBEq]) lp) ?_
        simp -implicitDefEqProofs (disch := omega) only [go_sem, ↓reduceIte, reduceCtorEq, Nat.reduceAdd, Nat.reduceSub, Nat.reduceEqDiff, Nat.reduceLeDiff, Nat.reduceBEq]
        exact Ev.ret _
    · rw [decide_eq_false (fun h => he (by rw [h.2]))]
      refine Ev.call rfl tab16 ?_
      simp -implicitDefEqProofs (disch := omega) only [F16, go_sem, ↓reduceIte, reduceCtorEq, Nat.reduceAdd, Nat.reduceSub, Nat.reduceEqDiff, Nat.reduceLeDiff, Nat.reduceBEq]
      exact Ev.ret _
  · have hf : (b = c) = False := ff hb
    rw [decide_eq_false (fun h => hb h.1)]
    refine Ev.call rfl tab16 ?_
    simp -implicitDefEqProofs (disch := omega) only [F16, hf, go_sem, ↓reduceIte, reduceCtorEq, Nat.reduceAdd, Nat.reduceSub, Nat.reduceEqDiff, Nat.reduceLeDiff, Nat.reduceBEq]
    exact Ev.ret _
theorem ofZ_inj {x y : Int} : (decide (x < 0) = decide (y < 0) ∧ ofN x.natAbs = ofN y.natAbs) ↔ x = y := by
  constructor
  · rintro ⟨h1, h2⟩
    have h3 := ofN_inj h2
    by_cases hx : x < 0
    · rw [decide_eq_true hx] at h1
      have := of_decide_eq_true h1.symm
      omega
    · rw [decide_eq_false hx] at h1
      have := of_decide_eq_false h1.symm
      omega
  · rintro rfl
    exact ⟨rfl, rfl⟩
theorem ysame_ev {x y : Int} (hx : Sz 1000000 x) (hy : Sz 1000000 y) : Ev (fun k => (lvl tab ext k).call 16 [.pv (ofZ x), .pv (ofZ y)]) [(.pv (.bool (decide (x = y))))] := by
  unfold Sz at hx hy
  have := same_ev (b := decide (x < 0)) (c := decide (y < 0)) (l := ofN x.natAbs) (m := ofN y.natAbs) (by omega) (by omega)
  rw [decide_eq_decide.2 ofZ_inj] at this
  exact this
theorem short_ev {b : Bool} {l : List Int} {n : Int} : Ev (fun k => (lvl tab ext k).call 19 [.pv (.agg [.bool b, .ints .u32 l]), (.pv (.int .i64 (n)))]) [(.pv (.bool (decide ((l.length : Int) ≤ n))))] := by
  refine Ev.call rfl tab19 ?_
  simp -implicitDefEqProofs (disch := omega) only [F19, go_sem, ↓reduceIte, reduceCtorEq, Nat.reduceAdd, Nat.reduceSub, Nat.reduceEqDiff, Nat.reduceLeDiff, Nat.reduceBEq]
  exact Ev.ret _
end Go.Proofs.Ytkeipmkiilimeaa.V
set_option linter.unusedSimpArgs false
set_option linter.unusedVariables false
namespace Go.Proofs.Ytkeipmkiilimeaa.V
open Go Go.Proofs.Ytkeipmkiilimeaa.M
theorem ofZ_nought : ofZ 0 = .agg [.bool false, .ints .u32 []] := by unfold ofZ; rw [show (0 : Int).natAbs = 0 from rfl, ofN_zero]; rfl
theorem ydm0_ev {p q : PV} {x : Int} (hp : IsZ p x) (hq : IsZ q 0) (hx : Sz 1000000 x) : Ev (fun k => (lvl tab ext k).call 15 [.pv p, .pv q]) [.pv (ofZ 0), .pv (ofZ 0), (.pv (.bool (false)))] := by
  have n1 := ynorm_ev hp
  have n2 := ynorm_ev hq
  rw [ofZ_nought] at n2 ⊢
  have hd := rdivmod0_ev (lim_ofN x.natAbs) (b := []) lim_nil (by decide) rfl
  obtain ⟨b, l, rfl, hl, hs, rfl⟩ := hp
  obtain ⟨c, m, rfl, hm, hs2, he⟩ := hq
  generalize iv b l = x at *
  unfold ofZ at n1
  refine Ev.call rfl tab15 ?_
  simp -implicitDefEqProofs (disch := omega) only [F15, go_sem, ↓reduceIte, reduceCtorEq, Nat.reduceAdd, Nat.reduceSub, Nat.reduceEqDiff, Nat.reduceLeDiff, Nat.reduceBEq]
  refine Ev.bind n1 ?_
  simp -implicitDefEqProofs (disch := omega) only [go_sem, ↓reduceIte, reduceCtorEq, Nat.reduceAdd, Nat.reduceSub, Nat.reduceEqDiff, Nat.reduceLeDiff, Nat.reduceBEq]
  refine Ev.bind n2 ?_
  simp -implicitDefEqProofs (disch := omega) only [go_sem, ↓reduceIte, reduceCtorEq, Nat.reduceAdd, Nat.reduceSub, Nat.reduceEqDiff, Nat.reduceLeDiff, Nat.reduceBEq]
  refine Ev.bind hd ?_
  simp -implicitDefEqProofs (disch := omega) only [go_sem, ↓reduceIte, reduceCtorEq, Nat.reduceAdd, Nat.reduceSub, Nat.reduceEqDiff, Nat.reduceLeDiff, Nat.reduceBEq]
  exact Ev.ret _
theorem ydivmod_ev {p q : PV} {x y : Int} (hp : IsZ p x) (hq : IsZ q y) (hy : y ≠ 0) (hx1 : Sz 1000000 x) (hy1 : Sz 1000000 y) : Ev (fun k => (lvl tab ext k).call 15 [.pv p, .pv q]) [.pv (ofZ (x / y)), .pv (ofZ (x % y)), (.pv (.bool (true)))] := by
  have n1 := ynorm_ev hp
  have n2 := ynorm_ev hq
  unfold Sz at hx1 hy1
  obtain ⟨b, l, rfl, hl, hs, rfl⟩ := hp
  obtain ⟨c, m, rfl, hm, hs2, rfl⟩ := hq
  generalize iv b l = x at *
  generalize iv c m = y at *
  have hv0 : y.natAbs ≠ 0 := by omega
  have hd := rdivmod_ev (lim_ofN x.natAbs) (lim_ofN y.natAbs) (by omega) (by omega) (by rw [val_ofN]; exact hv0)
  rw [val_ofN, val_ofN] at hd
  have l3 := len_mono (Nat.div_le_self x.natAbs y.natAbs)
  have l4 := len_mono (Nat.le_of_lt (Nat.mod_lt x.natAbs (Nat.pos_of_ne_zero hv0)))
  have hdm := Nat.div_add_mod x.natAbs y.natAbs
  have hlt := Nat.mod_lt x.natAbs (Nat.pos_of_ne_zero hv0)
  generalize hQ : x.natAbs / y.natAbs = Q at *
  generalize hR : x.natAbs % y.natAbs = R at *
  have hdm' : (y.natAbs : Int) * (Q : Int) + (R : Int) = (x.natAbs : Int) := by rw [← hdm]; simp
  have hnr := rnorm_ev (lim_ofN R) (by omega)
  rw [val_ofN] at hnr
  by_cases hx : x < 0
  · by_cases hR0 : R = 0
    · subst hR0
      have key : x / y = (if y < 0 then (Q : Int) else -(Q : Int)) ∧ x % y = 0 := by
        refine zdm hy ?_ (by omega) (by omega)
        by_cases h : y < 0
        · rw [if_pos h, show y = -(y.natAbs : Int) from by omega, Int.neg_mul]; omega
        · rw [if_neg h, show y = (y.natAbs : Int) from by omega, Int.mul_neg]; omega
      rw [key.1, key.2]
      have m2 := make1_ev (b := false) (l := []) lim_nil (by decide)
      rw [show iv false [] = 0 from rfl] at m2
      rw [ofN_zero] at hd hnr
      by_cases h : y < 0
      · have m1 := make1_ev (b := false) (lim_ofN Q) (by omega)
        rw [iv_norm, if_neg (by decide)] at m1
        rw [if_pos h]
        clear key hdm hdm' hQ hR
        unfold ofZ at n1 n2 m1 m2 ⊢
        simp -implicitDefEqProofs (disch := omega) only [go_sem, ↓reduceIte, reduceCtorEq, Nat.reduceAdd, Nat.reduceSub, Nat.reduceEqDiff, Nat.reduceLeDiff, Nat.reduceBEq] at n1 n2 m1 m2
        refine Ev.call rfl tab15 ?_
        simp -implicitDefEqProofs (disch := omega) only [F15, go_sem, ↓reduceIte, reduceCtorEq, Nat.reduceAdd, Nat.reduceSub, Nat.reduceEqDiff, Nat.reduceLeDiff, Nat.reduceBEq]
        refine Ev.bind n1 ?_
        simp -implicitDefEqProofs (disch := omega) only [go_sem, ↓reduceIte, reduceCtorEq, Nat.reduceAdd, Nat.reduceSub, Nat.reduceEqDiff, Nat.reduceLeDiff, Nat.reduceBEq]
        refine Ev.bind n2 ?_
        simp -implicitDefEqProofs (disch := omega) only [go_sem, ↓reduceIte, reduceCtorEq, Nat.reduceAdd, Nat.reduceSub, Nat.reduceEqDiff, Nat.reduceLeDiff, Nat.reduceBEq]
        refine Ev.bind hd ?_
        simp -implicitDefEqProofs (disch := omega) only [go_sem, ↓reduceIte, reduceCtorEq, Nat.reduceAdd, Nat.reduceSub, Nat.reduceEqDiff, Nat.reduceLeDiff, Nat.reduceBEq]
        refine Ev.bind hnr ?_
        simp -implicitDefEqProofs (disch := omega) only [go_sem, ↓reduceIte, reduceCtorEq, Nat.reduceAdd, Nat.reduceSub, Nat.reduceEqDiff, Nat.reduceLeDiff, Nat.reduceBEq]
        refine Ev.bind m1 ?_
        simp -implicitDefEqProofs (disch := omega) only [go_sem, ↓reduceIte, reduceCtorEq, Nat.reduceAdd, Nat.reduceSub, Nat.reduceEqDiff, Nat.reduceLeDiff, Nat.reduceBEq]
        refine Ev.bind m2 ?_
        simp -implicitDefEqProofs (disch := omega) only [go_sem, ↓reduceIte, reduceCtorEq, Nat.reduceAdd, Nat.reduceSub, Nat.reduceEqDiff, Nat.reduceLeDiff, Nat.reduceBEq]
        exact Ev.ret _
      · have m1 := make1_ev (b := true) (lim_ofN Q) (by omega)
        rw [iv_norm, if_pos rfl] at m1
        rw [if_neg h]
        clear key hdm hdm' hQ hR
        have ht : (true = false) = False := by simp
        unfold ofZ at n1 n2 m1 m2 ⊢
        simp -implicitDefEqProofs (disch := omega) only [go_sem, ↓reduceIte, reduceCtorEq, Nat.reduceAdd, Nat.reduceSub, Nat.reduceEqDiff, Nat.reduceLeDiff, Nat.reduceBEq] at n1 n2 m1 m2
        refine Ev.call rfl tab15 ?_
        simp -implicitDefEqProofs (disch := omega) only [F15, go_sem, ↓reduceIte, reduceCtorEq, Nat.reduceAdd, Nat.reduceSub, Nat.reduceEqDiff, Nat.reduceLeDiff, Nat.reduceBEq]
        refine Ev.bind n1 ?_
        simp -implicitDefEqProofs (disch := omega) only [go_sem, ↓reduceIte, reduceCtorEq, Nat.reduceAdd, Nat.reduceSub, Nat.reduceEqDiff, Nat.reduceLeDiff, Nat.reduceBEq]
        refine Ev.bind n2 ?_
        simp -implicitDefEqProofs (disch := omega) only [go_sem, ↓reduceIte, reduceCtorEq, Nat.reduceAdd, Nat.reduceSub, Nat.reduceEqDiff, Nat.reduceLeDiff, Nat.reduceBEq]
        refine Ev.bind hd ?_
        simp -implicitDefEqProofs (disch := omega) only [go_sem, ↓reduceIte, reduceCtorEq, Nat.reduceAdd, Nat.reduceSub, Nat.reduceEqDiff, Nat.reduceLeDiff, Nat.reduceBEq]
        refine Ev.bind hnr ?_
        simp -implicitDefEqProofs (disch := omega) only [go_sem, ↓reduceIte, reduceCtorEq, Nat.reduceAdd, Nat.reduceSub, Nat.reduceEqDiff, Nat.reduceLeDiff, Nat.reduceBEq]
        refine Ev.bind m1 ?_
        simp -implicitDefEqProofs (disch := omega) only [go_sem, ↓reduceIte, reduceCtorEq, Nat.reduceAdd, Nat.reduceSub, Nat.reduceEqDiff, Nat.reduceLeDiff, Nat.reduceBEq]
        refine Ev.bind m2 ?_
        simp -implicitDefEqProofs (disch := omega) only [go_sem, ↓reduceIte, reduceCtorEq, Nat.reduceAdd, Nat.reduceSub, Nat.reduceEqDiff, Nat.reduceLeDiff, Nat.reduceBEq]
        exact Ev.ret _
    · have key : x / y = (if y < 0 then ((Q + 1 : Nat) : Int) else -((Q + 1 : Nat) : Int)) ∧ x % y = ((y.natAbs - R : Nat) : Int) := by
        refine zdm hy ?_ (by omega) (by omega)
        have e : (y.natAbs : Int) * ((Q + 1 : Nat) : Int) = (y.natAbs : Int) * (Q : Int) + (y.natAbs : Int) := by rw [Int.natCast_add, Int.mul_add]; simp
        by_cases h : y < 0
        · rw [if_pos h]
          have e2 : y * ((Q + 1 : Nat) : Int) = -((y.natAbs : Int) * ((Q + 1 : Nat) : Int)) := by rw [← Int.neg_mul]; congr 1; omega
          rw [e2, e]; omega
        · rw [if_neg h]
          have e2 : y * -((Q + 1 : Nat) : Int) = -((y.natAbs : Int) * ((Q + 1 : Nat) : Int)) := by rw [Int.mul_neg]; congr 2; omega
          rw [e2, e]; omega
      rw [key.1, key.2]
      have hpos := ofN_length_pos.2 (Nat.pos_of_ne_zero hR0)
      have ho := rof_ev (a := 1) (by decide) (by decide)
      rw [show (1 : Int).toNat = 1 from rfl] at ho
      have s1 := len_small (n := 1) (by decide)
      have ha := radd_ev (lim_ofN Q) (lim_ofN 1) (by omega) (by omega)
      rw [val_ofN, val_ofN] at ha
      have s2 := len_add Q 1
      have hs := rsub_ev (lim_ofN y.natAbs) (lim_ofN R) (by omega) (by omega)
      rw [val_ofN, val_ofN, decide_eq_true (by omega)] at hs
      have s3 := len_mono (Nat.sub_le y.natAbs R)
      have m2 := make1_ev (b := false) (lim_ofN (y.natAbs - R)) (by omega)
      rw [iv_norm, if_neg (by decide)] at m2
      by_cases h : y < 0
      · have m1 := make1_ev (b := false) (lim_ofN (Q + 1)) (by omega)
        rw [iv_norm, if_neg (by decide)] at m1
        rw [if_pos h]
        clear key hdm hdm' hQ hR
        unfold ofZ at n1 n2 m1 m2 ⊢
        simp -implicitDefEqProofs (disch := omega) only [go_sem, ↓reduceIte, reduceCtorEq, Nat.reduceAdd, Nat.reduceSub, Nat.reduceEqDiff, Nat.reduceLeDiff, Nat.reduceBEq] at n1 n2 m1 m2
        refine Ev.call rfl tab15 ?_
        simp -implicitDefEqProofs (disch := omega) only [F15, go_sem, ↓reduceIte, reduceCtorEq, Nat.reduceAdd, Nat.reduceSub, Nat.reduceEqDiff, Nat.reduceLeDiff, Nat.reduceBEq]
        refine Ev.bind n1 ?_
        simp -implicitDefEqProofs (disch := omega) only [go_sem, ↓reduceIte, reduceCtorEq, Nat.reduceAdd, Nat.reduceSub, Nat.reduceEqDiff, Nat.reduceLeDiff, Nat.reduceBEq]
        refine Ev.bind n2 ?_
        simp -implicitDefEqProofs (disch := omega) only [go_sem, ↓reduceIte, reduceCtorEq, Nat.reduceAdd, Nat.reduceSub, Nat.reduceEqDiff, Nat.reduceLeDiff, Nat.reduceBEq]
        refine Ev.bind hd ?_
        simp -implicitDefEqProofs (disch := omega) only [go_sem, ↓reduceIte, reduceCtorEq, Nat.reduceAdd, Nat.reduceSub, Nat.reduceEqDiff, Nat.reduceLeDiff, Nat.reduceBEq]
        refine Ev.bind hnr ?_
        simp -implicitDefEqProofs (disch := omega) only [go_sem, ↓reduceIte, reduceCtorEq, Nat.reduceAdd, Nat.reduceSub, Nat.reduceEqDiff, Nat.reduceLeDiff, Nat.reduceBEq]
        refine Ev.bind ho ?_
        simp -implicitDefEqProofs (disch := omega) only [go_sem, ↓reduceIte, reduceCtorEq, Nat.reduceAdd, Nat.reduceSub, Nat.reduceEqDiff, Nat.reduceLeDiff, Nat.reduceBEq]
        refine Ev.bind ha ?_
        simp -implicitDefEqProofs (disch := omega) only [go_sem, ↓reduceIte, reduceCtorEq, Nat.reduceAdd, Nat.reduceSub, Nat.reduceEqDiff, Nat.reduceLeDiff, Nat.reduceBEq]
        refine Ev.bind hs ?_
        simp -implicitDefEqProofs (disch := omega) only [go_sem, ↓reduceIte, reduceCtorEq, Nat.reduceAdd, Nat.reduceSub, Nat.reduceEqDiff, Nat.reduceLeDiff, Nat.reduceBEq]
        refine Ev.bind m1 ?_
        simp -implicitDefEqProofs (disch := omega) only [go_sem, ↓reduceIte, reduceCtorEq, Nat.reduceAdd, Nat.reduceSub, Nat.reduceEqDiff, Nat.reduceLeDiff, Nat.reduceBEq]
        refine Ev.bind m2 ?_
        simp -implicitDefEqProofs (disch := omega) only [go_sem, ↓reduceIte, reduceCtorEq, Nat.reduceAdd, Nat.reduceSub, Nat.reduceEqDiff, Nat.reduceLeDiff, Nat.reduceBEq]
        exact Ev.ret _
      · have m1 := make1_ev (b := true) (lim_ofN (Q + 1)) (by omega)
        rw [iv_norm, if_pos rfl] at m1
        rw [if_neg h]
        clear key hdm hdm' hQ hR
        unfold ofZ at n1 n2 m1 m2 ⊢
        simp -implicitDefEqProofs (disch := omega) only [go_sem, ↓reduceIte, reduceCtorEq, Nat.reduceAdd, Nat.reduceSub, Nat.reduceEqDiff, Nat.reduceLeDiff, Nat.reduceBEq] at n1 n2 m1 m2
        refine Ev.call rfl tab15 ?_
        simp -implicitDefEqProofs (disch := omega) only [F15, go_sem, ↓reduceIte, reduceCtorEq, Nat.reduceAdd, Nat.reduceSub, Nat.reduceEqDiff, Nat.reduceLeDiff, Nat.reduceBEq]
        refine Ev.bind n1 ?_
        simp -implicitDefEqProofs (disch := omega) only [go_sem, ↓reduceIte, reduceCtorEq, Nat.reduceAdd, Nat.reduceSub, Nat.reduceEqDiff, Nat.reduceLeDiff, Nat.reduceBEq]
        refine Ev.bind n2 ?_
        simp -implicitDefEqProofs (disch := omega) only [go_sem, ↓reduceIte, reduceCtorEq, Nat.reduceAdd, Nat.reduceSub, Nat.reduceEqDiff, Nat.reduceLeDiff, Nat.reduceBEq]
        refine Ev.bind hd ?_
        simp -implicitDefEqProofs (disch := omega) only [go_sem, ↓reduceIte, reduceCtorEq, Nat.reduceAdd, Nat.reduceSub, Nat.reduceEqDiff, Nat.reduceLeDiff, Nat.reduceBEq]
        refine Ev.bind hnr ?_
        simp -implicitDefEqProofs (disch := omega) only [go_sem, ↓reduceIte, reduceCtorEq, Nat.reduceAdd, Nat.reduceSub, Nat.reduceEqDiff, Nat.reduceLeDiff, Nat.reduceBEq]
        refine Ev.bind ho ?_
        simp -implicitDefEqProofs (disch := omega) only [go_sem, ↓reduceIte, reduceCtorEq, Nat.reduceAdd, Nat.reduceSub, Nat.reduceEqDiff, Nat.reduceLeDiff, Nat.reduceBEq]
        refine Ev.bind ha ?_
        simp -implicitDefEqProofs (disch := omega) only [go_sem, ↓reduceIte, reduceCtorEq, Nat.reduceAdd, Nat.reduceSub, Nat.reduceEqDiff, Nat.reduceLeDiff, Nat.reduceBEq]
        refine Ev.bind hs ?_
        simp -implicitDefEqProofs (disch := omega) only [go_sem, ↓reduceIte, reduceCtorEq, Nat.reduceAdd, Nat.reduceSub, Nat.reduceEqDiff, Nat.reduceLeDiff, Nat.reduceBEq]
        refine Ev.bind m1 ?_
        simp -implicitDefEqProofs (disch := omega) only [go_sem, ↓reduceIte, reduceCtorEq, Nat.reduceAdd, Nat.reduceSub, Nat.reduceEqDiff, Nat.reduceLeDiff, Nat.reduceBEq]
        refine Ev.bind m2 ?_
        simp -implicitDefEqProofs (disch := omega) only [go_sem, ↓reduceIte, reduceCtorEq, Nat.reduceAdd, Nat.reduceSub, Nat.reduceEqDiff, Nat.reduceLeDiff, Nat.reduceBEq]
        exact Ev.ret _
  · have key : x / y = (if y < 0 then -(Q : Int) else (Q : Int)) ∧ x % y = (R : Int) := by
      refine zdm hy ?_ (by omega) (by omega)
      by_cases h : y < 0
      · rw [if_pos h, show y = -(y.natAbs : Int) from by omega, Int.neg_mul_neg]; omega
      · rw [if_neg h, show y = (y.natAbs : Int) from by omega]; omega
    rw [key.1, key.2]
    have m2 := make1_ev (b := false) (lim_ofN R) (by omega)
    rw [iv_norm, if_neg (by decide)] at m2
    by_cases h : y < 0
    · have m1 := make1_ev (b := true) (lim_ofN Q) (by omega)
      rw [iv_norm, if_pos rfl] at m1
      rw [if_pos h]
      clear key hdm hdm' hQ hR
      unfold ofZ at n1 n2 m1 m2 ⊢
      simp -implicitDefEqProofs (disch := omega) only [go_sem, ↓reduceIte, reduceCtorEq, Nat.reduceAdd, Nat.reduceSub, Nat.reduceEqDiff, Nat.reduceLeDiff, Nat.reduceBEq] at n1 n2 m1 m2
      refine Ev.call rfl tab15 ?_
      simp -implicitDefEqProofs (disch := omega) only [F15, go_sem, ↓reduceIte, reduceCtorEq, Nat.reduceAdd, Nat.reduceSub, Nat.reduceEqDiff, Nat.reduceLeDiff, Nat.reduceBEq]
      refine Ev.bind n1 ?_
      simp -implicitDefEqProofs (disch := omega) only [go_sem, ↓reduceIte, reduceCtorEq, Nat.reduceAdd, Nat.reduceSub, Nat.reduceEqDiff, Nat.reduceLeDiff, Nat.reduceBEq]
      refine Ev.bind n2 ?_
      simp -implicitDefEqProofs (disch := omega) only [go_sem, ↓reduceIte, reduceCtorEq, Nat.reduceAdd, Nat.reduceSub, Nat.reduceEqDiff, Nat.reduceLeDiff, Nat.reduceBEq]
      refine Ev.bind hd ?_
      simp -implicitDefEqProofs (disch := omega) only [go_sem, ↓reduceIte, reduceCtorEq, Nat.reduceAdd, Nat.reduceSub, Nat.reduceEqDiff, Nat.reduceLeDiff, Nat.reduceBEq]
      refine Ev.bind m1 ?_
      simp -implicitDefEqProofs (disch := omega) only [go_sem, ↓reduceIte, reduceCtorEq, Nat.reduceAdd, Nat.reduceSub, Nat.reduceEqDiff, Nat.reduceLeDiff, Nat.reduceBEq]
      refine Ev.bind m2 ?_
      simp -implicitDefEqProofs (disch := omega) only [go_sem, ↓reduceIte, reduceCtorEq, Nat.reduceAdd, Nat.reduceSub, Nat.reduceEqDiff, Nat.reduceLeDiff, Nat.reduceBEq]
      exact Ev.ret _
    · have m1 := make1_ev (b := false) (lim_ofN Q) (by omega)
      rw [iv_norm, if_neg (by decide)] at m1
      rw [if_neg h]
      clear key hdm hdm' hQ hR
      unfold ofZ at n1 n2 m1 m2 ⊢
      simp -implicitDefEqProofs (disch := omega) only [go_sem, ↓reduceIte, reduceCtorEq, Nat.reduceAdd, Nat.reduceSub, Nat.reduceEqDiff, Nat.reduceLeDiff, Nat.reduceBEq] at n1 n2 m1 m2
      refine Ev.call rfl tab15 ?_
      simp -implicitDefEqProofs (disch := omega) only [F15, go_sem, ↓reduceIte, reduceCtorEq, Nat.reduceAdd, Nat.reduceSub, Nat.reduceEqDiff, Nat.reduceLeDiff, Nat.reduceBEq]
      refine Ev.bind n1 ?_
      simp -implicitDefEqProofs (disch := omega) only [go_sem, ↓reduceIte, reduceCtorEq, Nat.reduceAdd, Nat.reduceSub, Nat.reduceEqDiff, Nat.reduceLeDiff, Nat.reduceBEq]
      refine Ev.bind n2 ?_
      simp -implicitDefEqProofs (disch := omega) only [go_sem, ↓reduceIte, reduceCtorEq, Nat.reduceAdd, Nat.reduceSub, Nat.reduceEqDiff, Nat.reduceLeDiff, Nat.reduceBEq]
      refine Ev.bind hd ?_
      simp -implicitDefEqProofs (disch := omega) only [go_sem, ↓reduceIte, reduceCtorEq, Nat.reduceAdd, Nat.reduceSub, Nat.reduceEqDiff, Nat.reduceLeDiff, Nat.reduceBEq]
      refine Ev.bind m1 ?_
      simp -implicitDefEqProofs (disch := omega) only [go_sem, ↓reduceIte, reduceCtorEq, Nat.reduceAdd, Nat.reduceSub, Nat.reduceEqDiff, Nat.reduceLeDiff, Nat.reduceBEq]
      refine Ev.bind m2 ?_
      simp -implicitDefEqProofs (disch := omega) only [go_sem, ↓reduceIte, reduceCtorEq, Nat.reduceAdd, Nat.reduceSub, Nat.reduceEqDiff, Nat.reduceLeDiff, Nat.reduceBEq]
      exact Ev.ret _
/-! Small -/
theorem ysmall_loop {b : Bool} {L : List Int} (hL : Lim L) (h2 : L.length ≤ 2) : ∀ i, i ≤ L.length → ∀ n : Int, n = (i : Int) - 1 → ∀ u : Int, u = (val (L.drop i) : Nat) →
    Ev (fun k => run (lvl tab ext k) F25C0 F25L0 ⟨mk [(4, .ptr 4 0), (5, (.pv (.int .u64 (u)))), (6, (.pv (.int .i64 (n))))], hp [(4, .vars [.pv (.bool b), .pv (.ints .u32 L)])]⟩)
      (.exit 0, ⟨mk [(4, .ptr 4 0), (5, (.pv (.int .u64 (((val L : Nat) : Int))))), (6, (.pv (.int .i64 (-1)))), (18, (.pv (.bool (false))))], hp [(4, .vars [.pv (.bool b), .pv (.ints .u32 L)])]⟩) := by
  intro i
  induction i with
  | zero =>
    intro _ n hn u hu
    have hn : n = -1 := by omega
    subst hn
    rw [List.drop_zero] at hu
    subst hu
    refine Ev.body (by unfold F25L0; rfl) ?_
    simp -implicitDefEqProofs (disch := omega) only [go_sem, ↓reduceIte, reduceCtorEq, Nat.reduceAdd, Nat.reduceSub, Nat.reduceEqDiff, Nat.reduceLeDiff, Nat.reduceBEq]
    exact Ev.ret _
  | succ i ih =>
    intro hi n hn u hu
    have hn : n = (i : Int) := by omega
    subst hn
    have lx := lim_getD hL i
    have hd : L.drop i = L.getD i 0 :: L.drop (i + 1) := by
      rw [List.drop_eq_getElem_cons (by omega), List.getD_eq_getElem?_getD, List.getElem?_eq_getElem (by omega)]; rfl
    have hlt := val_lt (l := L.drop (i + 1)) (fun x hx => hL x (List.mem_of_mem_drop hx))
    rw [List.length_drop] at hlt
    have hlt2 := P_mono (show L.length - (i + 1) ≤ 1 by omega)
    have hP : P 1 = 4294967296 := rfl
    have r := ih (by omega) ((i : Int) - 1) rfl (u * 4294967296 + L.getD i 0) (by
      rw [hd, hu]
      show _ = (((L.getD i 0).toNat + 4294967296 * val (L.drop (i + 1)) : Nat) : Int)
      omega)
    have hu1 : u < 4294967296 := by omega
    have hu0 : 0 ≤ u := by omega
    clear ih hu hlt hlt2 hP hd
    refine Ev.body (by unfold F25L0; rfl) ?_
    simp -implicitDefEqProofs (disch := omega) only [go_sem, ↓reduceIte, reduceCtorEq, Nat.reduceAdd, Nat.reduceSub, Nat.reduceEqDiff, Nat.reduceLeDiff, Nat.reduceBEq]
    exact Ev.lp (by simp -implicitDefEqProofs (disch := omega) only [F25C0, go_sem, ↓reduceIte, reduceCtorEq, Nat.reduceAdd, Nat.reduceSub, Nat.reduceEqDiff, Nat.reduceLeDiff, Nat.reduceBEq]) r
theorem ysmall_ev {p : PV} {x : Int} (h : IsZ p x) : Ev (fun k => (lvl tab ext k).call 25 [.pv p]) [(.pv (.int .i64 (if Fits x then x else 0))), (.pv (.bool (decide (Fits x))))] := by
  have hn := ynorm_ev h
  obtain ⟨b, l, rfl, hl, hs, rfl⟩ := h
  generalize iv b l = x at *
  have hv : ∃ v, v = x.natAbs := ⟨_, rfl⟩
  obtain ⟨v, hv⟩ := hv
  by_cases h2 : (ofN v).length ≤ 2
  · have hb : v < 18446744073709551616 := by
      have := lt_P_len v
      have h3 := P_mono h2
      have h4 : P 2 = 18446744073709551616 := rfl
      omega
    have lp := ysmall_loop (b := decide (x < 0)) (lim_ofN v) h2 (ofN v).length (Nat.le_refl _) _ rfl 0 (by rw [List.drop_length]; rfl)
    rw [val_ofN] at lp
    unfold ofZ at hn
    rw [← hv] at hn
    by_cases hx : x < 0
    · simp -implicitDefEqProofs (disch := omega) only [go_sem, ↓reduceIte, reduceCtorEq, Nat.reduceAdd, Nat.reduceSub, Nat.reduceEqDiff, Nat.reduceLeDiff, Nat.reduceBEq] at hn lp
      by_cases hf : v ≤ 9223372036854775808
      · rw [if_pos (show Fits _ from ⟨by omega, by omega⟩), decide_eq_true (show Fits _ from ⟨by omega, by omega⟩)]
        refine Ev.call rfl tab25 ?_
        simp -implicitDefEqProofs (disch := omega) only [F25, go_sem, ↓reduceIte, reduceCtorEq, Nat.reduceAdd, Nat.reduceSub, Nat.reduceEqDiff, Nat.reduceLeDiff, Nat.reduceBEq]
        refine Ev.bind hn ?_
        simp -implicitDefEqProofs (disch := omega) only [go_sem, ↓reduceIte, reduceCtorEq, Nat.reduceAdd, Nat.reduceSub, Nat.reduceEqDiff, Nat.reduceLeDiff, Nat.reduceBEq]
        refine Ev.bind (Ev.lp (by simp -implicitDefEqProofs (disch := omega) only [F25C0, go_sem, ↓reduceIte, reduceCtorEq, Nat.reduceAdd, Nat.reduceSub, Nat.reduceEqDiff, Nat.reduceLeDiff, Nat.reduceBEq]) lp) ?_
        simp -implicitDefEqProofs (disch := omega) only [go_sem, ↓reduceIte, reduceCtorEq, Nat.reduceAdd, Nat.reduceSub, Nat.reduceEqDiff, Nat.reduceLeDiff, Nat.reduceBEq]
        exact ret_two (by omega)
      · rw [if_neg (fun h : Fits _ => by have := h.1; omega), decide_eq_false (fun h : Fits _ => by have := h.1; omega)]
        refine Ev.call rfl tab25 ?_
        simp -implicitDefEqProofs (disch := omega) only [F25, go_sem, ↓reduceIte, reduceCtorEq, Nat.reduceAdd, Nat.reduceSub, Nat.reduceEqDiff, Nat.reduceLeDiff, Nat.reduceBEq]
        refine Ev.bind hn ?_
        simp -implicitDefEqProofs (disch := omega) only [go_sem, ↓reduceIte, reduceCtorEq, Nat.reduceAdd, Nat.reduceSub, Nat.reduceEqDiff, Nat.reduceLeDiff, Nat.reduceBEq]
        refine Ev.bind (Ev.lp (by simp -implicitDefEqProofs (disch := omega) only [F25C0, go_sem, ↓reduceIte, reduceCtorEq, Nat.reduceAdd, Nat.reduceSub, Nat.reduceEqDiff, Nat.reduceLeDiff, Nat.reduceBEq]) lp) ?_
        simp -implicitDefEqProofs (disch := omega) only [go_sem, ↓reduceIte, reduceCtorEq, Nat.reduceAdd, Nat.reduceSub, Nat.reduceEqDiff, Nat.reduceLeDiff, Nat.reduceBEq]
        exact Ev.ret _
    · simp -implicitDefEqProofs (disch := omega) only [go_sem, ↓reduceIte, reduceCtorEq, Nat.reduceAdd, Nat.reduceSub, Nat.reduceEqDiff, Nat.reduceLeDiff, Nat.reduceBEq] at hn lp
      by_cases hf : v < 9223372036854775808
      · rw [if_pos (show Fits _ from ⟨by omega, by omega⟩), decide_eq_true (show Fits _ from ⟨by omega, by omega⟩)]
        refine Ev.call rfl tab25 ?_
        simp -implicitDefEqProofs (disch := omega) only [F25, go_sem, ↓reduceIte, reduceCtorEq, Nat.reduceAdd, Nat.reduceSub, Nat.reduceEqDiff, Nat.reduceLeDiff, Nat.reduceBEq]
        refine Ev.bind hn ?_
        simp -implicitDefEqProofs (disch := omega) only [go_sem, ↓reduceIte, reduceCtorEq, Nat.reduceAdd, Nat.reduceSub, Nat.reduceEqDiff, Nat.reduceLeDiff, Nat.reduceBEq]
        refine Ev.bind (Ev.lp (by simp -implicitDefEqProofs (disch := omega) only [F25C0, go_sem, ↓reduceIte, reduceCtorEq, Nat.reduceAdd, Nat.reduceSub, Nat.reduceEqDiff, Nat.reduceLeDiff, Nat.reduceBEq]) lp) ?_
        simp -implicitDefEqProofs (disch := omega) only [go_sem, ↓reduceIte, reduceCtorEq, Nat.reduceAdd, Nat.reduceSub, Nat.reduceEqDiff, Nat.reduceLeDiff, Nat.reduceBEq]
        exact ret_two (by omega)
      · rw [if_neg (fun h : Fits _ => by have := h.2; omega), decide_eq_false (fun h : Fits _ => by have := h.2; omega)]
        refine Ev.call rfl tab25 ?_
        simp -implicitDefEqProofs (disch := omega) only [F25, go_sem, ↓reduceIte, reduceCtorEq, Nat.reduceAdd, Nat.reduceSub, Nat.reduceEqDiff, Nat.reduceLeDiff, Nat.reduceBEq]
        refine Ev.bind hn ?_
        simp -implicitDefEqProofs (disch := omega) only [go_sem, ↓reduceIte, reduceCtorEq, Nat.reduceAdd, Nat.reduceSub, Nat.reduceEqDiff, Nat.reduceLeDiff, Nat.reduceBEq]
        refine Ev.bind (Ev.lp (by simp -implicitDefEqProofs (disch := omega) only [F25C0, go_sem, ↓reduceIte, reduceCtorEq, Nat.reduceAdd, Nat.reduceSub, Nat.reduceEqDiff, Nat.reduceLeDiff, Nat.reduceBEq]) lp) ?_
        simp -implicitDefEqProofs (disch := omega) only [go_sem, ↓reduceIte, reduceCtorEq, Nat.reduceAdd, Nat.reduceSub, Nat.reduceEqDiff, Nat.reduceLeDiff, Nat.reduceBEq]
        exact Ev.ret _
  · have hb : 18446744073709551616 ≤ v := by
      have := P_len_le (n := v) (by rintro rfl; rw [ofN_zero] at h2; exact h2 (by decide))
      have h3 := P_mono (show 2 ≤ (ofN v).length - 1 by omega)
      have h4 : P 2 = 18446744073709551616 := rfl
      omega
    rw [if_neg (fun h : Fits _ => by have h1 := h.1; have h2 := h.2; omega), decide_eq_false (fun h : Fits _ => by have h1 := h.1; have h2 := h.2; omega)]
    unfold ofZ at hn
    rw [← hv] at hn
    refine Ev.call rfl tab25 ?_
    simp -implicitDefEqProofs (disch := omega) only [F25, go_sem, ↓reduceIte, reduceCtorEq, Nat.reduceAdd, Nat.reduceSub, Nat.reduceEqDiff, Nat.reduceLeDiff, Nat.reduceBEq]
    refine Ev.bind hn ?_
    simp -implicitDefEqProofs (disch := omega) only [go_sem, ↓reduceIte, reduceCtorEq, Nat.reduceAdd, Nat.reduceSub, Nat.reduceEqDiff, Nat.reduceLeDiff, Nat.reduceBEq]
    exact Ev.ret _
/-! texts -/
theorem ytext_ev {p : PV} {x : Int} (h : IsZ p x) (hx : Sz 1000000 x) : Ev (fun k => (lvl tab ext k).call 23 [.pv p]) [(.pv (.str (textZ x)))] := by
  have hn := ynorm_ev h
  unfold Sz at hx
  obtain ⟨b, l, rfl, hl, hs, rfl⟩ := h
  generalize iv b l = x at *
  have ht := rtext_ev (lim_ofN x.natAbs) (by omega)
  rw [val_ofN] at ht
  have tl := textN_len x.natAbs
  unfold textZ
  unfold ofZ at hn
  generalize textN x.natAbs = t at *
  by_cases h0 : x < 0
  · rw [if_pos h0]
    simp -implicitDefEqProofs (disch := omega) only [go_sem, ↓reduceIte, reduceCtorEq, Nat.reduceAdd, Nat.reduceSub, Nat.reduceEqDiff, Nat.reduceLeDiff, Nat.reduceBEq] at hn
    refine Ev.call rfl tab23 ?_
    simp -implicitDefEqProofs (disch := omega) only [F23, go_sem, ↓reduceIte, reduceCtorEq, Nat.reduceAdd, Nat.reduceSub, Nat.reduceEqDiff, Nat.reduceLeDiff, Nat.reduceBEq]
    refine Ev.bind hn ?_
    simp -implicitDefEqProofs (disch := omega) only [go_sem, ↓reduceIte, reduceCtorEq, Nat.reduceAdd, Nat.reduceSub, Nat.reduceEqDiff, Nat.reduceLeDiff, Nat.reduceBEq]
    refine Ev.bind ht ?_
    simp -implicitDefEqProofs (disch := omega) only [go_sem, ↓reduceIte, reduceCtorEq, Nat.reduceAdd, Nat.reduceSub, Nat.reduceEqDiff, Nat.reduceLeDiff, Nat.reduceBEq]
    exact Ev.ret _
  · rw [if_neg h0]
    simp -implicitDefEqProofs (disch := omega) only [go_sem, ↓reduceIte, reduceCtorEq, Nat.reduceAdd, Nat.reduceSub, Nat.reduceEqDiff, Nat.reduceLeDiff, Nat.reduceBEq] at hn
    refine Ev.call rfl tab23 ?_
    simp -implicitDefEqProofs (disch := omega) only [F23, go_sem, ↓reduceIte, reduceCtorEq, Nat.reduceAdd, Nat.reduceSub, Nat.reduceEqDiff, Nat.reduceLeDiff, Nat.reduceBEq]
    refine Ev.bind hn ?_
    simp -implicitDefEqProofs (disch := omega) only [go_sem, ↓reduceIte, reduceCtorEq, Nat.reduceAdd, Nat.reduceSub, Nat.reduceEqDiff, Nat.reduceLeDiff, Nat.reduceBEq]
    refine Ev.bind ht ?_
    simp -implicitDefEqProofs (disch := omega) only [go_sem, ↓reduceIte, reduceCtorEq, Nat.reduceAdd, Nat.reduceSub, Nat.reduceEqDiff, Nat.reduceLeDiff, Nat.reduceBEq]
    exact Ev.ret _
theorem rbody_len (s : List UInt8) : (body s).length ≤ s.length := by
  unfold body
  split
  · rw [List.length_drop]; omega
  · exact Nat.le_refl _
theorem rparseN_lt (s : List UInt8) : (ofN (rparseN s)).length ≤ 200 := by
  unfold rparseN
  split
  · rename_i h
    unfold numT
    have := num_len s.length h.2.2.1
    omega
  · rw [ofN_zero]; decide
theorem yparse_ev (s : List UInt8) (hs : s.length ≤ 1000000) : Ev (fun k => (lvl tab ext k).call 21 [(.pv (.str (s)))]) [.pv (ofZ (zN s)), (.pv (.int .i64 (zE s)))] := by
  have bl := rbody_len s
  have hp := rparse_ev (body s) (by omega)
  have pl := rparseN_lt (body s)
  have hn := rnorm_ev (lim_ofN (rparseN (body s))) (by omega)
  have sg := make1_ev (b := minus s) (lim_ofN (rparseN (body s))) (by omega)
  rw [val_ofN] at hn
  rw [iv_norm] at sg
  have hE : zE s = if rparseE (body s) = 0 then (if minus s = true ∧ rparseN (body s) = 0 then 2 else 0) else rparseE (body s) := by
    unfold zE rparseE rparseN
    by_cases h1 : (body s).length ≤ 200
    · by_cases h2 : Good (body s)
      · simp [h1, h2]
      · simp [h1, h2]
    · simp [h1]
  have hV : rparseE (body s) = 0 → numT (body s) = rparseN (body s) := by
    unfold rparseE rparseN
    by_cases h1 : (body s).length ≤ 200
    · by_cases h2 : Good (body s)
      · simp [h1, h2]
      · simp [h1, h2]
    · simp [h1]
  have eb : ((s.getD 0 0).toNat : Int) = bt s 0 := rfl
  by_cases he : rparseE (body s) = 0
  · have hV := hV he
    rw [he, if_pos rfl] at hE
    rw [he] at hp
    clear he
    cases hm : minus s
    · have e1 : zE s = 0 := by rw [hE, hm, if_neg (fun h => by cases h.1)]
      have e2 : zN s = (rparseN (body s) : Nat) := by unfold zN; rw [e1, hm, hV]; simp
      rw [e1, e2]
      rw [hm] at sg
      have hb : body s = s := by unfold body; rw [hm]; rfl
      rw [hb] at hp hn sg pl ⊢
      clear hE hV e1 e2 hb
      generalize rparseN s = n at *
      have sg : Ev (fun k => (lvl tab ext k).call 46 [(.pv (.bool (false))), (.pv (.ints .u32 (ofN n)))]) [.pv (ofZ (n : Int))] := sg
      unfold ofZ at sg ⊢
      simp -implicitDefEqProofs (disch := omega) only [go_sem, ↓reduceIte, reduceCtorEq, Nat.reduceAdd, Nat.reduceSub, Nat.reduceEqDiff, Nat.reduceLeDiff, Nat.reduceBEq] at sg
      by_cases hs0 : s = []
      · subst hs0
        refine Ev.call rfl tab21 ?_
        simp -implicitDefEqProofs (disch := omega) only [F21, go_sem, ↓reduceIte, reduceCtorEq, Nat.reduceAdd, Nat.reduceSub, Nat.reduceEqDiff, Nat.reduceLeDiff, Nat.reduceBEq]
        refine Ev.bind hp ?_
        simp -implicitDefEqProofs (disch := omega) only [go_sem, ↓reduceIte, reduceCtorEq, Nat.reduceAdd, Nat.reduceSub, Nat.reduceEqDiff, Nat.reduceLeDiff, Nat.reduceBEq]
        refine Ev.bind sg ?_
        simp -implicitDefEqProofs (disch := omega) only [go_sem, ↓reduceIte, reduceCtorEq, Nat.reduceAdd, Nat.reduceSub, Nat.reduceEqDiff, Nat.reduceLeDiff, Nat.reduceBEq]
        exact Ev.ret _
      · have f0 : (s = []) = False := ff hs0
        have hlen : 0 < s.length := List.length_pos_iff.2 hs0
        have h45 : ¬ bt s 0 = 45 := by
          intro h
          unfold minus at hm
          rw [decide_eq_true h, decide_eq_true hlen] at hm
          cases hm
        clear hm
        generalize bt s 0 = c at *
        refine Ev.call rfl tab21 ?_
        simp -implicitDefEqProofs (disch := omega) only [F21, f0, eb, go_sem, ↓reduceIte, reduceCtorEq, Nat.reduceAdd, Nat.reduceSub, Nat.reduceEqDiff, Nat.reduceLeDiff, Nat.reduceBEq]
        refine Ev.bind hp ?_
        simp -implicitDefEqProofs (disch := omega) only [go_sem, ↓reduceIte, reduceCtorEq, Nat.reduceAdd, Nat.reduceSub, Nat.reduceEqDiff, Nat.reduceLeDiff, Nat.reduceBEq]
        refine Ev.bind sg ?_
        simp -implicitDefEqProofs (disch := omega) only [go_sem, ↓reduceIte, reduceCtorEq, Nat.reduceAdd, Nat.reduceSub, Nat.reduceEqDiff, Nat.reduceLeDiff, Nat.reduceBEq]
        exact Ev.ret _
    · have hm2 := hm
      unfold minus at hm2
      simp only [Bool.and_eq_true, decide_eq_true_eq] at hm2
      obtain ⟨h45, hlen⟩ := hm2
      have f0 : (s = []) = False := ff (List.length_pos_iff.1 hlen)
      have hb : body s = s.drop 1 := by unfold body; rw [hm]; rfl
      have td : (s.drop 1).take (s.length - 1) = s.drop 1 := by rw [List.take_of_length_le (by rw [List.length_drop]; omega)]
      by_cases h0 : rparseN (body s) = 0
      · have e1 : zE s = 2 := by rw [hE, if_pos ⟨hm, h0⟩]
        have e2 : zN s = 0 := by unfold zN; rw [e1, if_neg (by decide)]
        rw [e1, e2, ofZ_nought]
        rw [h0, ofN_zero] at hp hn
        rw [hb] at hp
        clear hE hV e1 e2 hm h0 sg
        generalize bt s 0 = c at *
        refine Ev.call rfl tab21 ?_
        simp -implicitDefEqProofs (disch := omega) only [F21, f0, eb, td, go_sem, ↓reduceIte, reduceCtorEq, Nat.reduceAdd, Nat.reduceSub, Nat.reduceEqDiff, Nat.reduceLeDiff, Nat.reduceBEq]
        refine Ev.bind hp ?_
        simp -implicitDefEqProofs (disch := omega) only [go_sem, ↓reduceIte, reduceCtorEq, Nat.reduceAdd, Nat.reduceSub, Nat.reduceEqDiff, Nat.reduceLeDiff, Nat.reduceBEq]
        refine Ev.bind hn ?_
        simp -implicitDefEqProofs (disch := omega) only [go_sem, ↓reduceIte, reduceCtorEq, Nat.reduceAdd, Nat.reduceSub, Nat.reduceEqDiff, Nat.reduceLeDiff, Nat.reduceBEq]
        exact Ev.ret _
      · have e1 : zE s = 0 := by rw [hE, if_neg (fun h => h0 h.2)]
        have e2 : zN s = -((rparseN (body s) : Nat) : Int) := by unfold zN; rw [e1, hm, hV]; simp
        rw [e1, e2]
        rw [hm] at sg
        have hpos := ofN_length_pos.2 (Nat.pos_of_ne_zero h0)
        rw [hb] at hp hn sg pl h0 hpos ⊢
        clear hE hV e1 e2 hm
        generalize rparseN (s.drop 1) = n at *
        have sg : Ev (fun k => (lvl tab ext k).call 46 [(.pv (.bool (true))), (.pv (.ints .u32 (ofN n)))]) [.pv (ofZ (-(n : Int)))] := sg
        unfold ofZ at sg ⊢
        simp -implicitDefEqProofs (disch := omega) only [go_sem, ↓reduceIte, reduceCtorEq, Nat.reduceAdd, Nat.reduceSub, Nat.reduceEqDiff, Nat.reduceLeDiff, Nat.reduceBEq] at sg
        generalize bt s 0 = c at *
        refine Ev.call rfl tab21 ?_
        simp -implicitDefEqProofs (disch := omega) only [F21, f0, eb, td, go_sem, ↓reduceIte, reduceCtorEq, Nat.reduceAdd, Nat.reduceSub, Nat.reduceEqDiff, Nat.reduceLeDiff, Nat.reduceBEq]
        refine Ev.bind hp ?_
        simp -implicitDefEqProofs (disch := omega) only [go_sem, ↓reduceIte, reduceCtorEq, Nat.reduceAdd, Nat.reduceSub, Nat.reduceEqDiff, Nat.reduceLeDiff, Nat.reduceBEq]
        refine Ev.bind hn ?_
        simp -implicitDefEqProofs (disch := omega) only [go_sem, ↓reduceIte, reduceCtorEq, Nat.reduceAdd, Nat.reduceSub, Nat.reduceEqDiff, Nat.reduceLeDiff, Nat.reduceBEq]
        refine Ev.bind sg ?_
        simp -implicitDefEqProofs (disch := omega) only [go_sem, ↓reduceIte, reduceCtorEq, Nat.reduceAdd, Nat.reduceSub, Nat.reduceEqDiff, Nat.reduceLeDiff, Nat.reduceBEq]
        exact Ev.ret _
  · have e1 : zE s = rparseE (body s) := by rw [hE, if_neg he]
    have e2 : zN s = 0 := by unfold zN; rw [e1, if_neg he]
    rw [e1, e2, ofZ_nought]
    clear hV hE e1 e2
    cases hm : minus s
    · have hb : body s = s := by unfold body; rw [hm]; rfl
      rw [hb] at hp he ⊢
      generalize rparseE s = E at *
      by_cases hs0 : s = []
      · subst hs0
        refine Ev.call rfl tab21 ?_
        simp -implicitDefEqProofs (disch := omega) only [F21, go_sem, ↓reduceIte, reduceCtorEq, Nat.reduceAdd, Nat.reduceSub, Nat.reduceEqDiff, Nat.reduceLeDiff, Nat.reduceBEq]
        refine Ev.bind hp ?_
        simp -implicitDefEqProofs (disch := omega) only [go_sem, ↓reduceIte, reduceCtorEq, Nat.reduceAdd, Nat.reduceSub, Nat.reduceEqDiff, Nat.reduceLeDiff, Nat.reduceBEq]
        exact Ev.ret _
      · have f0 : (s = []) = False := ff hs0
        have hlen : 0 < s.length := List.length_pos_iff.2 hs0
        have h45 : ¬ bt s 0 = 45 := by
          intro h
          unfold minus at hm
          rw [decide_eq_true h, decide_eq_true hlen] at hm
          cases hm
        clear hm
        generalize bt s 0 = c at *
        refine Ev.call rfl tab21 ?_
        simp -implicitDefEqProofs (disch := omega) only [F21, f0, eb, go_sem, ↓reduceIte, reduceCtorEq, Nat.reduceAdd, Nat.reduceSub, Nat.reduceEqDiff, Nat.reduceLeDiff, Nat.reduceBEq]
        refine Ev.bind hp ?_
        simp -implicitDefEqProofs (disch := omega) only [go_sem, ↓reduceIte, reduceCtorEq, Nat.reduceAdd, Nat.reduceSub, Nat.reduceEqDiff, Nat.reduceLeDiff, Nat.reduceBEq]
        exact Ev.ret _
    · have hm2 := hm
      unfold minus at hm2
      simp only [Bool.and_eq_true, decide_eq_true_eq] at hm2
      obtain ⟨h45, hlen⟩ := hm2
      have f0 : (s = []) = False := ff (List.length_pos_iff.1 hlen)
      have hb : body s = s.drop 1 := by unfold body; rw [hm]; rfl
      have td : (s.drop 1).take (s.length - 1) = s.drop 1 := by rw [List.take_of_length_le (by rw [List.length_drop]; omega)]
      rw [hb] at hp he ⊢
      generalize rparseE (s.drop 1) = E at *
      clear hm
      generalize bt s 0 = c at *
      refine Ev.call rfl tab21 ?_
      simp -implicitDefEqProofs (disch := omega) only [F21, f0, eb, td, go_sem, ↓reduceIte, reduceCtorEq, Nat.reduceAdd, Nat.reduceSub, Nat.reduceEqDiff, Nat.reduceLeDiff, Nat.reduceBEq]
      refine Ev.bind hp ?_
      simp -implicitDefEqProofs (disch := omega) only [go_sem, ↓reduceIte, reduceCtorEq, Nat.reduceAdd, Nat.reduceSub, Nat.reduceEqDiff, Nat.reduceLeDiff, Nat.reduceBEq]
      exact Ev.ret _
end Go.Proofs.Ytkeipmkiilimeaa.V
set_option linter.unusedSimpArgs false
set_option linter.unusedVariables false
namespace Go.Proofs.Ytkeipmkiilimeaa.V
open Go Go.Proofs.Ytkeipmkiilimeaa.M
def boolT (P : Program) (t : TypeId) : Bool := match P.underlying t with
  | some .bool => true
  | _ => false
def strT (P : Program) (t : TypeId) : Bool := match P.underlying t with
  | some .string => true
  | _ => false
def intT (P : Program) (k : IntKind) (t : TypeId) : Bool := match P.underlying t with
  | some (.int k') => decide (k = k')
  | _ => false
def intsT (P : Program) (k : IntKind) (t : TypeId) : Bool := match P.underlying t with
  | some (.slice e) => intT P k e
  | _ => false
theorem boolT_inv {P : Program} {t : TypeId} (h : boolT P t = true) {m : Nat} {ps : List PV} (ht : TyPV P m t ps) : ∃ b, ps = [.bool b] := by
  cases m with
  | zero => exact ht.elim
  | succ m =>
    unfold boolT at h
    unfold TyPV at ht
    split at h
    · rename_i hu; rw [hu] at ht; exact ht
    · cases h
theorem strT_inv {P : Program} {t : TypeId} (h : strT P t = true) {m : Nat} {ps : List PV} (ht : TyPV P m t ps) : ∃ s, ps = [.str s] ∧ s.length ≤ maxLen := by
  cases m with
  | zero => exact ht.elim
  | succ m =>
    unfold strT at h
    unfold TyPV at ht
    split at h
    · rename_i hu; rw [hu] at ht; exact ht
    · cases h
theorem intT_inv {P : Program} {k : IntKind} {t : TypeId} (h : intT P k t = true) {m : Nat} {ps : List PV} (ht : TyPV P m t ps) : ∃ z, ps = [.int k z] ∧ (Lit.int k z).wf = true := by
  cases m with
  | zero => exact ht.elim
  | succ m =>
    unfold intT at h
    unfold TyPV at ht
    split at h
    · rename_i k' hu
      have := of_decide_eq_true h
      subst this
      rw [hu] at ht; exact ht
    · cases h
theorem intsT_inv {P : Program} {k : IntKind} {t : TypeId} (h : intsT P k t = true) {m : Nat} {ps : List PV} (ht : TyPV P m t ps) : ∃ l : List Int, ps = [.ints k l] ∧ (∀ z ∈ l, (Lit.int k z).wf = true) ∧ l.length ≤ maxLen := by
  cases m with
  | zero => exact ht.elim
  | succ m =>
    unfold intsT at h
    unfold TyPV at ht
    split at h
    · rename_i e hu
      unfold intT at h
      split at h
      · rename_i k' hue
        have := of_decide_eq_true h
        subst this
        simp only [hu, hue] at ht; exact ht
      · cases h
    · cases h
theorem lim_wf {l : List Int} (h : ∀ x ∈ l, (Lit.int .u32 x).wf = true) : Lim l := by
  intro x hx
  have := h x hx
  simp only [Lit.wf, IntKind.min, IntKind.max, IntKind.signed, IntKind.bits, Bool.and_eq_true] at this
  have h1 := this.1
  have h2 := this.2
  simp at h1 h2
  omega
theorem i64_wf {x : Int} (h : (Lit.int .i64 x).wf = true) : -9223372036854775808 ≤ x ∧ x < 9223372036854775808 := by
  simp only [Lit.wf, IntKind.min, IntKind.max, IntKind.signed, IntKind.bits, Bool.and_eq_true] at h
  have h1 := h.1
  have h2 := h.2
  simp at h1 h2
  omega
/-- A struct of two fields. -/
def twoT (P : Program) (p q : TypeId → Bool) (t : TypeId) : Bool := match P.underlying t with
  | some (.struct fs) => match fs.toList with
    | [f, g] => p f.type && q g.type
    | _ => false
  | _ => false
theorem twoT_inv {P : Program} {p q : TypeId → Bool} {t : TypeId} (h : twoT P p q t = true) {m : Nat} {ps : List PV} (ht : TyPV P m t ps) : ∃ m' a b xs ys, p a = true ∧ q b = true ∧ ps = xs ++ ys ∧ TyPV P m' a xs ∧ TyPV P m' b ys := by
  cases m with
  | zero => exact ht.elim
  | succ m =>
    unfold twoT at h
    unfold TyPV at ht
    split at h
    · rename_i fs hu
      rw [hu] at ht
      split at h
      · rename_i f g hfs
        simp only [hfs, TyFs] at ht
        simp only [Bool.and_eq_true] at h
        obtain ⟨x, y, rfl, h1, z, w, rfl, h2, rfl⟩ := ht
        exact ⟨m, f.type, g.type, x, z, h.1, h.2, by simp, h1, h2⟩
      · cases h
    · cases h
def intZT (P : Program) (t : TypeId) : Bool := twoT P (boolT P) (intsT P .u32) t
theorem intZT_inv {P : Program} {t : TypeId} (h : intZT P t = true) {m : Nat} {ps : List PV} (ht : TyPV P m t ps) : ∃ b l, ps = [.bool b, .ints .u32 l] ∧ Lim l ∧ l.length ≤ maxLen := by
  obtain ⟨m', a, b, xs, ys, ha, hb, rfl, h1, h2⟩ := twoT_inv h ht
  obtain ⟨c, rfl⟩ := boolT_inv ha h1
  obtain ⟨l, rfl, h3, h4⟩ := intsT_inv hb h2
  exact ⟨c, l, rfl, lim_wf h3, h4⟩
theorem structT_arg {P : Program} {p q : TypeId → Bool} {t : TypeId} (h : twoT P p q t = true) (ps : List PV) : argPV P t ps = .agg ps := by
  unfold twoT at h
  unfold argPV
  split at h
  · rename_i fs hu; rw [hu]
  · cases h
end Go.Proofs.Ytkeipmkiilimeaa.V
set_option linter.unusedSimpArgs false
set_option linter.unusedVariables false
namespace Go.Proofs.Ytkeipmkiilimeaa.V
open Go Go.Proofs.Ytkeipmkiilimeaa.M
theorem awake_ev : Ev (fun k => (lvl tab ext k).call 13 []) [(.pv (.bool (true)))] := Ev.seen (n := 300) (by kernel_rfl)
theorem zt : intZT Try.prog 25 = true := by kernel_rfl
theorem argZ (ps : List PV) : argPV Try.prog 25 ps = .agg ps := structT_arg zt ps
theorem ret1 {F : Nat → Option (List AR)} {r : List AR} (h : Ev F r) : ∃ k, F k = some r := let ⟨n, h⟩ := h; ⟨n, h n (Nat.le_refl _)⟩
theorem lshort_ev {b c : Bool} {l m : List Int} : Ev (fun k => (lvl tab ext k).call 12 [.pv (.agg [.bool b, .ints .u32 l]), .pv (.agg [.bool c, .ints .u32 m])]) [(.pv (.bool (decide (l.length ≤ 40 ∧ m.length ≤ 40))))] := by
  have s1 := short_ev (b := b) (l := l) (n := 40)
  have s2 := short_ev (b := c) (l := m) (n := 40)
  by_cases h1 : l.length ≤ 40
  · by_cases h2 : m.length ≤ 40
    · rw [decide_eq_true (by omega)] at s1 s2
      rw [decide_eq_true ⟨h1, h2⟩]
      refine Ev.call rfl tab12 ?_
      simp -implicitDefEqProofs (disch := omega) only [F12, go_sem, ↓reduceIte, reduceCtorEq, Nat.reduceAdd, Nat.reduceSub, Nat.reduceEqDiff, Nat.reduceLeDiff, Nat.reduceBEq]
      (refine Ev.bind (s1) ?_; simp -implicitDefEqProofs (disch := omega) only [go_sem, ↓reduceIte, reduceCtorEq, Nat.reduceAdd, Nat.reduceSub, Nat.reduceEqDiff, Nat.reduceLeDiff, Nat.reduceBEq]; refine Ev.bind (s2) ?_; simp -implicitDefEqProofs (disch := omega) only [go_sem, ↓reduceIte, reduceCtorEq, Nat.reduceAdd, Nat.reduceSub, Nat.reduceEqDiff, Nat.reduceLeDiff, Nat.reduceBEq])
      exact Ev.ret _
    · rw [decide_eq_true (by omega)] at s1
      rw [decide_eq_false (by omega)] at s2
      rw [decide_eq_false (by omega)]
      refine Ev.call rfl tab12 ?_
      simp -implicitDefEqProofs (disch := omega) only [F12, go_sem, ↓reduceIte, reduceCtorEq, Nat.reduceAdd, Nat.reduceSub, Nat.reduceEqDiff, Nat.reduceLeDiff, Nat.reduceBEq]
      (refine Ev.bind (s1) ?_; simp -implicitDefEqProofs (disch := omega) only [go_sem, ↓reduceIte, reduceCtorEq, Nat.reduceAdd, Nat.reduceSub, Nat.reduceEqDiff, Nat.reduceLeDiff, Nat.reduceBEq]; refine Ev.bind (s2) ?_; simp -implicitDefEqProofs (disch := omega) only [go_sem, ↓reduceIte, reduceCtorEq, Nat.reduceAdd, Nat.reduceSub, Nat.reduceEqDiff, Nat.reduceLeDiff, Nat.reduceBEq])
      exact Ev.ret _
  · rw [decide_eq_false (by omega)] at s1
    rw [decide_eq_false (by omega)]
    refine Ev.call rfl tab12 ?_
    simp -implicitDefEqProofs (disch := omega) only [F12, go_sem, ↓reduceIte, reduceCtorEq, Nat.reduceAdd, Nat.reduceSub, Nat.reduceEqDiff, Nat.reduceLeDiff, Nat.reduceBEq]
    (refine Ev.bind (s1) ?_; simp -implicitDefEqProofs (disch := omega) only [go_sem, ↓reduceIte, reduceCtorEq, Nat.reduceAdd, Nat.reduceSub, Nat.reduceEqDiff, Nat.reduceLeDiff, Nat.reduceBEq])
    exact Ev.ret _
abbrev ZA (b : Bool) (l : List Int) : PV := .agg [.bool b, .ints .u32 l]
abbrev PureOf (ts : List TypeId) (f : Nat) : Prop := ∀ pss, All2 (fun t ps => ∃ m, TyPV Try.prog m t ps) ts pss → ∃ k, (lvl tab ext k).call f (((ts.zip pss).map fun q => argPV Try.prog q.1 q.2).map .pv) = some [.pv (.bool true)]
theorem pureZ {f : Nat} (h : ∀ b l, Lim l → Ev (fun k => (lvl tab ext k).call f [.pv (ZA b l)]) [(.pv (.bool (true)))]) : PureOf [25] f := by
  intro pss g
  cases g with
  | cons g1 g => cases g
                 obtain ⟨m1, g1⟩ := g1
                 obtain ⟨b, l, rfl, hl, _⟩ := intZT_inv zt g1
                 show ∃ k, (lvl tab ext k).call f [.pv (argPV Try.prog _ _)] = _
                 rw [argZ]
                 exact ret1 (h b l hl)
theorem pureZZ {f : Nat} (h : ∀ b l c m, Lim l → Lim m → Ev (fun k => (lvl tab ext k).call f [.pv (ZA b l), .pv (ZA c m)]) [(.pv (.bool (true)))]) : PureOf [25, 25] f := by
  intro pss g
  cases g with
  | cons g1 g => cases g with
    | cons g2 g => cases g
                   obtain ⟨m1, g1⟩ := g1
                   obtain ⟨m2, g2⟩ := g2
                   obtain ⟨b, l, rfl, hl, _⟩ := intZT_inv zt g1
                   obtain ⟨c, m, rfl, hm, _⟩ := intZT_inv zt g2
                   show ∃ k, (lvl tab ext k).call f [.pv (argPV Try.prog _ _), .pv (argPV Try.prog _ _)] = _
                   rw [argZ, argZ]
                   exact ret1 (h b l c m hl hm)
theorem pureZZZ {f : Nat} (h : ∀ b l c m d n, Lim l → Lim m → Lim n → Ev (fun k => (lvl tab ext k).call f [.pv (ZA b l), .pv (ZA c m), .pv (ZA d n)]) [(.pv (.bool (true)))]) : PureOf [25, 25, 25] f := by
  intro pss g
  cases g with
  | cons g1 g => cases g with
    | cons g2 g => cases g with
      | cons g3 g => cases g
                     obtain ⟨m1, g1⟩ := g1
                     obtain ⟨m2, g2⟩ := g2
                     obtain ⟨m3, g3⟩ := g3
                     obtain ⟨b, l, rfl, hl, _⟩ := intZT_inv zt g1
                     obtain ⟨c, m, rfl, hm, _⟩ := intZT_inv zt g2
                     obtain ⟨d, n, rfl, hn, _⟩ := intZT_inv zt g3
                     show ∃ k, (lvl tab ext k).call f [.pv (argPV Try.prog _ _), .pv (argPV Try.prog _ _), .pv (argPV Try.prog _ _)] = _
                     rw [argZ, argZ, argZ]
                     exact ret1 (h b l c m d n hl hm hn)
theorem sz9 {z : Int} {n : Nat} (h : Sz n z) (hn : n ≤ 1000000) : Sz 1000000 z := sz_mono h hn
theorem isz_mk {b : Bool} {l : List Int} {n : Nat} (hl : Lim l) (h : l.length ≤ n) (hn : n ≤ 1000000) : IsZ (ZA b l) (iv b l) ∧ Sz n (iv b l) := ⟨isZ_mk hl (by omega), sz_iv hl h⟩
theorem sameT {x : Int} {n : Nat} (h : Sz n x) (hn : n ≤ 1000000) : Ev (fun k => (lvl tab ext k).call 16 [.pv (ofZ x), .pv (ofZ x)]) [(.pv (.bool (true)))] := by
  have := ysame_ev (sz9 h hn) (sz9 h hn)
  rw [decide_eq_true rfl] at this
  exact this
theorem sameE {x y : Int} {n : Nat} (h : Sz n x) (hn : n ≤ 1000000) (e : x = y) : Ev (fun k => (lvl tab ext k).call 16 [.pv (ofZ x), .pv (ofZ y)]) [(.pv (.bool (true)))] := by
  subst e; exact sameT h hn
end Go.Proofs.Ytkeipmkiilimeaa.V
