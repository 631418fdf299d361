/- What the reference's limb functions come to, in numbers: limb, Norm, Of, Cmp, Add, Sub.
What the reference's limb functions come to, in numbers: Mul, Bits, Shift, Half.
What the reference's DivMod comes to, in numbers.
What the reference's text functions come to: small, Text, Digits, Value, Parse. -/
import Derived.Test.YtkeipmkiilimeaaKD
import Derived.Test.YtkeipmkiilimeaaKC

set_option linter.unusedSimpArgs false
set_option linter.unusedVariables false
namespace Go.Proofs.Ytkeipmkiilimeaa.V
open Go Go.Proofs.Ytkeipmkiilimeaa.M
theorem limb_ev {l : List Int} (hl : Lim l) (hs : l.length ≤ 1000000000) {n : Int} (i : Nat) (hn : n = i) : Ev (fun k => (lvl tab ext k).call 68 [(.pv (.ints .u32 (l))), (.pv (.int .i64 (n)))]) [(.pv (.int .u64 (l.getD i 0)))] := by
  subst hn
  have h := lim_getD hl i
  by_cases hi : i < l.length
  · refine Ev.call rfl tab68 ?_
    simp -implicitDefEqProofs (disch := omega) only [F68, go_sem, ↓reduceIte, reduceCtorEq, Nat.reduceAdd, Nat.reduceSub, Nat.reduceEqDiff, Nat.reduceLeDiff, Nat.reduceBEq]
    exact Ev.ret _
  · have h0 := M.getD_out (l := l) (i := i) (by omega)
    rw [h0]
    refine Ev.call rfl tab68 ?_
    simp -implicitDefEqProofs (disch := omega) only [F68, go_sem, ↓reduceIte, reduceCtorEq, Nat.reduceAdd, Nat.reduceSub, Nat.reduceEqDiff, Nat.reduceLeDiff, Nat.reduceBEq]
    exact Ev.ret _
theorem rnorm_loop {l : List Int} (hl : Lim l) (hb : l.length ≤ 1000000000) : ∀ i : Nat, i ≤ l.length → ∀ n : Int, n = i → Ev (fun k => run (lvl tab ext k) F42C0 F42L0 ⟨mk [(0, (.pv (.ints .u32 (l)))), (3, (.pv (.int .i64 (n))))], hp []⟩)
    (.exit 0, ⟨mk [(0, (.pv (.ints .u32 (l)))), (3, (.pv (.int .i64 ((ofN (val (l.take i))).length)))), (16, (.pv (.bool (false))))], hp []⟩) := by
  intro i
  induction i with
  | zero =>
    intro _ n hn
    refine Ev.body (by unfold F42L0; rfl) ?_
    simp -implicitDefEqProofs (disch := omega) only [List.take_zero, val, ofN_zero, Int.natCast_zero, hn, go_sem, ↓reduceIte, reduceCtorEq, Nat.reduceAdd, Nat.reduceSub, Nat.reduceEqDiff, Nat.reduceLeDiff, Nat.reduceBEq]
    exact Ev.ret _
  | succ i ih =>
    intro hi n hn
    have hv := val_take_succ (l := l) (i := i) (by omega)
    have e : (n - 1).toNat = i := by omega
    refine Ev.body (by unfold F42L0; rfl) ?_
    by_cases hz : l.getD i 0 = 0
    · have hv' : val (l.take (i + 1)) = val (l.take i) := by rw [hv, hz]; simp
      rw [hv']
      simp -implicitDefEqProofs (disch := omega) only [e, hz, go_sem, ↓reduceIte, reduceCtorEq, Nat.reduceAdd, Nat.reduceSub, Nat.reduceEqDiff, Nat.reduceLeDiff, Nat.reduceBEq]
      exact Ev.lp (by simp -implicitDefEqProofs (disch := omega) only [F42C0, go_sem, ↓reduceIte, reduceCtorEq, Nat.reduceAdd, Nat.reduceSub, Nat.reduceEqDiff, Nat.reduceLeDiff, Nat.reduceBEq]) (ih (by omega) (n - 1) (by omega))
    · simp -implicitDefEqProofs (disch := omega) only [e, go_sem, ↓reduceIte, reduceCtorEq, Nat.reduceAdd, Nat.reduceSub, Nat.reduceEqDiff, Nat.reduceLeDiff, Nat.reduceBEq]
      have : ofN (val (l.take (i + 1))) = l.take (i + 1) := by
        rw [take_succ_snoc (by omega)]
        exact ofN_val_snoc (by rw [← take_succ_snoc (by omega)]; exact lim_take hl _) hz
      rw [this, List.length_take, Nat.min_eq_left hi, hn]
      exact Ev.ret _
theorem take_ofN {l : List Int} (hl : Lim l) : l.take (ofN (val l)).length = ofN (val l) := by
  induction h : l.length generalizing l with
  | zero => have : l = [] := List.eq_nil_of_length_eq_zero h; subst this; simp [val, ofN_zero]
  | succ n ih =>
    have ht := take_succ_snoc (l := l) (i := n) (by omega)
    rw [List.take_of_length_le (by omega)] at ht
    by_cases hz : l.getD n 0 = 0
    · have hl' := lim_take hl n
      have hv : val l = val (l.take n) := by rw [ht, hz, val_snoc_zero]; rw [← hz, ← ht]
      have := ih hl' (by rw [List.length_take]; omega)
      rw [hv, ← this, List.take_take, List.length_take]
      congr 1
      omega
    · have : ofN (val l) = l := by
        rw [ht]
        exact ofN_val_snoc (by rw [← ht]; exact hl) hz
      rw [this, List.take_length]
theorem rnorm_ev {l : List Int} (hl : Lim l) (hb : l.length ≤ 1000000000) : Ev (fun k => (lvl tab ext k).call 42 [(.pv (.ints .u32 (l)))]) [(.own (.ints .u32 (ofN (val l))))] := by
  refine Ev.call rfl tab42 ?_
  simp -implicitDefEqProofs (disch := omega) only [F42, go_sem, ↓reduceIte, reduceCtorEq, Nat.reduceAdd, Nat.reduceSub, Nat.reduceEqDiff, Nat.reduceLeDiff, Nat.reduceBEq]
  refine Ev.bind (Ev.lp (by simp -implicitDefEqProofs (disch := omega) only [F42C0, go_sem, ↓reduceIte, reduceCtorEq, Nat.reduceAdd, Nat.reduceSub, Nat.reduceEqDiff, Nat.reduceLeDiff, Nat.reduceBEq]) (rnorm_loop hl hb l.length (Nat.le_refl _) _ rfl)) ?_
  have h1 := len_val_le hl
  simp -implicitDefEqProofs (disch := omega) only [List.take_length, take_ofN hl, go_sem, ↓reduceIte, reduceCtorEq, Nat.reduceAdd, Nat.reduceSub, Nat.reduceEqDiff, Nat.reduceLeDiff, Nat.reduceBEq]
  exact Ev.ret _
theorem rof_one (n : Nat) (hn : n < 4294967296) (o : List Int) (ho : o.length ≤ 1000) : Ev (fun k => run (lvl tab ext k) F44C0 F44L0 ⟨mk [(0, (.pv (.int .u64 ((n : Int))))), (3, .row 3 none)], hp [(3, (.row (.ints .u32 (o)) true))]⟩) (.exit 0, ⟨mk [(0, (.pv (.int .u64 (0)))), (3, .row 3 none), (5, (.pv (.bool (false))))], hp [(3, (.row (.ints .u32 (o ++ ofN n)) true))]⟩) := by
  by_cases h0 : n = 0
  · subst h0
    rw [ofN_zero, List.append_nil]
    refine Ev.body (by unfold F44L0; rfl) ?_
    simp -implicitDefEqProofs (disch := omega) only [go_sem, ↓reduceIte, reduceCtorEq, Nat.reduceAdd, Nat.reduceSub, Nat.reduceEqDiff, Nat.reduceLeDiff, Nat.reduceBEq]
    exact Ev.ret _
  · have e1 : ((n : Int).tdiv 4294967296) = 0 := by rw [td (by omega)]; omega
    have e2 : ((n : Int).tmod 4294967296) = (n : Int) := by rw [tm (by omega)]; omega
    have e3 : ofN n = [(n : Int)] := by rw [ofN_pos h0, show n / 4294967296 = 0 from by omega, ofN_zero, show n % 4294967296 = n from by omega]
    rw [e3]
    refine Ev.body (by unfold F44L0; rfl) ?_
    simp -implicitDefEqProofs (disch := omega) only [e1, e2, go_sem, ↓reduceIte, reduceCtorEq, Nat.reduceAdd, Nat.reduceSub, Nat.reduceEqDiff, Nat.reduceLeDiff, Nat.reduceBEq]
    refine Ev.lp (by simp -implicitDefEqProofs (disch := omega) only [F44C0, go_sem, ↓reduceIte, reduceCtorEq, Nat.reduceAdd, Nat.reduceSub, Nat.reduceEqDiff, Nat.reduceLeDiff, Nat.reduceBEq] <;> rfl) ?_
    refine Ev.body (by unfold F44L0; rfl) ?_
    simp -implicitDefEqProofs (disch := omega) only [go_sem, ↓reduceIte, reduceCtorEq, Nat.reduceAdd, Nat.reduceSub, Nat.reduceEqDiff, Nat.reduceLeDiff, Nat.reduceBEq]
    exact Ev.ret _
theorem rof_loop (n : Nat) (hn : n < 18446744073709551616) (o : List Int) (ho : o.length ≤ 100) : Ev (fun k => run (lvl tab ext k) F44C0 F44L0 ⟨mk [(0, (.pv (.int .u64 ((n : Int))))), (3, .row 3 none)], hp [(3, (.row (.ints .u32 (o)) true))]⟩) (.exit 0, ⟨mk [(0, (.pv (.int .u64 (0)))), (3, .row 3 none), (5, (.pv (.bool (false))))], hp [(3, (.row (.ints .u32 (o ++ ofN n)) true))]⟩) := by
  by_cases h0 : n = 0
  · exact rof_one n (by omega) o (by omega)
  · have r := rof_one (n / 4294967296) (by omega) (o ++ [((n % 4294967296 : Nat) : Int)]) (by simp; omega)
    rw [List.append_assoc, List.cons_append, List.nil_append, ← ofN_pos h0] at r
    have e1 : ((n : Int).tdiv 4294967296) = ((n / 4294967296 : Nat) : Int) := td (by omega)
    have e2 : ((n : Int).tmod 4294967296) = ((n % 4294967296 : Nat) : Int) := tm (by omega)
    refine Ev.body (by unfold F44L0; rfl) ?_
    simp -implicitDefEqProofs (disch := omega) only [e1, e2, go_sem, ↓reduceIte, reduceCtorEq, Nat.reduceAdd, Nat.reduceSub, Nat.reduceEqDiff, Nat.reduceLeDiff, Nat.reduceBEq]
    exact Ev.lp (by simp -implicitDefEqProofs (disch := omega) only [F44C0, go_sem, ↓reduceIte, reduceCtorEq, Nat.reduceAdd, Nat.reduceSub, Nat.reduceEqDiff, Nat.reduceLeDiff, Nat.reduceBEq]) r
theorem rof_ev {a : Int} (h0 : 0 ≤ a) (h1 : a < 18446744073709551616) : Ev (fun k => (lvl tab ext k).call 44 [(.pv (.int .u64 (a)))]) [(.own (.ints .u32 (ofN a.toNat)))] := by
  obtain ⟨n, rfl⟩ := Int.eq_ofNat_of_zero_le h0
  have := rof_loop n (by omega) [] (by simp)
  rw [List.nil_append] at this
  refine Ev.call rfl tab44 ?_
  simp -implicitDefEqProofs (disch := omega) only [F44, go_sem, ↓reduceIte, reduceCtorEq, Nat.reduceAdd, Nat.reduceSub, Nat.reduceEqDiff, Nat.reduceLeDiff, Nat.reduceBEq]
  refine Ev.bind (Ev.lp (by simp -implicitDefEqProofs (disch := omega) only [F44C0, go_sem, ↓reduceIte, reduceCtorEq, Nat.reduceAdd, Nat.reduceSub, Nat.reduceEqDiff, Nat.reduceLeDiff, Nat.reduceBEq]) this) ?_
  simp -implicitDefEqProofs (disch := omega) only [go_sem, ↓reduceIte, reduceCtorEq, Nat.reduceAdd, Nat.reduceSub, Nat.reduceEqDiff, Nat.reduceLeDiff, Nat.reduceBEq]
  exact Ev.ret _
theorem rcmp_loop {a b : List Int} (ha : Lim a) (hb : Lim b) (sa : a.length ≤ 1000000000) (sb : b.length ≤ 1000000000) : ∀ i : Nat, i ≤ 1000000000 → ∀ n : Int, n = (i : Int) - 1 →
    (Ev (fun k => run (lvl tab ext k) F58C0 F58L0 ⟨mk [(0, (.pv (.ints .u32 (a)))), (1, (.pv (.ints .u32 (b)))), (5, (.pv (.int .i64 (n))))], hp []⟩) (.exit 0, ⟨mk [(0, (.pv (.ints .u32 (a)))), (1, (.pv (.ints .u32 (b)))), (5, (.pv (.int .i64 (-1)))), (13, (.pv (.bool (false))))], hp []⟩) ∧ cmp (val (a.take i)) (val (b.take i)) = 0) ∨
    Ev (fun k => run (lvl tab ext k) F58C0 F58L0 ⟨mk [(0, (.pv (.ints .u32 (a)))), (1, (.pv (.ints .u32 (b)))), (5, (.pv (.int .i64 (n))))], hp []⟩) (.ret, ⟨mk [(4, (.pv (.int .i64 (cmp (val (a.take i)) (val (b.take i))))))], hp []⟩) := by
  intro i
  induction i with
  | zero =>
    intro _ n e
    refine .inl ⟨?_, by simp [val, cmp_eq]⟩
    have e : n = -1 := by omega
    subst e
    refine Ev.body (by unfold F58L0; rfl) ?_
    simp -implicitDefEqProofs (disch := omega) only [go_sem, ↓reduceIte, reduceCtorEq, Nat.reduceAdd, Nat.reduceSub, Nat.reduceEqDiff, Nat.reduceLeDiff, Nat.reduceBEq]
    exact Ev.ret _
  | succ i ih =>
    intro hi n e
    have e : n = i := by omega
    subst e
    have la := limb_ev ha sa i rfl
    have lb := limb_ev hb sb i rfl
    by_cases he : a.getD i 0 = b.getD i 0
    · have hc : cmp (val (a.take (i + 1))) (val (b.take (i + 1))) = cmp (val (a.take i)) (val (b.take i)) := cmp_step i (by rw [he])
      rw [hc]
      refine (ih (by omega) _ rfl).imp (fun h => ⟨?_, h.2⟩) fun h => ?_
      · refine Ev.body (by unfold F58L0; rfl) ?_
        simp -implicitDefEqProofs (disch := omega) only [go_sem, ↓reduceIte, reduceCtorEq, Nat.reduceAdd, Nat.reduceSub, Nat.reduceEqDiff, Nat.reduceLeDiff, Nat.reduceBEq]
        refine Ev.bind la ?_
        simp -implicitDefEqProofs (disch := omega) only [go_sem, ↓reduceIte, reduceCtorEq, Nat.reduceAdd, Nat.reduceSub, Nat.reduceEqDiff, Nat.reduceLeDiff, Nat.reduceBEq]
        refine Ev.bind lb ?_
        simp -implicitDefEqProofs (disch := omega) only [go_sem, ↓reduceIte, reduceCtorEq, Nat.reduceAdd, Nat.reduceSub, Nat.reduceEqDiff, Nat.reduceLeDiff, Nat.reduceBEq]
        refine Ev.bind la ?_
        simp -implicitDefEqProofs (disch := omega) only [go_sem, ↓reduceIte, reduceCtorEq, Nat.reduceAdd, Nat.reduceSub, Nat.reduceEqDiff, Nat.reduceLeDiff, Nat.reduceBEq]
        refine Ev.bind lb ?_
        simp -implicitDefEqProofs (disch := omega) only [go_sem, ↓reduceIte, reduceCtorEq, Nat.reduceAdd, Nat.reduceSub, Nat.reduceEqDiff, Nat.reduceLeDiff, Nat.reduceBEq]
        exact Ev.lp (by simp -implicitDefEqProofs (disch := omega) only [F58C0, go_sem, ↓reduceIte, reduceCtorEq, Nat.reduceAdd, Nat.reduceSub, Nat.reduceEqDiff, Nat.reduceLeDiff, Nat.reduceBEq]) h.1
      · refine Ev.body (by unfold F58L0; rfl) ?_
        simp -implicitDefEqProofs (disch := omega) only [go_sem, ↓reduceIte, reduceCtorEq, Nat.reduceAdd, Nat.reduceSub, Nat.reduceEqDiff, Nat.reduceLeDiff, Nat.reduceBEq]
        refine Ev.bind la ?_
        simp -implicitDefEqProofs (disch := omega) only [go_sem, ↓reduceIte, reduceCtorEq, Nat.reduceAdd, Nat.reduceSub, Nat.reduceEqDiff, Nat.reduceLeDiff, Nat.reduceBEq]
        refine Ev.bind lb ?_
        simp -implicitDefEqProofs (disch := omega) only [go_sem, ↓reduceIte, reduceCtorEq, Nat.reduceAdd, Nat.reduceSub, Nat.reduceEqDiff, Nat.reduceLeDiff, Nat.reduceBEq]
        refine Ev.bind la ?_
        simp -implicitDefEqProofs (disch := omega) only [go_sem, ↓reduceIte, reduceCtorEq, Nat.reduceAdd, Nat.reduceSub, Nat.reduceEqDiff, Nat.reduceLeDiff, Nat.reduceBEq]
        refine Ev.bind lb ?_
        simp -implicitDefEqProofs (disch := omega) only [go_sem, ↓reduceIte, reduceCtorEq, Nat.reduceAdd, Nat.reduceSub, Nat.reduceEqDiff, Nat.reduceLeDiff, Nat.reduceBEq]
        exact Ev.lp (by simp -implicitDefEqProofs (disch := omega) only [F58C0, go_sem, ↓reduceIte, reduceCtorEq, Nat.reduceAdd, Nat.reduceSub, Nat.reduceEqDiff, Nat.reduceLeDiff, Nat.reduceBEq]) h
    · have l1 := lim_getD ha i
      have l2 := lim_getD hb i
      refine .inr ?_
      refine Ev.body (by unfold F58L0; rfl) ?_
      simp -implicitDefEqProofs (disch := omega) only [go_sem, ↓reduceIte, reduceCtorEq, Nat.reduceAdd, Nat.reduceSub, Nat.reduceEqDiff, Nat.reduceLeDiff, Nat.reduceBEq]
      refine Ev.bind la ?_
      simp -implicitDefEqProofs (disch := omega) only [go_sem, ↓reduceIte, reduceCtorEq, Nat.reduceAdd, Nat.reduceSub, Nat.reduceEqDiff, Nat.reduceLeDiff, Nat.reduceBEq]
      refine Ev.bind lb ?_
      by_cases hlt : a.getD i 0 < b.getD i 0
      · rw [cmp_lt (lt_of_top ha i (by omega))]
        simp -implicitDefEqProofs (disch := omega) only [go_sem, ↓reduceIte, reduceCtorEq, Nat.reduceAdd, Nat.reduceSub, Nat.reduceEqDiff, Nat.reduceLeDiff, Nat.reduceBEq]
        exact Ev.ret _
      · rw [cmp_gt (lt_of_top hb i (by omega))]
        simp -implicitDefEqProofs (disch := omega) only [go_sem, ↓reduceIte, reduceCtorEq, Nat.reduceAdd, Nat.reduceSub, Nat.reduceEqDiff, Nat.reduceLeDiff, Nat.reduceBEq]
        refine Ev.bind la ?_
        simp -implicitDefEqProofs (disch := omega) only [go_sem, ↓reduceIte, reduceCtorEq, Nat.reduceAdd, Nat.reduceSub, Nat.reduceEqDiff, Nat.reduceLeDiff, Nat.reduceBEq]
        refine Ev.bind lb ?_
        simp -implicitDefEqProofs (disch := omega) only [go_sem, ↓reduceIte, reduceCtorEq, Nat.reduceAdd, Nat.reduceSub, Nat.reduceEqDiff, Nat.reduceLeDiff, Nat.reduceBEq]
        exact Ev.ret _
theorem rcmp_ev {a b : List Int} (ha : Lim a) (hb : Lim b) (sa : a.length ≤ 100000000) (sb : b.length ≤ 100000000) : Ev (fun k => (lvl tab ext k).call 58 [(.pv (.ints .u32 (a))), (.pv (.ints .u32 (b)))]) [(.pv (.int .i64 (cmp (val a) (val b))))] := by
  have h := rcmp_loop ha hb (by omega) (by omega) (max a.length b.length) (by omega) _ rfl
  rw [val_take_all (Nat.le_max_left _ _), val_take_all (Nat.le_max_right _ _)] at h
  refine Ev.call rfl tab58 ?_
  simp -implicitDefEqProofs (disch := omega) only [F58, max_nat, go_sem, ↓reduceIte, reduceCtorEq, Nat.reduceAdd, Nat.reduceSub, Nat.reduceEqDiff, Nat.reduceLeDiff, Nat.reduceBEq]
  rcases h with ⟨h1, h2⟩ | h1
  · refine Ev.bind (Ev.lp (by simp -implicitDefEqProofs (disch := omega) only [F58C0, go_sem, ↓reduceIte, reduceCtorEq, Nat.reduceAdd, Nat.reduceSub, Nat.reduceEqDiff, Nat.reduceLeDiff, Nat.reduceBEq]) h1) ?_
    rw [h2]
    simp -implicitDefEqProofs (disch := omega) only [go_sem, ↓reduceIte, reduceCtorEq, Nat.reduceAdd, Nat.reduceSub, Nat.reduceEqDiff, Nat.reduceLeDiff, Nat.reduceBEq]
    exact Ev.ret _
  · refine Ev.bind (Ev.lp (by simp -implicitDefEqProofs (disch := omega) only [F58C0, go_sem, ↓reduceIte, reduceCtorEq, Nat.reduceAdd, Nat.reduceSub, Nat.reduceEqDiff, Nat.reduceLeDiff, Nat.reduceBEq]) h1) ?_
    simp -implicitDefEqProofs (disch := omega) only [go_sem, ↓reduceIte, reduceCtorEq, Nat.reduceAdd, Nat.reduceSub, Nat.reduceEqDiff, Nat.reduceLeDiff, Nat.reduceBEq]
    exact Ev.ret _
theorem radd_loop {a b : List Int} (ha : Lim a) (hb : Lim b) (sa : a.length ≤ 100000000) (sb : b.length ≤ 100000000) : ∀ d i, d + i = max a.length b.length + 1 → ∀ n : Int, n = i → ∀ (o : List Int) (c : Int), Lim o → o.length = i → 0 ≤ c → c ≤ 1 → (max a.length b.length < i → c = 0) →
    val o + P i * c.toNat = val (a.take i) + val (b.take i) →
    ∃ (o' : List Int) (n' : Int), Ev (fun k => run (lvl tab ext k) F43C0 F43L0 ⟨mk [(0, (.pv (.ints .u32 (a)))), (1, (.pv (.ints .u32 (b)))), (5, .row 5 none), (6, (.pv (.int .u64 (c)))), (7, (.pv (.int .i64 (n))))], hp [(5, (.row (.ints .u32 (o)) true))]⟩) (.exit 0, ⟨mk [(0, (.pv (.ints .u32 (a)))), (1, (.pv (.ints .u32 (b)))), (5, .row 5 none), (6, (.pv (.int .u64 (0)))), (7, (.pv (.int .i64 (n')))), (19, (.pv (.bool (false))))], hp [(5, (.row (.ints .u32 (o')) true))]⟩) ∧ Lim o' ∧ o'.length ≤ max a.length b.length + 1 ∧ val o' = val a + val b := by
  intro d
  induction d with
  | zero =>
    intro i hd n hn o c ho hoi h0 h1 hc hv
    have hc0 : c = 0 := hc (by omega)
    subst hc0
    rw [val_take_all (by omega), val_take_all (by omega)] at hv
    refine ⟨o, n, ?_, ho, by omega, by simpa using hv⟩
    clear hv
    refine Ev.body (by unfold F43L0; rfl) ?_
    simp -implicitDefEqProofs (disch := omega) only [max_nat, go_sem, ↓reduceIte, reduceCtorEq, Nat.reduceAdd, Nat.reduceSub, Nat.reduceEqDiff, Nat.reduceLeDiff, Nat.reduceBEq]
    exact Ev.ret _
  | succ d ih =>
    intro i hd n hn o c ho hoi h0 h1 hc hv
    subst hn
    by_cases hend : max a.length b.length ≤ i ∧ c = 0
    · obtain ⟨h2, rfl⟩ := hend
      rw [val_take_all (by omega), val_take_all (by omega)] at hv
      refine ⟨o, i, ?_, ho, by omega, by simpa using hv⟩
      clear hv ih
      refine Ev.body (by unfold F43L0; rfl) ?_
      simp -implicitDefEqProofs (disch := omega) only [max_nat, go_sem, ↓reduceIte, reduceCtorEq, Nat.reduceAdd, Nat.reduceSub, Nat.reduceEqDiff, Nat.reduceLeDiff, Nat.reduceBEq]
      exact Ev.ret _
    · have la := lim_getD ha i
      have lb := lim_getD hb i
      have ea := limb_ev ha (by omega) i rfl
      have eb := limb_ev hb (by omega) i rfl
      have va := val_take_step (l := a) i
      have vb := val_take_step (l := b) i
      have hout : max a.length b.length ≤ i → a.getD i 0 = 0 ∧ b.getD i 0 = 0 := fun h => ⟨M.getD_out (by omega), M.getD_out (by omega)⟩
      generalize hx : a.getD i 0 = x at *
      generalize hy : b.getD i 0 = y at *
      obtain ⟨o', n', r1, r2⟩ := ih (i + 1) (by clear ih va vb hv; omega) ((i : Int) + 1) (by omega) (o ++ [(x + y + c) % 4294967296]) ((x + y + c) / 4294967296) (by rw [lim_append, lim_cons]; exact ⟨ho, ⟨Int.emod_nonneg _ (by decide), Int.emod_lt_of_pos _ (by decide)⟩, lim_nil⟩)
        (by rw [List.length_append, hoi]; rfl) (by clear ih va vb hv; omega) (by clear ih va vb hv; omega) (fun hi => by
          obtain ⟨z1, z2⟩ := hout (by clear ih va vb hv; omega)
          clear ih va vb hv
          omega) (by
          rw [val_snoc, hoi, P_succ, va, vb]
          refine add_arith _ _ _ _ c.toNat _ _ _ _ hv ?_
          clear ih va vb hv; omega)
      refine ⟨o', n', ?_, r2⟩
      clear ih va vb hv r2 hout
      have hT : 0 ≤ x + y + c := by omega
      have e1 : (x + y + c).tmod 4294967296 = (x + y + c) % 4294967296 := tm hT
      have e2 : (x + y + c).tdiv 4294967296 = (x + y + c) / 4294967296 := td hT
      by_cases hi : i < max a.length b.length
      · refine Ev.body (by unfold F43L0; rfl) ?_
        simp -implicitDefEqProofs (disch := omega) only [max_nat, go_sem, ↓reduceIte, reduceCtorEq, Nat.reduceAdd, Nat.reduceSub, Nat.reduceEqDiff, Nat.reduceLeDiff, Nat.reduceBEq]
        refine Ev.bind ea ?_
        simp -implicitDefEqProofs (disch := omega) only [go_sem, ↓reduceIte, reduceCtorEq, Nat.reduceAdd, Nat.reduceSub, Nat.reduceEqDiff, Nat.reduceLeDiff, Nat.reduceBEq]
        refine Ev.bind eb ?_
        simp -implicitDefEqProofs (disch := omega) only [e1, e2, go_sem, ↓reduceIte, reduceCtorEq, Nat.reduceAdd, Nat.reduceSub, Nat.reduceEqDiff, Nat.reduceLeDiff, Nat.reduceBEq]
        exact Ev.lp (by simp -implicitDefEqProofs (disch := omega) only [F43C0, go_sem, ↓reduceIte, reduceCtorEq, Nat.reduceAdd, Nat.reduceSub, Nat.reduceEqDiff, Nat.reduceLeDiff, Nat.reduceBEq]) r1
      · refine Ev.body (by unfold F43L0; rfl) ?_
        simp -implicitDefEqProofs (disch := omega) only [max_nat, go_sem, ↓reduceIte, reduceCtorEq, Nat.reduceAdd, Nat.reduceSub, Nat.reduceEqDiff, Nat.reduceLeDiff, Nat.reduceBEq]
        refine Ev.bind ea ?_
        simp -implicitDefEqProofs (disch := omega) only [go_sem, ↓reduceIte, reduceCtorEq, Nat.reduceAdd, Nat.reduceSub, Nat.reduceEqDiff, Nat.reduceLeDiff, Nat.reduceBEq]
        refine Ev.bind eb ?_
        simp -implicitDefEqProofs (disch := omega) only [e1, e2, go_sem, ↓reduceIte, reduceCtorEq, Nat.reduceAdd, Nat.reduceSub, Nat.reduceEqDiff, Nat.reduceLeDiff, Nat.reduceBEq]
        exact Ev.lp (by simp -implicitDefEqProofs (disch := omega) only [F43C0, go_sem, ↓reduceIte, reduceCtorEq, Nat.reduceAdd, Nat.reduceSub, Nat.reduceEqDiff, Nat.reduceLeDiff, Nat.reduceBEq]) r1
theorem radd_ev {a b : List Int} (ha : Lim a) (hb : Lim b) (sa : a.length ≤ 100000000) (sb : b.length ≤ 100000000) : Ev (fun k => (lvl tab ext k).call 43 [(.pv (.ints .u32 (a))), (.pv (.ints .u32 (b)))]) [(.own (.ints .u32 (ofN (val a + val b))))] := by
  obtain ⟨o', n', r1, r2, r3, r4⟩ := radd_loop ha hb sa sb (max a.length b.length + 1) 0 (by omega) 0 rfl [] 0 lim_nil rfl (by omega) (by omega) (fun _ => rfl) (by simp [val])
  rw [← r4]
  refine Ev.call rfl tab43 ?_
  simp -implicitDefEqProofs (disch := omega) only [F43, go_sem, ↓reduceIte, reduceCtorEq, Nat.reduceAdd, Nat.reduceSub, Nat.reduceEqDiff, Nat.reduceLeDiff, Nat.reduceBEq]
  refine Ev.bind (Ev.lp (by simp -implicitDefEqProofs (disch := omega) only [F43C0, go_sem, ↓reduceIte, reduceCtorEq, Nat.reduceAdd, Nat.reduceSub, Nat.reduceEqDiff, Nat.reduceLeDiff, Nat.reduceBEq]) r1) ?_
  simp -implicitDefEqProofs (disch := omega) only [go_sem, ↓reduceIte, reduceCtorEq, Nat.reduceAdd, Nat.reduceSub, Nat.reduceEqDiff, Nat.reduceLeDiff, Nat.reduceBEq]
  refine Ev.bind (rnorm_ev r2 (by omega)) ?_
  simp -implicitDefEqProofs (disch := omega) only [go_sem, ↓reduceIte, reduceCtorEq, Nat.reduceAdd, Nat.reduceSub, Nat.reduceEqDiff, Nat.reduceLeDiff, Nat.reduceBEq]
  exact Ev.ret _
theorem rsub_loop {a b : List Int} (ha : Lim a) (hb : Lim b) (sa : a.length ≤ 100000000) (sb : b.length ≤ 100000000) (hge : val b ≤ val a) : ∀ d i, d + i = max a.length b.length → ∀ n : Int, n = i → ∀ (o : List Int) (c : Int), Lim o → o.length = i → 0 ≤ c → c ≤ 1 →
    val o + val (b.take i) = val (a.take i) + P i * c.toNat →
    ∃ (o' : List Int) (c' n' : Int), Ev (fun k => run (lvl tab ext k) F45C0 F45L0 ⟨mk [(0, (.pv (.ints .u32 (a)))), (1, (.pv (.ints .u32 (b)))), (6, .row 6 none), (7, (.pv (.int .u64 (c)))), (8, (.pv (.int .i64 (n))))], hp [(6, (.row (.ints .u32 (o)) true))]⟩) (.exit 0, ⟨mk [(0, (.pv (.ints .u32 (a)))), (1, (.pv (.ints .u32 (b)))), (6, .row 6 none), (7, (.pv (.int .u64 (c')))), (8, (.pv (.int .i64 (n')))), (20, (.pv (.bool (false))))], hp [(6, (.row (.ints .u32 (o')) true))]⟩) ∧ Lim o' ∧ o'.length ≤ max a.length b.length ∧ val o' = val a - val b := by
  intro d
  induction d with
  | zero =>
    intro i hd n hn o c ho hoi h0 h1 hv
    rw [val_take_all (by omega), val_take_all (by omega)] at hv
    have hlt := val_lt ho
    rw [hoi] at hlt
    have hc : c.toNat = 0 := by
      rcases (show c.toNat = 0 ∨ c.toNat = 1 by clear hv; omega) with h | h
      · exact h
      · rw [h] at hv; omega
    rw [hc] at hv
    refine ⟨o, c, n, ?_, ho, by omega, by omega⟩
    clear hv hlt hge
    refine Ev.body (by unfold F45L0; rfl) ?_
    simp -implicitDefEqProofs (disch := omega) only [max_nat, go_sem, ↓reduceIte, reduceCtorEq, Nat.reduceAdd, Nat.reduceSub, Nat.reduceEqDiff, Nat.reduceLeDiff, Nat.reduceBEq]
    exact Ev.ret _
  | succ d ih =>
    intro i hd n hn o c ho hoi h0 h1 hv
    subst hn
    have la := lim_getD ha i
    have lb := lim_getD hb i
    have ea := limb_ev ha (by omega) i rfl
    have eb := limb_ev hb (by omega) i rfl
    have va := val_take_step (l := a) i
    have vb := val_take_step (l := b) i
    generalize hx : a.getD i 0 = x at *
    generalize hy : b.getD i 0 = y at *
    obtain ⟨o', c', n', r1, r2⟩ := ih (i + 1) (by clear ih va vb hv hge; omega) ((i : Int) + 1) (by omega) (o ++ [(4294967296 + x - y - c) % 4294967296]) (1 - (4294967296 + x - y - c) / 4294967296) (by rw [lim_append, lim_cons]; exact ⟨ho, ⟨Int.emod_nonneg _ (by decide), Int.emod_lt_of_pos _ (by decide)⟩, lim_nil⟩)
      (by rw [List.length_append, hoi]; rfl) (by clear ih va vb hv hge; omega) (by clear ih va vb hv hge; omega) (by
        rw [val_snoc, hoi, P_succ, va, vb]
        refine less_arith _ _ _ _ c.toNat _ _ _ _ hv ?_
        clear ih va vb hv hge; omega)
    refine ⟨o', c', n', ?_, r2⟩
    clear ih va vb hv r2 hge
    have hT : 0 ≤ 4294967296 + x - y - c := by omega
    have e1 : (4294967296 + x - y - c).tmod 4294967296 = (4294967296 + x - y - c) % 4294967296 := tm hT
    have e2 : (4294967296 + x - y - c).tdiv 4294967296 = (4294967296 + x - y - c) / 4294967296 := td hT
    refine Ev.body (by unfold F45L0; rfl) ?_
    simp -implicitDefEqProofs (disch := omega) only [max_nat, go_sem, ↓reduceIte, reduceCtorEq, Nat.reduceAdd, Nat.reduceSub, Nat.reduceEqDiff, Nat.reduceLeDiff, Nat.reduceBEq]
    refine Ev.bind ea ?_
    simp -implicitDefEqProofs (disch := omega) only [go_sem, ↓reduceIte, reduceCtorEq, Nat.reduceAdd, Nat.reduceSub, Nat.reduceEqDiff, Nat.reduceLeDiff, Nat.reduceBEq]
    refine Ev.bind eb ?_
    simp -implicitDefEqProofs (disch := omega) only [e1, e2, go_sem, ↓reduceIte, reduceCtorEq, Nat.reduceAdd, Nat.reduceSub, Nat.reduceEqDiff, Nat.reduceLeDiff, Nat.reduceBEq]
    exact Ev.lp (by simp -implicitDefEqProofs (disch := omega) only [F45C0, go_sem, ↓reduceIte, reduceCtorEq, Nat.reduceAdd, Nat.reduceSub, Nat.reduceEqDiff, Nat.reduceLeDiff, Nat.reduceBEq]) r1
theorem rsub_ev {a b : List Int} (ha : Lim a) (hb : Lim b) (sa : a.length ≤ 100000000) (sb : b.length ≤ 100000000) : Ev (fun k => (lvl tab ext k).call 45 [(.pv (.ints .u32 (a))), (.pv (.ints .u32 (b)))]) [(.pv (.ints .u32 (ofN (val a - val b)))), (.pv (.bool (decide (val b ≤ val a))))] := by
  refine Ev.call rfl tab45 ?_
  simp -implicitDefEqProofs (disch := omega) only [F45, go_sem, ↓reduceIte, reduceCtorEq, Nat.reduceAdd, Nat.reduceSub, Nat.reduceEqDiff, Nat.reduceLeDiff, Nat.reduceBEq]
  refine Ev.bind (rcmp_ev ha hb sa sb) ?_
  by_cases hlt : val a < val b
  · rw [cmp_lt hlt, decide_eq_false (by omega), show val a - val b = 0 from by omega, ofN_zero]
    simp -implicitDefEqProofs (disch := omega) only [go_sem, ↓reduceIte, reduceCtorEq, Nat.reduceAdd, Nat.reduceSub, Nat.reduceEqDiff, Nat.reduceLeDiff, Nat.reduceBEq]
    exact Ev.ret _
  · obtain ⟨o', c', n', r1, r2, r3, r4⟩ := rsub_loop ha hb sa sb (by omega) (max a.length b.length) 0 (by omega) 0 rfl [] 0 lim_nil rfl (by omega) (by omega) (by simp [val])
    have hc : 0 ≤ cmp (val a) (val b) := cmp_nonneg.2 (by omega)
    rw [decide_eq_true (by omega), ← r4]
    clear r4
    simp -implicitDefEqProofs (disch := omega) only [go_sem, ↓reduceIte, reduceCtorEq, Nat.reduceAdd, Nat.reduceSub, Nat.reduceEqDiff, Nat.reduceLeDiff, Nat.reduceBEq]
    refine Ev.bind (Ev.lp (by simp -implicitDefEqProofs (disch := omega) only [F45C0, go_sem, ↓reduceIte, reduceCtorEq, Nat.reduceAdd, Nat.reduceSub, Nat.reduceEqDiff, Nat.reduceLeDiff, Nat.reduceBEq]) r1) ?_
    simp -implicitDefEqProofs (disch := omega) only [go_sem, ↓reduceIte, reduceCtorEq, Nat.reduceAdd, Nat.reduceSub, Nat.reduceEqDiff, Nat.reduceLeDiff, Nat.reduceBEq]
    refine Ev.bind (rnorm_ev r2 (by omega)) ?_
    simp -implicitDefEqProofs (disch := omega) only [go_sem, ↓reduceIte, reduceCtorEq, Nat.reduceAdd, Nat.reduceSub, Nat.reduceEqDiff, Nat.reduceLeDiff, Nat.reduceBEq]
    exact Ev.ret _
end Go.Proofs.Ytkeipmkiilimeaa.V
set_option linter.unusedSimpArgs false
set_option linter.unusedVariables false
namespace Go.Proofs.Ytkeipmkiilimeaa.V
open Go Go.Proofs.Ytkeipmkiilimeaa.M
/-! products -/
theorem rmul_inner {a b : List Int} (ha : Lim a) (hb : Lim b) (sab : a.length + b.length ≤ 1000000000) {i : Nat} (hi : i < a.length) :
    ∀ d k, d + k = b.length → ∀ n : Int, n = k → ∀ (o : List Int) (c : Int), Lim o → o.length = a.length + b.length → 0 ≤ c → c < 4294967296 → (∀ j, i + b.length ≤ j → o.getD j 0 = 0) →
    val o + P (i + k) * c.toNat = val (a.take i) * val b + P i * (a.getD i 0).toNat * val (b.take k) →
    ∃ (o' : List Int) (c' : Int), Ev (fun k => run (lvl tab ext k) F48C1 F48L1 ⟨mk [(0, (.pv (.ints .u32 (a)))), (1, (.pv (.ints .u32 (b)))), (5, .row 5 none), (6, (.pv (.int .i64 ((i : Int))))), (7, (.pv (.int .u64 (c)))), (8, (.pv (.int .i64 (n))))], hp [(5, (.row (.ints .u32 (o)) true))]⟩)
      (.exit 2, ⟨mk [(0, (.pv (.ints .u32 (a)))), (1, (.pv (.ints .u32 (b)))), (5, .row 5 none), (6, (.pv (.int .i64 ((i : Int))))), (7, (.pv (.int .u64 (c')))), (8, (.pv (.int .i64 ((b.length : Int))))), (25, (.pv (.bool (false))))], hp [(5, (.row (.ints .u32 (o')) true))]⟩) ∧
      Lim o' ∧ o'.length = a.length + b.length ∧ 0 ≤ c' ∧ c' < 4294967296 ∧ (∀ j, i + b.length ≤ j → o'.getD j 0 = 0) ∧ val o' + P (i + b.length) * c'.toNat = val (a.take i) * val b + P i * (a.getD i 0).toNat * val b := by
  intro d
  induction d with
  | zero =>
    intro k hd n hn o c ho hol h0 h1 hz hv
    have hk : k = b.length := by clear hv hz; omega
    subst hn
    subst hk
    rw [List.take_length] at hv
    refine ⟨o, c, ?_, ho, hol, h0, h1, hz, hv⟩
    clear hv hz
    refine Ev.body (by unfold F48L1; rfl) ?_
    simp -implicitDefEqProofs (disch := omega) only [go_sem, ↓reduceIte, reduceCtorEq, Nat.reduceAdd, Nat.reduceSub, Nat.reduceEqDiff, Nat.reduceLeDiff, Nat.reduceBEq]
    exact Ev.ret _
  | succ d ih =>
    intro k hd n hn o c ho hol h0 h1 hz hv
    subst hn
    have la := lim_getD ha i
    have lb := lim_getD hb k
    have lo := lim_getD ho (i + k)
    have ea := limb_ev ha (by clear hv hz ih; omega) i rfl
    have eb := limb_ev hb (by clear hv hz ih; omega) k rfl
    have eo := limb_ev ho (by clear hv hz ih; omega) (n := (i : Int) + (k : Int)) (i + k) (by omega)
    have hlt : i + k < o.length := by clear hv hz ih la lb lo; omega
    have hkb : k < b.length := by clear hv hz ih la lb lo; omega
    have step : ∀ s : Int, s = a.getD i 0 * b.getD k 0 + o.getD (i + k) 0 + c → 0 ≤ s → s < 18446744073709551616 → _ := fun s hs s0 s1 =>
      ih (k + 1) (by clear hv hz ih la lb lo hs; omega) ((k : Int) + 1) (by omega) (o.set (i + k) (s % 4294967296)) (s / 4294967296) (lim_set ho _ (Int.emod_nonneg _ (by decide)) (Int.emod_lt_of_pos _ (by decide))) (by rw [List.length_set, hol]) (by clear hv hz ih la lb lo hs; omega) (by clear hv hz ih la lb lo hs; omega) (by
        intro j hj
        have hne : i + k ≠ j := by clear hv hz ih la lb lo hs; omega
        exact (M.getD_set_ne hne).trans (hz j hj)) (by
        have hvs := val_set hlt (s % 4294967296)
        have htk := val_take_succ (l := b) (i := k) hkb
        have hsn : (s % 4294967296).toNat + 4294967296 * (s / 4294967296).toNat = c.toNat + (a.getD i 0).toNat * (b.getD k 0).toNat + (o.getD (i + k) 0).toNat := by
          have e : (a.getD i 0 * b.getD k 0).toNat = (a.getD i 0).toNat * (b.getD k 0).toNat := Int.toNat_mul la.1 lb.1
          have e0 : 0 ≤ a.getD i 0 * b.getD k 0 := Int.mul_nonneg la.1 lb.1
          rw [← e]
          clear hvs htk hv hz ih
          omega
        rw [htk, show i + (k + 1) = (i + k) + 1 from rfl, P_succ]
        have hp := P_add i k
        clear ih hz htk hs s0 s1 la lb lo ea eb eo
        generalize (s % 4294967296).toNat = u1 at *
        generalize (s / 4294967296).toNat = u2 at *
        generalize (a.getD i 0).toNat = x at *
        generalize (b.getD k 0).toNat = y at *
        generalize (o.getD (i + k) 0).toNat = z at *
        generalize c.toNat = cc at *
        generalize val (o.set (i + k) (s % 4294967296)) = vo2 at *
        generalize val o = vo at *
        generalize val (a.take i) * val b = A at *
        generalize val (b.take k) = B at *
        rw [hp] at hvs hv ⊢
        have h9 : P i * P k * (u1 + 4294967296 * u2) = P i * P k * (cc + x * y + z) := by rw [hsn]
        generalize P i = p at *
        generalize P k = q at *
        clear hp hsn
        grind)
    have hprod : a.getD i 0 * b.getD k 0 ≤ 4294967295 * 4294967295 := Int.mul_le_mul (by omega) (by omega) lb.1 (by omega)
    have hprod0 : 0 ≤ a.getD i 0 * b.getD k 0 := Int.mul_nonneg la.1 lb.1
    obtain ⟨o', c', r1, r2⟩ := step _ rfl (by clear ih step hv hz; omega) (by clear ih step hv hz; omega)
    refine ⟨o', c', ?_, r2⟩
    clear ih step hv hz r2
    generalize hab : a.getD i 0 * b.getD k 0 = ab at *
    have e : ((i : Int) + (k : Int)).toNat = i + k := by omega
    have hT : 0 ≤ ab + o.getD (i + k) 0 + c := by omega
    have e1 : (ab + o.getD (i + k) 0 + c).tmod 4294967296 = (ab + o.getD (i + k) 0 + c) % 4294967296 := tm hT
    have e2 : (ab + o.getD (i + k) 0 + c).tdiv 4294967296 = (ab + o.getD (i + k) 0 + c) / 4294967296 := td hT
    refine Ev.body (by unfold F48L1; rfl) ?_
    simp -implicitDefEqProofs (disch := omega) only [go_sem, ↓reduceIte, reduceCtorEq, Nat.reduceAdd, Nat.reduceSub, Nat.reduceEqDiff, Nat.reduceLeDiff, Nat.reduceBEq]
    refine Ev.bind ea ?_
    simp -implicitDefEqProofs (disch := omega) only [go_sem, ↓reduceIte, reduceCtorEq, Nat.reduceAdd, Nat.reduceSub, Nat.reduceEqDiff, Nat.reduceLeDiff, Nat.reduceBEq]
    refine Ev.bind eb ?_
    simp -implicitDefEqProofs (disch := omega) only [hab, go_sem, ↓reduceIte, reduceCtorEq, Nat.reduceAdd, Nat.reduceSub, Nat.reduceEqDiff, Nat.reduceLeDiff, Nat.reduceBEq]
    refine Ev.bind eo ?_
    simp -implicitDefEqProofs (disch := omega) only [e, e1, e2, go_sem, ↓reduceIte, reduceCtorEq, Nat.reduceAdd, Nat.reduceSub, Nat.reduceEqDiff, Nat.reduceLeDiff, Nat.reduceBEq]
    exact Ev.lp (by simp -implicitDefEqProofs (disch := omega) only [F48C1, go_sem, ↓reduceIte, reduceCtorEq, Nat.reduceAdd, Nat.reduceSub, Nat.reduceEqDiff, Nat.reduceLeDiff, Nat.reduceBEq]) r1
theorem rmul_loop {a b : List Int} (ha : Lim a) (hb : Lim b) (sab : a.length + b.length ≤ 1000000000) : ∀ d i, d + i = a.length → ∀ n : Int, n = i → ∀ o : List Int, Lim o → o.length = a.length + b.length → (∀ j, i + b.length ≤ j → o.getD j 0 = 0) → val o = val (a.take i) * val b →
    ∃ o' : List Int, Ev (fun k => run (lvl tab ext k) F48C0 F48L0 ⟨mk [(0, (.pv (.ints .u32 (a)))), (1, (.pv (.ints .u32 (b)))), (5, .row 5 none), (6, (.pv (.int .i64 (n))))], hp [(5, (.row (.ints .u32 (o)) true))]⟩)
      (.exit 0, ⟨mk [(0, (.pv (.ints .u32 (a)))), (1, (.pv (.ints .u32 (b)))), (5, .row 5 none), (6, (.pv (.int .i64 ((a.length : Int))))), (19, (.pv (.bool (false))))], hp [(5, (.row (.ints .u32 (o')) true))]⟩) ∧ Lim o' ∧ o'.length = a.length + b.length ∧ val o' = val a * val b := by
  intro d
  induction d with
  | zero =>
    intro i hd n hn o ho hol hz hv
    have hi : i = a.length := by clear hv hz; omega
    subst hn
    subst hi
    rw [List.take_length] at hv
    refine ⟨o, ?_, ho, hol, hv⟩
    clear hv hz
    refine Ev.body (by unfold F48L0; rfl) ?_
    simp -implicitDefEqProofs (disch := omega) only [go_sem, ↓reduceIte, reduceCtorEq, Nat.reduceAdd, Nat.reduceSub, Nat.reduceEqDiff, Nat.reduceLeDiff, Nat.reduceBEq]
    exact Ev.ret _
  | succ d ih =>
    intro i hd n hn o ho hol hz hv
    subst hn
    have hi : i < a.length := by clear hv hz ih; omega
    obtain ⟨o1, c1, r1, r2, r3, r4, r5, r6, r7⟩ := rmul_inner ha hb sab hi b.length 0 (by omega) 0 rfl o 0 ho hol (by omega) (by omega) hz (by rw [hv]; simp [val])
    have hlt : i + b.length < o1.length := by clear hv hz ih r7 r6; omega
    obtain ⟨o', q1, q2⟩ := ih (i + 1) (by clear hv hz ih r7 r6; omega) ((i : Int) + 1) (by omega) (o1.set (i + b.length) c1) (lim_set r2 _ r4 r5) (by rw [List.length_set, r3])
      (fun j hj => (M.getD_set_ne (by clear hv hz ih r7 r6; omega)).trans (r6 j (by clear hv hz ih r7 r6; omega))) (by
        have hs := val_set hlt c1
        rw [r6 _ (Nat.le_refl _)] at hs
        rw [val_take_succ hi]
        have : ((0 : Int)).toNat = 0 := rfl
        rw [this] at hs
        clear ih hz r6 hv r1
        grind)
    refine ⟨o', ?_, q2⟩
    clear ih hv hz q2 r6 r7
    have e : ((i : Int) + (b.length : Int)).toNat = i + b.length := by omega
    refine Ev.body (by unfold F48L0; rfl) ?_
    simp -implicitDefEqProofs (disch := omega) only [go_sem, ↓reduceIte, reduceCtorEq, Nat.reduceAdd, Nat.reduceSub, Nat.reduceEqDiff, Nat.reduceLeDiff, Nat.reduceBEq]
    refine Ev.bind (Ev.lp (by simp -implicitDefEqProofs (disch := omega) only [F48C1, go_sem, ↓reduceIte, reduceCtorEq, Nat.reduceAdd, Nat.reduceSub, Nat.reduceEqDiff, Nat.reduceLeDiff, Nat.reduceBEq]) r1) ?_
    simp -implicitDefEqProofs (disch := omega) only [e, go_sem, ↓reduceIte, reduceCtorEq, Nat.reduceAdd, Nat.reduceSub, Nat.reduceEqDiff, Nat.reduceLeDiff, Nat.reduceBEq]
    exact Ev.lp (by simp -implicitDefEqProofs (disch := omega) only [F48C0, go_sem, ↓reduceIte, reduceCtorEq, Nat.reduceAdd, Nat.reduceSub, Nat.reduceEqDiff, Nat.reduceLeDiff, Nat.reduceBEq]) q1
theorem rmul_ev {a b : List Int} (ha : Lim a) (hb : Lim b) (sab : a.length + b.length ≤ 1000000000) : Ev (fun k => (lvl tab ext k).call 48 [(.pv (.ints .u32 (a))), (.pv (.ints .u32 (b)))]) [(.own (.ints .u32 (ofN (val a * val b))))] := by
  have e : ((a.length : Int) + (b.length : Int)).toNat = a.length + b.length := by omega
  obtain ⟨o', q1, q2, q3, q4⟩ := rmul_loop ha hb sab a.length 0 (by omega) 0 rfl (List.replicate (a.length + b.length) 0) (lim_rep _) (by simp) (fun j _ => getD_rep _ _) (by rw [val_rep]; simp [val])
  rw [← q4]
  clear q4
  refine Ev.call rfl tab48 ?_
  simp -implicitDefEqProofs (disch := omega) only [F48, e, go_sem, ↓reduceIte, reduceCtorEq, Nat.reduceAdd, Nat.reduceSub, Nat.reduceEqDiff, Nat.reduceLeDiff, Nat.reduceBEq]
  refine Ev.bind (Ev.lp (by simp -implicitDefEqProofs (disch := omega) only [F48C0, go_sem, ↓reduceIte, reduceCtorEq, Nat.reduceAdd, Nat.reduceSub, Nat.reduceEqDiff, Nat.reduceLeDiff, Nat.reduceBEq]) q1) ?_
  simp -implicitDefEqProofs (disch := omega) only [go_sem, ↓reduceIte, reduceCtorEq, Nat.reduceAdd, Nat.reduceSub, Nat.reduceEqDiff, Nat.reduceLeDiff, Nat.reduceBEq]
  refine Ev.bind (rnorm_ev q2 (by omega)) ?_
  simp -implicitDefEqProofs (disch := omega) only [go_sem, ↓reduceIte, reduceCtorEq, Nat.reduceAdd, Nat.reduceSub, Nat.reduceEqDiff, Nat.reduceLeDiff, Nat.reduceBEq]
  exact Ev.ret _
/-! bits -/
theorem rbits_loop : ∀ f n : Nat, n < 2 ^ f → f ≤ 32 → ∀ m : Int, 0 ≤ m → m ≤ 100000000000 + (32 - f : Nat) → ∀ x : Int, x = n → Ev (fun k => run (lvl tab ext k) F65C0 F65L0 ⟨mk [(4, (.pv (.int .i64 (m)))), (5, (.pv (.int .u32 (x))))], hp []⟩) (.exit 0, ⟨mk [(4, (.pv (.int .i64 (m + (blen n : Nat))))), (5, (.pv (.int .u32 (0)))), (22, (.pv (.bool (false))))], hp []⟩) := by
  intro f
  induction f with
  | zero =>
    intro n hn _ m h0 _ x hx
    have : n = 0 := by simpa using hn
    subst this
    subst hx
    rw [blen_zero]
    refine Ev.body (by unfold F65L0; rfl) ?_
    simp -implicitDefEqProofs (disch := omega) only [Int.add_zero, go_sem, ↓reduceIte, reduceCtorEq, Nat.reduceAdd, Nat.reduceSub, Nat.reduceEqDiff, Nat.reduceLeDiff, Nat.reduceBEq]
    exact Ev.ret _
  | succ f ih =>
    intro n hn hf m hm0 hm x hx
    subst hx
    by_cases h0 : n = 0
    · subst h0
      rw [blen_zero]
      refine Ev.body (by unfold F65L0; rfl) ?_
      simp -implicitDefEqProofs (disch := omega) only [Int.add_zero, go_sem, ↓reduceIte, reduceCtorEq, Nat.reduceAdd, Nat.reduceSub, Nat.reduceEqDiff, Nat.reduceLeDiff, Nat.reduceBEq]
      exact Ev.ret _
    · have hn2 : n < 2 ^ 32 := Nat.lt_of_lt_of_le hn (Nat.pow_le_pow_right (by decide) hf)
      have hn3 : n < 4294967296 := hn2
      have e1 : Int.tdiv (n : Int) 2 = ((n / 2 : Nat) : Int) := td (by omega)
      rw [Nat.pow_succ] at hn
      have r := ih (n / 2) (by omega) (by omega) (m + 1) (by omega) (by omega) _ rfl
      rw [show m + 1 + ((blen (n / 2) : Nat) : Int) = m + ((blen n : Nat) : Int) from by rw [blen_pos h0]; omega] at r
      clear ih
      refine Ev.body (by unfold F65L0; rfl) ?_
      simp -implicitDefEqProofs (disch := omega) only [e1, go_sem, ↓reduceIte, reduceCtorEq, Nat.reduceAdd, Nat.reduceSub, Nat.reduceEqDiff, Nat.reduceLeDiff, Nat.reduceBEq]
      exact Ev.lp (by simp -implicitDefEqProofs (disch := omega) only [F65C0, go_sem, ↓reduceIte, reduceCtorEq, Nat.reduceAdd, Nat.reduceSub, Nat.reduceEqDiff, Nat.reduceLeDiff, Nat.reduceBEq]) r
theorem rbits_ev {a : List Int} (ha : Lim a) (sa : a.length ≤ 1000000000) : Ev (fun k => (lvl tab ext k).call 65 [(.pv (.ints .u32 (a)))]) [(.pv (.int .i64 (((blen (val a) : Nat) : Int))))] := by
  have h1 := len_val_le ha
  refine Ev.call rfl tab65 ?_
  simp -implicitDefEqProofs (disch := omega) only [F65, go_sem, ↓reduceIte, reduceCtorEq, Nat.reduceAdd, Nat.reduceSub, Nat.reduceEqDiff, Nat.reduceLeDiff, Nat.reduceBEq]
  refine Ev.bind (rnorm_ev ha sa) ?_
  by_cases h0 : val a = 0
  · rw [h0, ofN_zero, blen_zero]
    simp -implicitDefEqProofs (disch := omega) only [go_sem, ↓reduceIte, reduceCtorEq, Nat.reduceAdd, Nat.reduceSub, Nat.reduceEqDiff, Nat.reduceLeDiff, Nat.reduceBEq]
    exact Ev.ret _
  · have hp : 0 < (ofN (val a)).length := ofN_length_pos.2 (by omega)
    have lb := lim_getD (lim_ofN (val a)) ((ofN (val a)).length - 1)
    have hl := limb_eq (lim_ofN (val a)) ((ofN (val a)).length - 1)
    rw [val_ofN] at hl
    generalize hm : (ofN (val a)).length - 1 = m at *
    have e : (((ofN (val a)).length : Int) - 1).toNat = m := by omega
    generalize hx : (ofN (val a)).getD m 0 = x at *
    have hlt : val a < P (m + 1) := by have := lt_P_len (val a); rwa [show (ofN (val a)).length = m + 1 by omega] at this
    have hge : P m ≤ val a := by have := P_len_le h0; rwa [hm] at this
    have hq : val a / P m < 4294967296 := by
      rw [Nat.div_lt_iff_lt_mul (P_pos m), ← P_succ]; exact hlt
    have hq0 : val a / P m ≠ 0 := by
      have := Nat.div_pos hge (P_pos m); omega
    rw [Nat.mod_eq_of_lt hq] at hl
    have hxx : x = ((val a / P m : Nat) : Int) := by omega
    have hb : blen (val a) = blen (val a / P m) + 32 * m := by
      rw [P_two] at hq0 ⊢; exact blen_shift _ _ hq0
    have hLm : (ofN (val a)).length = m + 1 := by omega
    have lp := rbits_loop 32 _ hq (Nat.le_refl _) (32 * (((ofN (val a)).length : Int) - 1)) (by omega) (by omega) x hxx
    rw [show (32 : Int) * (((ofN (val a)).length : Int) - 1) + ((blen (val a / P m) : Nat) : Int) = ((blen (val a) : Nat) : Int) from by omega] at lp
    clear hxx hq0 hq hlt hge hl hb
    simp -implicitDefEqProofs (disch := omega) only [e, hx, go_sem, ↓reduceIte, reduceCtorEq, Nat.reduceAdd, Nat.reduceSub, Nat.reduceEqDiff, Nat.reduceLeDiff, Nat.reduceBEq]
    refine Ev.bind (Ev.lp (by simp -implicitDefEqProofs (disch := omega) only [F65C0, go_sem, ↓reduceIte, reduceCtorEq, Nat.reduceAdd, Nat.reduceSub, Nat.reduceEqDiff, Nat.reduceLeDiff, Nat.reduceBEq]) lp) ?_
    simp -implicitDefEqProofs (disch := omega) only [go_sem, ↓reduceIte, reduceCtorEq, Nat.reduceAdd, Nat.reduceSub, Nat.reduceEqDiff, Nat.reduceLeDiff, Nat.reduceBEq]
    exact Ev.ret _
/-! shifts -/
theorem rshift_loop {a : List Int} (ha : Lim a) (sa : a.length ≤ 100000000) {n : Nat} (hn : n ≤ 3200000000) : ∀ d i, d + i = a.length + 1 → ∀ m : Int, m = i → ∀ (o : List Int) (c : Int), Lim o → o.length = n / 32 + i → 0 ≤ c → c < 4294967296 → (a.length < i → c = 0) →
    val o + P (n / 32) * (P i * c.toNat) = P (n / 32) * (val (a.take i) * 2 ^ (n % 32)) →
    ∃ (o' : List Int) (c' m' : Int), Ev (fun k => run (lvl tab ext k) F66C0 F66L0 ⟨mk [(0, (.pv (.ints .u32 (a)))), (1, (.pv (.int .i64 ((n : Int))))), (5, .row 5 none), (6, (.pv (.int .u64 (c)))), (7, (.pv (.int .i64 (m))))], hp [(5, (.row (.ints .u32 (o)) true))]⟩) (.exit 0, ⟨mk [(0, (.pv (.ints .u32 (a)))), (1, (.pv (.int .i64 ((n : Int))))), (5, .row 5 none), (6, (.pv (.int .u64 (c')))), (7, (.pv (.int .i64 (m')))), (15, (.pv (.bool (false))))], hp [(5, (.row (.ints .u32 (o')) true))]⟩) ∧ Lim o' ∧ o'.length ≤ n / 32 + a.length + 1 ∧ val o' = val a * 2 ^ n := by
  intro d
  induction d with
  | zero =>
    intro i hd m hm o c ho hoi h0 h1 hc hv
    have hc0 : c = 0 := hc (by omega)
    subst hc0
    rw [val_take_all (by omega)] at hv
    have : val o = val a * 2 ^ n := by
      rw [pow_split n]
      have : P (n / 32) * (P i * (0 : Int).toNat) = 0 := by simp
      rw [this] at hv
      rw [Nat.mul_left_comm]; exact hv
    refine ⟨o, 0, m, ?_, ho, by clear hv this; omega, this⟩
    clear hv this
    refine Ev.body (by unfold F66L0; rfl) ?_
    simp -implicitDefEqProofs (disch := omega) only [go_sem, ↓reduceIte, reduceCtorEq, Nat.reduceAdd, Nat.reduceSub, Nat.reduceEqDiff, Nat.reduceLeDiff, Nat.reduceBEq]
    exact Ev.ret _
  | succ d ih =>
    intro i hd m hm o c ho hoi h0 h1 hc hv
    subst hm
    have la := lim_getD ha i
    have ea := limb_ev ha (by clear hv ih; omega) i rfl
    have va := val_take_step (l := a) i
    have ht : n % 32 < 32 := Nat.mod_lt _ (by decide)
    have exa : a.getD i 0 = ((a.getD i 0).toNat : Int) := (Int.toNat_of_nonneg la.1).symm
    have hla : (a.getD i 0).toNat < 4294967296 := by clear ih va hv; omega
    have h2 := two_pow_lt ht
    have h3 : (a.getD i 0).toNat * 2 ^ (n % 32) ≤ 4294967295 * 2147483648 := by
      have h4 : 2 ^ (n % 32) ≤ 2 ^ 31 := Nat.pow_le_pow_right (by decide) (by omega)
      exact Nat.mul_le_mul (by omega) h4
    have hsh := shl64 hla ht
    rw [← exa] at hsh
    have hout : a.length ≤ i → a.getD i 0 = 0 := fun h => M.getD_out h
    generalize hX : (a.getD i 0).toNat * 2 ^ (n % 32) = X at *
    generalize hT : (X : Int) + c = T at *
    have hT0 : 0 ≤ T := by clear ih va hv; omega
    have hT1 : T < 18446744073709551616 := by clear ih va hv; omega
    obtain ⟨o', c', m', r1, r2⟩ := ih (i + 1) (by clear ih va hv; omega) ((i : Int) + 1) (by omega) (o ++ [T % 4294967296]) (T / 4294967296) (by rw [lim_append, lim_cons]; exact ⟨ho, ⟨Int.emod_nonneg _ (by decide), Int.emod_lt_of_pos _ (by decide)⟩, lim_nil⟩) (by rw [List.length_append, hoi]; rfl) (by clear ih va hv; omega) (by clear ih va hv; omega) (fun hi => by
        have z1 := hout (by clear ih va hv; omega)
        rw [z1] at hX
        have hX0 : X = 0 := by rw [← hX]; simp
        clear ih va hv h3
        omega) (by
      have hs : T.toNat = X + c.toNat := by clear ih va hv; omega
      have hs2 : (T % 4294967296).toNat + 4294967296 * (T / 4294967296).toNat = T.toNat := by clear ih va hv; omega
      rw [val_snoc, hoi, P_add, P_succ, va]
      clear ih hT hT0 hT1 hc ea exa hla la h3 hsh hout
      generalize (T % 4294967296).toNat = s1 at *
      generalize (T / 4294967296).toNat = s2 at *
      generalize (a.getD i 0).toNat = x at *
      have h9 : P (n / 32) * (P i * (s1 + 4294967296 * s2)) = P (n / 32) * (P i * (x * 2 ^ (n % 32) + c.toNat)) := by rw [hs2, hs, hX]
      clear hs hs2 hX
      generalize 2 ^ (n % 32) = z at *
      generalize P (n / 32) = q at *
      generalize P i = p at *
      generalize val (a.take i) = A at *
      grind)
    refine ⟨o', c', m', ?_, r2⟩
    clear ih va hv r2 hX h3 hout h2 hc
    have e1 : T.tmod 4294967296 = T % 4294967296 := tm hT0
    have e2 : T.tdiv 4294967296 = T / 4294967296 := td hT0
    refine Ev.body (by unfold F66L0; rfl) ?_
    simp -implicitDefEqProofs (disch := omega) only [go_sem, ↓reduceIte, reduceCtorEq, Nat.reduceAdd, Nat.reduceSub, Nat.reduceEqDiff, Nat.reduceLeDiff, Nat.reduceBEq]
    refine Ev.bind ea ?_
    simp -implicitDefEqProofs (disch := omega) only [tmod32, hsh, hT, e1, e2, go_sem, ↓reduceIte, reduceCtorEq, Nat.reduceAdd, Nat.reduceSub, Nat.reduceEqDiff, Nat.reduceLeDiff, Nat.reduceBEq]
    exact Ev.lp (by simp -implicitDefEqProofs (disch := omega) only [F66C0, go_sem, ↓reduceIte, reduceCtorEq, Nat.reduceAdd, Nat.reduceSub, Nat.reduceEqDiff, Nat.reduceLeDiff, Nat.reduceBEq]) r1
theorem rshift_ev {a : List Int} (ha : Lim a) (sa : a.length ≤ 100000000) {n : Nat} (hn : n ≤ 3200000000) : Ev (fun k => (lvl tab ext k).call 66 [(.pv (.ints .u32 (a))), (.pv (.int .i64 ((n : Int))))]) [(.own (.ints .u32 (ofN (val a * 2 ^ n))))] := by
  obtain ⟨o', c', m', r1, r2, r3, r4⟩ := rshift_loop ha sa hn (a.length + 1) 0 (by omega) 0 rfl (List.replicate (n / 32) 0) 0 (lim_rep _) (by simp) (by omega) (by omega) (fun _ => rfl) (by simp [val_rep, val])
  rw [← r4]
  clear r4
  refine Ev.call rfl tab66 ?_
  simp -implicitDefEqProofs (disch := omega) only [F66, tdiv32, go_sem, ↓reduceIte, reduceCtorEq, Nat.reduceAdd, Nat.reduceSub, Nat.reduceEqDiff, Nat.reduceLeDiff, Nat.reduceBEq]
  refine Ev.bind (Ev.lp (by simp -implicitDefEqProofs (disch := omega) only [F66C0, go_sem, ↓reduceIte, reduceCtorEq, Nat.reduceAdd, Nat.reduceSub, Nat.reduceEqDiff, Nat.reduceLeDiff, Nat.reduceBEq]) r1) ?_
  simp -implicitDefEqProofs (disch := omega) only [go_sem, ↓reduceIte, reduceCtorEq, Nat.reduceAdd, Nat.reduceSub, Nat.reduceEqDiff, Nat.reduceLeDiff, Nat.reduceBEq]
  refine Ev.bind (rnorm_ev r2 (by omega)) ?_
  simp -implicitDefEqProofs (disch := omega) only [go_sem, ↓reduceIte, reduceCtorEq, Nat.reduceAdd, Nat.reduceSub, Nat.reduceEqDiff, Nat.reduceLeDiff, Nat.reduceBEq]
  exact Ev.ret _
/-! half -/
theorem rhalf_loop {a : List Int} (ha : Lim a) (sa : a.length ≤ 100000000) : ∀ d i, d + i = a.length → ∀ m : Int, m = i → ∀ o : List Int, Lim o → o.length = i →
    2 * val o + (a.getD 0 0).toNat % 2 = val (a.take i) + P i * ((a.getD i 0).toNat % 2) →
    ∃ o' : List Int, Ev (fun k => run (lvl tab ext k) F67C0 F67L0 ⟨mk [(0, (.pv (.ints .u32 (a)))), (3, .row 3 none), (4, (.pv (.int .i64 (m))))], hp [(3, (.row (.ints .u32 (o)) true))]⟩) (.exit 0, ⟨mk [(0, (.pv (.ints .u32 (a)))), (3, .row 3 none), (4, (.pv (.int .i64 ((a.length : Int))))), (8, (.pv (.bool (false))))], hp [(3, (.row (.ints .u32 (o')) true))]⟩) ∧ Lim o' ∧ o'.length = a.length ∧ val o' = val a / 2 := by
  intro d
  induction d with
  | zero =>
    intro i hd m hm o ho hoi hv
    have hi : i = a.length := by clear hv; omega
    subst hm
    subst hi
    rw [List.take_length, M.getD_out (Nat.le_refl a.length)] at hv
    have h0 : ((0 : Int)).toNat % 2 = 0 := rfl
    rw [h0, Nat.mul_zero] at hv
    refine ⟨o, ?_, ho, hoi, by omega⟩
    clear hv
    refine Ev.body (by unfold F67L0; rfl) ?_
    simp -implicitDefEqProofs (disch := omega) only [go_sem, ↓reduceIte, reduceCtorEq, Nat.reduceAdd, Nat.reduceSub, Nat.reduceEqDiff, Nat.reduceLeDiff, Nat.reduceBEq]
    exact Ev.ret _
  | succ d ih =>
    intro i hd m hm o ho hoi hv
    subst hm
    have la := lim_getD ha i
    have lb := lim_getD ha (i + 1)
    have ea := limb_ev ha (by clear ih hv; omega) i rfl
    have eb := limb_ev ha (by clear ih hv; omega) (n := (i : Int) + 1) (i + 1) (by omega)
    have va := val_take_step (l := a) i
    generalize a.getD i 0 = x at *
    generalize hyy : a.getD (i + 1) 0 = y at *
    have b0 : 0 ≤ x / 2 + y % 2 * 2147483648 := by clear ih va hv; omega
    have b1 : x / 2 + y % 2 * 2147483648 < 4294967296 := by clear ih va hv; omega
    have hn : 2 * (x / 2 + y % 2 * 2147483648).toNat + x.toNat % 2 = x.toNat + 4294967296 * (y.toNat % 2) := by clear ih va hv; omega
    obtain ⟨o', r1, r2⟩ := ih (i + 1) (by clear ih va hv; omega) ((i : Int) + 1) (by omega) (o ++ [x / 2 + y % 2 * 2147483648]) (by rw [lim_append, lim_cons]; exact ⟨ho, ⟨b0, b1⟩, lim_nil⟩) (by rw [List.length_append, hoi]; rfl) (by
      rw [val_snoc, hoi, va, P_succ, hyy]
      clear ih va la lb b0 b1 ea eb
      generalize (x / 2 + y % 2 * 2147483648).toNat = s at *
      generalize x.toNat % 2 = xm at *
      generalize x.toNat = xx at *
      generalize y.toNat % 2 = ym at *
      generalize (a.getD 0 0).toNat % 2 = z at *
      generalize P i = p at *
      have h9 : p * (2 * s + xm) = p * (xx + 4294967296 * ym) := by rw [hn]
      clear hn
      grind)
    refine ⟨o', ?_, r2⟩
    clear ih va hv r2 hn
    have e1 : x.tdiv 2 = x / 2 := td la.1
    have e2 : y.tmod 2 = y % 2 := tm lb.1
    refine Ev.body (by unfold F67L0; rfl) ?_
    simp -implicitDefEqProofs (disch := omega) only [go_sem, ↓reduceIte, reduceCtorEq, Nat.reduceAdd, Nat.reduceSub, Nat.reduceEqDiff, Nat.reduceLeDiff, Nat.reduceBEq]
    refine Ev.bind ea ?_
    simp -implicitDefEqProofs (disch := omega) only [e1, go_sem, ↓reduceIte, reduceCtorEq, Nat.reduceAdd, Nat.reduceSub, Nat.reduceEqDiff, Nat.reduceLeDiff, Nat.reduceBEq]
    refine Ev.bind eb ?_
    simp -implicitDefEqProofs (disch := omega) only [e2, go_sem, ↓reduceIte, reduceCtorEq, Nat.reduceAdd, Nat.reduceSub, Nat.reduceEqDiff, Nat.reduceLeDiff, Nat.reduceBEq]
    exact Ev.lp (by simp -implicitDefEqProofs (disch := omega) only [F67C0, go_sem, ↓reduceIte, reduceCtorEq, Nat.reduceAdd, Nat.reduceSub, Nat.reduceEqDiff, Nat.reduceLeDiff, Nat.reduceBEq]) r1
theorem rhalf_ev {a : List Int} (ha : Lim a) (sa : a.length ≤ 100000000) : Ev (fun k => (lvl tab ext k).call 67 [(.pv (.ints .u32 (a)))]) [(.own (.ints .u32 (ofN (val a / 2))))] := by
  obtain ⟨o', r1, r2, r3, r4⟩ := rhalf_loop ha sa a.length 0 (by omega) 0 rfl [] lim_nil rfl (by simp [val, P_zero])
  rw [← r4]
  clear r4
  refine Ev.call rfl tab67 ?_
  simp -implicitDefEqProofs (disch := omega) only [F67, go_sem, ↓reduceIte, reduceCtorEq, Nat.reduceAdd, Nat.reduceSub, Nat.reduceEqDiff, Nat.reduceLeDiff, Nat.reduceBEq]
  refine Ev.bind (Ev.lp (by simp -implicitDefEqProofs (disch := omega) only [F67C0, go_sem, ↓reduceIte, reduceCtorEq, Nat.reduceAdd, Nat.reduceSub, Nat.reduceEqDiff, Nat.reduceLeDiff, Nat.reduceBEq]) r1) ?_
  simp -implicitDefEqProofs (disch := omega) only [go_sem, ↓reduceIte, reduceCtorEq, Nat.reduceAdd, Nat.reduceSub, Nat.reduceEqDiff, Nat.reduceLeDiff, Nat.reduceBEq]
  refine Ev.bind (rnorm_ev r2 (by omega)) ?_
  simp -implicitDefEqProofs (disch := omega) only [go_sem, ↓reduceIte, reduceCtorEq, Nat.reduceAdd, Nat.reduceSub, Nat.reduceEqDiff, Nat.reduceLeDiff, Nat.reduceBEq]
  exact Ev.ret _
end Go.Proofs.Ytkeipmkiilimeaa.V
set_option linter.unusedSimpArgs false
set_option linter.unusedVariables false
namespace Go.Proofs.Ytkeipmkiilimeaa.V
open Go Go.Proofs.Ytkeipmkiilimeaa.M
theorem rdm_loop {α β n : Nat} (hβ : β ≠ 0) (sa : (ofN α).length ≤ 10000000) (sp : ∀ j, j ≤ n → (ofN (β * 2 ^ j)).length ≤ 10000000) (hn : n ≤ 3200000000) : ∀ i, i ≤ n + 1 → ∀ m : Int, m = (i : Int) - 1 → ∀ x9 part : List Int, Lim x9 → x9.length = n / 32 + 1 → val x9 = α / (β * 2 ^ i) * 2 ^ i → (0 < i → part = ofN (β * 2 ^ (i - 1))) →
    ∃ x9' part' : List Int, Ev (fun k => run (lvl tab ext k) F41C0 F41L0 ⟨mk [(7, (.pv (.ints .u32 (ofN (α % (β * 2 ^ i)))))), (9, .row 9 none), (10, (.pv (.ints .u32 (part)))), (11, (.pv (.int .i64 (m))))], hp [(9, (.row (.ints .u32 (x9)) true))]⟩) (.exit 0, ⟨mk [(7, (.pv (.ints .u32 (ofN (α % β))))), (9, .row 9 none), (10, (.pv (.ints .u32 (part')))), (11, (.pv (.int .i64 (-1)))), (36, (.pv (.bool (false))))], hp [(9, (.row (.ints .u32 (x9')) true))]⟩) ∧ Lim x9' ∧ x9'.length = n / 32 + 1 ∧ val x9' = α / β := by
  intro i
  induction i with
  | zero =>
    intro hi m hm x9 part h9 hl hv _
    have hm : m = -1 := by omega
    subst hm
    simp only [Nat.pow_zero, Nat.mul_one, Nat.div_one] at hv ⊢
    refine ⟨x9, part, ?_, h9, hl, hv⟩
    clear hv
    refine Ev.body (by unfold F41L0; rfl) ?_
    simp -implicitDefEqProofs (disch := omega) only [go_sem, ↓reduceIte, reduceCtorEq, Nat.reduceAdd, Nat.reduceSub, Nat.reduceEqDiff, Nat.reduceLeDiff, Nat.reduceBEq]
    exact Ev.ret _
  | succ i ih =>
    intro hi m hm x9 part h9 hl hv hp
    have hm : m = (i : Int) := by clear hv ih; omega
    subst hm
    have hp := hp (Nat.succ_pos _)
    rw [Nat.add_sub_cancel] at hp
    subst hp
    have hj9 : i / 32 < x9.length := by clear hv ih; omega
    have ht : i % 32 < 32 := by clear hv ih; omega
    have l9 := lim_getD h9 (i / 32)
    have hmath := rdm_math α β i (Nat.pos_of_ne_zero hβ)
    have hm0 : α % (β * 2 ^ (i + 1)) ≤ α := Nat.mod_le _ _
    have sA := Nat.le_trans (len_mono hm0) sa
    have sB := sp i (by clear hv ih; omega)
    have hS := rsub_ev (lim_ofN (α % (β * 2 ^ (i + 1)))) (lim_ofN (β * 2 ^ i)) (Nat.le_trans sA (by decide)) (Nat.le_trans sB (by decide))
    rw [val_ofN, val_ofN] at hS
    have hH := rhalf_ev (lim_ofN (β * 2 ^ i)) (Nat.le_trans sB (by decide))
    rw [val_ofN] at hH
    have hnext : 0 < i → ofN (β * 2 ^ i / 2) = ofN (β * 2 ^ (i - 1)) := by
      intro hi0
      obtain ⟨m, rfl⟩ : ∃ m, i = m + 1 := ⟨i - 1, by clear hv ih; omega⟩
      rw [Nat.add_sub_cancel, Nat.pow_succ, ← Nat.mul_assoc, Nat.mul_div_cancel _ (by decide)]
    have hi2 : i ≤ n + 1 := Nat.le_of_succ_le hi
    by_cases hlt : α % (β * 2 ^ (i + 1)) < β * 2 ^ i
    · obtain ⟨hq, hm⟩ := hmath.2 hlt
      obtain ⟨x9', p', q1, q2⟩ := ih hi2 ((i : Int) - 1) rfl x9 (ofN (β * 2 ^ i / 2)) h9 hl (by
        rw [hv, hq, Nat.pow_succ]
        generalize α / (β * 2 ^ (i + 1)) = q at *
        clear ih hmath hm hS hH hnext hm0 hq sA sB
        grind) hnext
      refine ⟨x9', p', ?_, q2⟩
      rw [decide_eq_false (by omega)] at hS
      rw [hm] at q1
      clear ih hmath hv hnext q2 hq hm0 sp
      generalize α % (β * 2 ^ (i + 1)) = ρ at *
      generalize β * 2 ^ i = σ at *
      refine Ev.body (by unfold F41L0; rfl) ?_
      simp -implicitDefEqProofs (disch := omega) only [go_sem, ↓reduceIte, reduceCtorEq, Nat.reduceAdd, Nat.reduceSub, Nat.reduceEqDiff, Nat.reduceLeDiff, Nat.reduceBEq]
      refine Ev.bind hS ?_
      simp -implicitDefEqProofs (disch := omega) only [go_sem, ↓reduceIte, reduceCtorEq, Nat.reduceAdd, Nat.reduceSub, Nat.reduceEqDiff, Nat.reduceLeDiff, Nat.reduceBEq]
      refine Ev.bind hH ?_
      simp -implicitDefEqProofs (disch := omega) only [go_sem, ↓reduceIte, reduceCtorEq, Nat.reduceAdd, Nat.reduceSub, Nat.reduceEqDiff, Nat.reduceLeDiff, Nat.reduceBEq]
      exact Ev.lp (by simp -implicitDefEqProofs (disch := omega) only [F41C0, go_sem, ↓reduceIte, reduceCtorEq, Nat.reduceAdd, Nat.reduceSub, Nat.reduceEqDiff, Nat.reduceLeDiff, Nat.reduceBEq]) q1
    · obtain ⟨hq, hm⟩ := hmath.1 (Nat.le_of_not_lt hlt)
      have hroom := bit_room h9 hv
      have h1 : (x9.getD (i / 32) 0).toNat < 4294967296 := by clear hv ih hmath; omega
      have hfit : (x9.getD (i / 32) 0).toNat + 2 ^ (i % 32) < 4294967296 := by
        have h2 : 2 ^ (i % 32) < 2 ^ (i % 32 + 1) := Nat.pow_lt_pow_right (by decide) (by clear hv ih; omega)
        obtain ⟨y, hy⟩ := Nat.dvd_of_mod_eq_zero hroom
        have e2 : (4294967296 : Nat) = 2 ^ (i % 32 + 1) * 2 ^ (31 - i % 32) := by
          have : (4294967296 : Nat) = 2 ^ 32 := rfl
          rw [this, ← Nat.pow_add]; congr 1; clear hv ih; omega
        rw [hy, e2] at h1 ⊢
        have h3 : y < 2 ^ (31 - i % 32) := Nat.lt_of_mul_lt_mul_left h1
        have h4 : 2 ^ (i % 32 + 1) * (y + 1) ≤ 2 ^ (i % 32 + 1) * 2 ^ (31 - i % 32) := Nat.mul_le_mul_left _ h3
        rw [Nat.mul_add, Nat.mul_one] at h4
        clear hv ih hmath hq hm hroom h1 h3 hy e2 hS hH hnext hm0 sA sB
        omega
      obtain ⟨x9', p', q1, q2⟩ := ih hi2 ((i : Int) - 1) rfl (x9.set (i / 32) (((x9.getD (i / 32) 0).toNat + 2 ^ (i % 32) : Nat) : Int)) (ofN (β * 2 ^ i / 2)) (lim_set h9 _ (Int.natCast_nonneg _) (Int.ofNat_lt.2 hfit)) (by rw [List.length_set, hl]) (by
        have hvs := val_set hj9 (((x9.getD (i / 32) 0).toNat + 2 ^ (i % 32) : Nat) : Int)
        rw [Int.toNat_natCast, Nat.mul_add, ← pow_split, hv] at hvs
        rw [hq]
        clear ih hmath hroom hfit hm hS hH hnext hm0 hq
        generalize α / (β * 2 ^ (i + 1)) = q at *
        generalize val (x9.set (i / 32) (((x9.getD (i / 32) 0).toNat + 2 ^ (i % 32) : Nat) : Int)) = v at *
        rw [Nat.pow_succ] at hvs
        generalize P (i / 32) * (x9.getD (i / 32) 0).toNat = z at *
        generalize 2 ^ i = u at *
        clear hv h9 l9 hj9 sp hlt sA sB
        grind) hnext
      refine ⟨x9', p', ?_, q2⟩
      rw [decide_eq_true (by omega)] at hS
      rw [hm] at q1
      have hsh := shl_one ht
      have esum : x9.getD (i / 32) 0 + shlI .u32 1 ((i % 32 : Nat) : Int) = (((x9.getD (i / 32) 0).toNat + 2 ^ (i % 32) : Nat) : Int) := by
        rw [hsh]
        generalize 2 ^ (i % 32) = z at *
        clear hv ih hmath hq hm hroom hS hH hnext hm0
        omega
      have eb : (((x9.getD (i / 32) 0).toNat + 2 ^ (i % 32) : Nat) : Int) < 4294967296 := Int.ofNat_lt.2 hfit
      have ec : 0 ≤ (((x9.getD (i / 32) 0).toNat + 2 ^ (i % 32) : Nat) : Int) := Int.natCast_nonneg _
      generalize hS9 : (((x9.getD (i / 32) 0).toNat + 2 ^ (i % 32) : Nat) : Int) = S at *
      clear ih hmath hv hnext q2 hq hm0 sp hroom hfit hsh h1 hlt hm
      generalize α % (β * 2 ^ (i + 1)) = ρ at *
      generalize β * 2 ^ i = σ at *
      refine Ev.body (by unfold F41L0; rfl) ?_
      simp -implicitDefEqProofs (disch := omega) only [go_sem, ↓reduceIte, reduceCtorEq, Nat.reduceAdd, Nat.reduceSub, Nat.reduceEqDiff, Nat.reduceLeDiff, Nat.reduceBEq]
      refine Ev.bind hS ?_
      simp -implicitDefEqProofs (disch := omega) only [tdiv32, tmod32, esum, go_sem, ↓reduceIte, reduceCtorEq, Nat.reduceAdd, Nat.reduceSub, Nat.reduceEqDiff, Nat.reduceLeDiff, Nat.reduceBEq]
      refine Ev.bind hH ?_
      simp -implicitDefEqProofs (disch := omega) only [go_sem, ↓reduceIte, reduceCtorEq, Nat.reduceAdd, Nat.reduceSub, Nat.reduceEqDiff, Nat.reduceLeDiff, Nat.reduceBEq]
      exact Ev.lp (by simp -implicitDefEqProofs (disch := omega) only [F41C0, go_sem, ↓reduceIte, reduceCtorEq, Nat.reduceAdd, Nat.reduceSub, Nat.reduceEqDiff, Nat.reduceLeDiff, Nat.reduceBEq]) q1
theorem rdivmod_ev {a b : List Int} (ha : Lim a) (hb : Lim b) (sa : a.length ≤ 10000000) (sb : b.length ≤ 10000000) (h0 : val b ≠ 0) :
    Ev (fun k => (lvl tab ext k).call 41 [(.pv (.ints .u32 (a))), (.pv (.ints .u32 (b)))]) [(.pv (.ints .u32 (ofN (val a / val b)))), (.pv (.ints .u32 (ofN (val a % val b)))), (.pv (.bool (true)))] := by
  have h1 := len_val_le ha
  have h2 := len_val_le hb
  have hBb := rbits_ev hb (by omega)
  have hBa := rbits_ev (lim_ofN (val a)) (by omega)
  have hN := rnorm_ev ha (by omega)
  rw [val_ofN] at hBa
  have hb0 : ((blen (val b) : Nat) : Int) ≠ 0 := by rw [blen_pos h0]; omega
  have la := blen_len (n := val a)
  have lb := blen_len (n := val b)
  by_cases hlt : blen (val a) < blen (val b)
  · have : val a < val b := by
      have h3 := lt_blen (val a)
      have h4 := blen_le h0
      have h5 : 2 ^ blen (val a) ≤ 2 ^ (blen (val b) - 1) := Nat.pow_le_pow_right (by decide) (by omega)
      omega
    rw [Nat.div_eq_of_lt this, Nat.mod_eq_of_lt this, ofN_zero]
    refine Ev.call rfl tab41 ?_
    simp -implicitDefEqProofs (disch := omega) only [F41, go_sem, ↓reduceIte, reduceCtorEq, Nat.reduceAdd, Nat.reduceSub, Nat.reduceEqDiff, Nat.reduceLeDiff, Nat.reduceBEq]
    refine Ev.bind hBb ?_
    simp -implicitDefEqProofs (disch := omega) only [go_sem, ↓reduceIte, reduceCtorEq, Nat.reduceAdd, Nat.reduceSub, Nat.reduceEqDiff, Nat.reduceLeDiff, Nat.reduceBEq]
    refine Ev.bind hN ?_
    simp -implicitDefEqProofs (disch := omega) only [go_sem, ↓reduceIte, reduceCtorEq, Nat.reduceAdd, Nat.reduceSub, Nat.reduceEqDiff, Nat.reduceLeDiff, Nat.reduceBEq]
    refine Ev.bind hBa ?_
    simp -implicitDefEqProofs (disch := omega) only [go_sem, ↓reduceIte, reduceCtorEq, Nat.reduceAdd, Nat.reduceSub, Nat.reduceEqDiff, Nat.reduceLeDiff, Nat.reduceBEq]
    refine Ev.bind hBb ?_
    simp -implicitDefEqProofs (disch := omega) only [go_sem, ↓reduceIte, reduceCtorEq, Nat.reduceAdd, Nat.reduceSub, Nat.reduceEqDiff, Nat.reduceLeDiff, Nat.reduceBEq]
    exact Ev.ret _
  · obtain ⟨n, hn⟩ := Nat.exists_eq_add_of_le (Nat.le_of_not_lt hlt)
    have e1 : ((blen (val a) : Nat) : Int) - ((blen (val b) : Nat) : Int) = (n : Int) := by rw [hn]; omega
    have hnn : n ≤ 320000000 := by omega
    have hsh := rshift_ev hb (by omega) (n := n) (by omega)
    have hbig : ∀ j, j ≤ n → (ofN (val b * 2 ^ j)).length ≤ (ofN (val a)).length := by
      intro j hj
      apply len_ofN_le
      rw [P_two]
      have h3 := lt_blen (val b)
      have h4 : val b * 2 ^ j < 2 ^ blen (val b) * 2 ^ j := Nat.mul_lt_mul_of_pos_right h3 (Nat.pow_pos (by decide))
      rw [← Nat.pow_add] at h4
      exact Nat.lt_of_lt_of_le h4 (Nat.pow_le_pow_right (by decide) (by omega))
    have ha2 : val a < val b * 2 ^ (n + 1) := by
      have h3 := lt_blen (val a)
      have h4 := blen_le h0
      have h5 := Nat.mul_le_mul_right (2 ^ (n + 1)) h4
      rw [← Nat.pow_add] at h5
      have h6 : blen (val b) ≠ 0 := by omega
      rw [show blen (val b) - 1 + (n + 1) = blen (val a) by omega] at h5
      omega
    obtain ⟨x9', p', q1, q2, q3, q4⟩ := rdm_loop (α := val a) (n := n) h0 (by omega) (fun j hj => Nat.le_trans (hbig j hj) (by omega)) (by omega) (n + 1) (Nat.le_refl _) (n : Int) (by omega) (List.replicate (n / 32 + 1) 0) (ofN (val b * 2 ^ n)) (lim_rep _) (by simp) (by rw [val_rep, Nat.div_eq_of_lt ha2]; simp) (fun _ => rfl)
    rw [Nat.mod_eq_of_lt ha2] at q1
    have hN9 := rnorm_ev q2 (by omega)
    rw [q4] at hN9
    have e3 : (((n / 32 : Nat) : Int) + 1).toNat = n / 32 + 1 := by omega
    clear ha2 hbig
    generalize val a / val b = Q at *
    generalize val a % val b = R at *
    refine Ev.call rfl tab41 ?_
    simp -implicitDefEqProofs (disch := omega) only [F41, go_sem, ↓reduceIte, reduceCtorEq, Nat.reduceAdd, Nat.reduceSub, Nat.reduceEqDiff, Nat.reduceLeDiff, Nat.reduceBEq]
    refine Ev.bind hBb ?_
    simp -implicitDefEqProofs (disch := omega) only [go_sem, ↓reduceIte, reduceCtorEq, Nat.reduceAdd, Nat.reduceSub, Nat.reduceEqDiff, Nat.reduceLeDiff, Nat.reduceBEq]
    refine Ev.bind hN ?_
    simp -implicitDefEqProofs (disch := omega) only [go_sem, ↓reduceIte, reduceCtorEq, Nat.reduceAdd, Nat.reduceSub, Nat.reduceEqDiff, Nat.reduceLeDiff, Nat.reduceBEq]
    refine Ev.bind hBa ?_
    simp -implicitDefEqProofs (disch := omega) only [go_sem, ↓reduceIte, reduceCtorEq, Nat.reduceAdd, Nat.reduceSub, Nat.reduceEqDiff, Nat.reduceLeDiff, Nat.reduceBEq]
    refine Ev.bind hBb ?_
    simp -implicitDefEqProofs (disch := omega) only [e1, tdiv32, e3, go_sem, ↓reduceIte, reduceCtorEq, Nat.reduceAdd, Nat.reduceSub, Nat.reduceEqDiff, Nat.reduceLeDiff, Nat.reduceBEq]
    refine Ev.bind hsh ?_
    simp -implicitDefEqProofs (disch := omega) only [go_sem, ↓reduceIte, reduceCtorEq, Nat.reduceAdd, Nat.reduceSub, Nat.reduceEqDiff, Nat.reduceLeDiff, Nat.reduceBEq]
    refine Ev.bind (Ev.lp (by simp -implicitDefEqProofs (disch := omega) only [F41C0, go_sem, ↓reduceIte, reduceCtorEq, Nat.reduceAdd, Nat.reduceSub, Nat.reduceEqDiff, Nat.reduceLeDiff, Nat.reduceBEq]) q1) ?_
    simp -implicitDefEqProofs (disch := omega) only [go_sem, ↓reduceIte, reduceCtorEq, Nat.reduceAdd, Nat.reduceSub, Nat.reduceEqDiff, Nat.reduceLeDiff, Nat.reduceBEq]
    refine Ev.bind hN9 ?_
    simp -implicitDefEqProofs (disch := omega) only [go_sem, ↓reduceIte, reduceCtorEq, Nat.reduceAdd, Nat.reduceSub, Nat.reduceEqDiff, Nat.reduceLeDiff, Nat.reduceBEq]
    exact Ev.ret _
theorem rdivmod0_ev {a b : List Int} (ha : Lim a) (hb : Lim b) (sb : b.length ≤ 10000000) (h0 : val b = 0) :
    Ev (fun k => (lvl tab ext k).call 41 [(.pv (.ints .u32 (a))), (.pv (.ints .u32 (b)))]) [(.pv (.ints .u32 ([]))), (.pv (.ints .u32 ([]))), (.pv (.bool (false)))] := by
  have hBb := rbits_ev hb (by omega)
  rw [h0, blen_zero] at hBb
  refine Ev.call rfl tab41 ?_
  simp -implicitDefEqProofs (disch := omega) only [F41, go_sem, ↓reduceIte, reduceCtorEq, Nat.reduceAdd, Nat.reduceSub, Nat.reduceEqDiff, Nat.reduceLeDiff, Nat.reduceBEq]
  refine Ev.bind hBb ?_
  simp -implicitDefEqProofs (disch := omega) only [go_sem, ↓reduceIte, reduceCtorEq, Nat.reduceAdd, Nat.reduceSub, Nat.reduceEqDiff, Nat.reduceLeDiff, Nat.reduceBEq]
  exact Ev.ret _
end Go.Proofs.Ytkeipmkiilimeaa.V
set_option linter.unusedSimpArgs false
set_option linter.unusedVariables false
namespace Go.Proofs.Ytkeipmkiilimeaa.V
open Go Go.Proofs.Ytkeipmkiilimeaa.M
theorem rsmall_loop {a : List Int} (ha : Lim a) (sa : a.length ≤ 100000000) {d : Nat} (d0 : 0 < d) (d1 : d < 4294967296) : ∀ i, i ≤ a.length → ∀ n : Int, n = (i : Int) - 1 → ∀ (o : List Int) (c : Nat), Lim o → o.length = a.length → c < d → (∀ j, j < i → o.getD j 0 = 0) →
    d * val o + P i * c + val (a.take i) = val a →
    ∃ o' : List Int, Ev (fun k => run (lvl tab ext k) F72C0 F72L0 ⟨mk [(0, (.pv (.ints .u32 (a)))), (1, (.pv (.int .u64 ((d : Int))))), (6, .row 6 none), (7, (.pv (.int .u64 ((c : Int))))), (8, (.pv (.int .i64 (n))))], hp [(6, (.row (.ints .u32 (o)) true))]⟩)
      (.exit 0, ⟨mk [(0, (.pv (.ints .u32 (a)))), (1, (.pv (.int .u64 ((d : Int))))), (6, .row 6 none), (7, (.pv (.int .u64 (((val a % d : Nat) : Int))))), (8, (.pv (.int .i64 (-1)))), (17, (.pv (.bool (false))))], hp [(6, (.row (.ints .u32 (o')) true))]⟩) ∧ Lim o' ∧ o'.length = a.length ∧ val o' = val a / d := by
  intro i
  induction i with
  | zero =>
    intro hi n hn o c ho hol hc _ hv
    have hn : n = -1 := by omega
    subst hn
    have hv2 : d * val o + c = val a := by simpa [val, P_zero] using hv
    have hm : val a / d = val o ∧ val a % d = c := (Nat.div_mod_unique d0).2 ⟨by rw [Nat.add_comm]; exact hv2, hc⟩
    rw [hm.2]
    refine ⟨o, ?_, ho, hol, hm.1.symm⟩
    clear hm hv hv2
    refine Ev.body (by unfold F72L0; rfl) ?_
    simp -implicitDefEqProofs (disch := omega) only [go_sem, ↓reduceIte, reduceCtorEq, Nat.reduceAdd, Nat.reduceSub, Nat.reduceEqDiff, Nat.reduceLeDiff, Nat.reduceBEq]
    exact Ev.ret _
  | succ i ih =>
    intro hi n hn o c ho hol hc hz hv
    have hn : n = (i : Int) := by clear hv hz ih; omega
    subst hn
    have la := lim_getD ha i
    have ea := limb_ev ha (by clear hv hz ih; omega) i rfl
    have hlt : i < o.length := by clear hv hz ih; omega
    have va := val_take_succ (l := a) (i := i) hi
    generalize hx : a.getD i 0 = x at *
    obtain ⟨y, rfl⟩ := Int.eq_ofNat_of_zero_le la.1
    have hy : y < 4294967296 := Int.ofNat_lt.1 la.2
    have hT : c * 4294967296 + y < d * 4294967296 := by clear hv hz ih va; omega
    have hT2 : c * 4294967296 + y < 18446744073709551616 := by clear hv hz ih va; omega
    have eT : (c : Int) * 4294967296 + (y : Int) = ((c * 4294967296 + y : Nat) : Int) := by omega
    generalize hTT : c * 4294967296 + y = T at *
    have hq : T / d < 4294967296 := (Nat.div_lt_iff_lt_mul d0).2 (by rw [Nat.mul_comm]; exact hT)
    have t1 : Int.tdiv (T : Int) (d : Int) = ((T / d : Nat) : Int) := by rw [Int.tdiv_eq_ediv_of_nonneg (Int.natCast_nonneg _)]; rfl
    have t2 : Int.tmod (T : Int) (d : Int) = ((T % d : Nat) : Int) := by rw [Int.tmod_eq_emod_of_nonneg (Int.natCast_nonneg _)]; rfl
    obtain ⟨o', r1, r2⟩ := ih (Nat.le_of_succ_le hi) ((i : Int) - 1) rfl (o.set i ((T / d : Nat) : Int)) (T % d) (lim_set ho _ (Int.natCast_nonneg _) (Int.ofNat_lt.2 hq)) (by rw [List.length_set, hol]) (Nat.mod_lt _ d0)
      (fun j hj => (M.getD_set_ne (Nat.ne_of_gt hj)).trans (hz j (Nat.lt_succ_of_lt hj))) (by
      have hs := val_set hlt ((T / d : Nat) : Int)
      rw [hz i (Nat.lt_succ_self _), Int.toNat_natCast] at hs
      have hdm := Nat.div_add_mod T d
      have h0 : ((0 : Int)).toNat = 0 := rfl
      rw [h0, Nat.mul_zero, Nat.add_zero] at hs
      rw [hs, ← hv, va, Int.toNat_natCast, P_succ]
      clear ih hz va hs hv t1 t2 la hx ea eT
      generalize T / d = q at *
      generalize T % d = m at *
      generalize val (a.take i) = A at *
      generalize P i = p at *
      have h9 : p * (d * q + m) = p * (c * 4294967296 + y) := by rw [hdm, hTT]
      clear hdm hTT hT hq hT2
      grind)
    refine ⟨o', ?_, r2⟩
    have hm := Nat.mod_lt T d0
    clear ih hz va hv r2
    generalize T / d = q at *
    generalize T % d = m at *
    refine Ev.body (by unfold F72L0; rfl) ?_
    simp -implicitDefEqProofs (disch := omega) only [go_sem, ↓reduceIte, reduceCtorEq, Nat.reduceAdd, Nat.reduceSub, Nat.reduceEqDiff, Nat.reduceLeDiff, Nat.reduceBEq]
    refine Ev.bind ea ?_
    simp -implicitDefEqProofs (disch := omega) only [eT, t1, t2, go_sem, ↓reduceIte, reduceCtorEq, Nat.reduceAdd, Nat.reduceSub, Nat.reduceEqDiff, Nat.reduceLeDiff, Nat.reduceBEq]
    exact Ev.lp (by simp -implicitDefEqProofs (disch := omega) only [F72C0, go_sem, ↓reduceIte, reduceCtorEq, Nat.reduceAdd, Nat.reduceSub, Nat.reduceEqDiff, Nat.reduceLeDiff, Nat.reduceBEq]) r1
theorem rsmall_ev {a : List Int} (ha : Lim a) (sa : a.length ≤ 100000000) {d : Nat} (d0 : 0 < d) (d1 : d < 4294967296) {D : Int} (hD : D = d) : Ev (fun k => (lvl tab ext k).call 72 [(.pv (.ints .u32 (a))), (.pv (.int .u64 (D)))]) [(.pv (.ints .u32 (ofN (val a / d)))), (.pv (.int .u64 (((val a % d : Nat) : Int))))] := by
  subst hD
  obtain ⟨o', r1, r2, r3, r4⟩ := rsmall_loop ha sa d0 d1 a.length (Nat.le_refl _) _ rfl (List.replicate a.length 0) 0 (lim_rep _) (by simp) d0 (fun j _ => getD_rep _ _) (by rw [val_rep]; simp)
  rw [← r4]
  clear r4
  rw [Int.natCast_zero] at r1
  generalize val a % d = m at *
  refine Ev.call rfl tab72 ?_
  simp -implicitDefEqProofs (disch := omega) only [F72, go_sem, ↓reduceIte, reduceCtorEq, Nat.reduceAdd, Nat.reduceSub, Nat.reduceEqDiff, Nat.reduceLeDiff, Nat.reduceBEq]
  refine Ev.bind (Ev.lp (by simp -implicitDefEqProofs (disch := omega) only [F72C0, go_sem, ↓reduceIte, reduceCtorEq, Nat.reduceAdd, Nat.reduceSub, Nat.reduceEqDiff, Nat.reduceLeDiff, Nat.reduceBEq]) r1) ?_
  simp -implicitDefEqProofs (disch := omega) only [go_sem, ↓reduceIte, reduceCtorEq, Nat.reduceAdd, Nat.reduceSub, Nat.reduceEqDiff, Nat.reduceLeDiff, Nat.reduceBEq]
  refine Ev.bind (rnorm_ev r2 (by omega)) ?_
  simp -implicitDefEqProofs (disch := omega) only [go_sem, ↓reduceIte, reduceCtorEq, Nat.reduceAdd, Nat.reduceSub, Nat.reduceEqDiff, Nat.reduceLeDiff, Nat.reduceBEq]
  exact Ev.ret _
theorem textOf_cons (x : Int) (l : List Int) : textOf [x] ++ textOf l = textOf (x :: l) := rfl
theorem rtext_loop : ∀ n : Nat, (ofN n).length ≤ 10000000 → ∀ acc : List Int, acc.length + (rdigs n).length ≤ 1000000000 → Ev (fun k => run (lvl tab ext k) F55C0 F55L0 ⟨mk [(3, (.pv (.str (textOf acc)))), (4, (.pv (.ints .u32 (ofN n))))], hp []⟩) (.exit 0, ⟨mk [(3, (.pv (.str (textOf (digs n ++ acc))))), (4, (.pv (.ints .u32 ([])))), (11, (.pv (.bool (false))))], hp []⟩) := by
  intro n
  induction n using Nat.strongRecOn with
  | _ n ih =>
    intro hs acc ho
    by_cases h0 : n = 0
    · subst h0
      rw [ofN_zero, digs_zero, List.nil_append]
      refine Ev.body (by unfold F55L0; rfl) ?_
      simp -implicitDefEqProofs (disch := omega) only [go_sem, ↓reduceIte, reduceCtorEq, Nat.reduceAdd, Nat.reduceSub, Nat.reduceEqDiff, Nat.reduceLeDiff, Nat.reduceBEq]
      exact Ev.ret _
    · have hp : 0 < (ofN n).length := ofN_length_pos.2 (by omega)
      have hsm := rsmall_ev (lim_ofN n) (by omega) (d := 10) (by decide) (by decide) (D := 10) rfl
      rw [val_ofN] at hsm
      rw [rdigs_pos h0, List.length_cons] at ho
      have r := ih (n / 10) (by omega) (Nat.le_trans (len_mono (Nat.div_le_self _ _)) hs) (((48 + n % 10 : Nat) : Int) :: acc) (by rw [List.length_cons]; omega)
      rw [digs_pos h0, List.append_assoc]
      have e : ((48 : Int) + ((n % 10 : Nat) : Int)) = ((48 + n % 10 : Nat) : Int) := by omega
      have hb : (textOf [((48 + n % 10 : Nat) : Int)]).length + (textOf acc).length < 4294967296 := by rw [textOf_length, textOf_length, List.length_cons, List.length_nil]; omega
      have hm : n % 10 < 10 := Nat.mod_lt _ (by decide)
      clear ih
      refine Ev.body (by unfold F55L0; rfl) ?_
      simp -implicitDefEqProofs (disch := omega) only [go_sem, ↓reduceIte, reduceCtorEq, Nat.reduceAdd, Nat.reduceSub, Nat.reduceEqDiff, Nat.reduceLeDiff, Nat.reduceBEq]
      refine Ev.bind hsm ?_
      simp -implicitDefEqProofs (disch := omega) only [e, textOf_cons, textOf_length, go_sem, ↓reduceIte, reduceCtorEq, Nat.reduceAdd, Nat.reduceSub, Nat.reduceEqDiff, Nat.reduceLeDiff, Nat.reduceBEq]
      exact Ev.lp (by simp -implicitDefEqProofs (disch := omega) only [F55C0, go_sem, ↓reduceIte, reduceCtorEq, Nat.reduceAdd, Nat.reduceSub, Nat.reduceEqDiff, Nat.reduceLeDiff, Nat.reduceBEq]) r
theorem textOf_nil : textOf [] = [] := rfl
theorem rtext_ev {l : List Int} (hl : Lim l) (sl : l.length ≤ 10000000) : Ev (fun k => (lvl tab ext k).call 55 [(.pv (.ints .u32 (l)))]) [(.pv (.str (textN (val l))))] := by
  have h1 := len_val_le hl
  have hn := rnorm_ev hl (by omega)
  generalize val l = n at *
  have hd := rdigs_len n
  have r := rtext_loop n (by omega) [] (by rw [List.length_nil]; omega)
  rw [textOf_nil, List.append_nil] at r
  unfold textN textI
  by_cases h0 : n = 0
  · subst h0
    rw [digs_zero, textOf_nil] at r
    rw [if_pos rfl]
    refine Ev.call rfl tab55 ?_
    simp -implicitDefEqProofs (disch := omega) only [F55, go_sem, ↓reduceIte, reduceCtorEq, Nat.reduceAdd, Nat.reduceSub, Nat.reduceEqDiff, Nat.reduceLeDiff, Nat.reduceBEq]
    refine Ev.bind hn ?_
    simp -implicitDefEqProofs (disch := omega) only [go_sem, ↓reduceIte, reduceCtorEq, Nat.reduceAdd, Nat.reduceSub, Nat.reduceEqDiff, Nat.reduceLeDiff, Nat.reduceBEq]
    refine Ev.bind (Ev.lp (by simp -implicitDefEqProofs (disch := omega) only [F55C0, go_sem, ↓reduceIte, reduceCtorEq, Nat.reduceAdd, Nat.reduceSub, Nat.reduceEqDiff, Nat.reduceLeDiff, Nat.reduceBEq]) r) ?_
    simp -implicitDefEqProofs (disch := omega) only [go_sem, ↓reduceIte, reduceCtorEq, Nat.reduceAdd, Nat.reduceSub, Nat.reduceEqDiff, Nat.reduceLeDiff, Nat.reduceBEq]
    exact Ev.ret _
  · have hp := digs_ne h0
    have hne : (textOf (digs n) = []) = False := ff (fun h => by have := congrArg List.length h; rw [textOf_length] at this; simp at this; rw [this] at hp; exact absurd hp (by decide))
    rw [if_neg h0]
    refine Ev.call rfl tab55 ?_
    simp -implicitDefEqProofs (disch := omega) only [F55, go_sem, ↓reduceIte, reduceCtorEq, Nat.reduceAdd, Nat.reduceSub, Nat.reduceEqDiff, Nat.reduceLeDiff, Nat.reduceBEq]
    refine Ev.bind hn ?_
    simp -implicitDefEqProofs (disch := omega) only [go_sem, ↓reduceIte, reduceCtorEq, Nat.reduceAdd, Nat.reduceSub, Nat.reduceEqDiff, Nat.reduceLeDiff, Nat.reduceBEq]
    refine Ev.bind (Ev.lp (by simp -implicitDefEqProofs (disch := omega) only [F55C0, go_sem, ↓reduceIte, reduceCtorEq, Nat.reduceAdd, Nat.reduceSub, Nat.reduceEqDiff, Nat.reduceLeDiff, Nat.reduceBEq]) r) ?_
    simp -implicitDefEqProofs (disch := omega) only [hne, go_sem, ↓reduceIte, reduceCtorEq, Nat.reduceAdd, Nat.reduceSub, Nat.reduceEqDiff, Nat.reduceLeDiff, Nat.reduceBEq]
    exact Ev.ret _
theorem rdigits_loop {s : List UInt8} (hs : s.length ≤ 100000) : ∀ d i, d + i = s.length → ∀ n : Int, n = i → (∀ j, j < i → dg s j) →
    ((∀ j, j < s.length → dg s j) → Ev (fun k => run (lvl tab ext k) F70C0 F70L0 ⟨mk [(0, (.pv (.str (s)))), (3, (.pv (.int .i64 (n))))], hp []⟩) (.exit 0, ⟨mk [(0, (.pv (.str (s)))), (3, (.pv (.int .i64 ((s.length : Int))))), (7, (.pv (.bool (false))))], hp []⟩)) ∧
    ((¬ ∀ j, j < s.length → dg s j) → Ev (fun k => run (lvl tab ext k) F70C0 F70L0 ⟨mk [(0, (.pv (.str (s)))), (3, (.pv (.int .i64 (n))))], hp []⟩) (.ret, ⟨mk [(2, (.pv (.bool (false))))], hp []⟩)) := by
  intro d
  induction d with
  | zero =>
    intro i hd n hn hj
    have : i = s.length := by omega
    subst this
    subst hn
    refine ⟨fun _ => ?_, fun h => absurd hj h⟩
    clear hj
    refine Ev.body (by unfold F70L0; rfl) ?_
    simp -implicitDefEqProofs (disch := omega) only [go_sem, ↓reduceIte, reduceCtorEq, Nat.reduceAdd, Nat.reduceSub, Nat.reduceEqDiff, Nat.reduceLeDiff, Nat.reduceBEq]
    exact Ev.ret _
  | succ d ih =>
    intro i hd n hn hj
    subst hn
    have hi : i < s.length := by omega
    have eb : ((s.getD i 0).toNat : Int) = bt s i := rfl
    by_cases h : dg s i
    · have ih := ih (i + 1) (by omega) ((i : Int) + 1) (by omega) (fun j hjj => by
        by_cases e : j = i
        · subst e; exact h
        · exact hj j (by omega))
      unfold dg at h
      clear hj
      generalize bt s i = b at *
      refine ih.imp (fun f g => ?_) (fun f g => ?_)
      · have f := f g
        clear ih g
        refine Ev.body (by unfold F70L0; rfl) ?_
        simp -implicitDefEqProofs (disch := omega) only [eb, go_sem, ↓reduceIte, reduceCtorEq, Nat.reduceAdd, Nat.reduceSub, Nat.reduceEqDiff, Nat.reduceLeDiff, Nat.reduceBEq]
        exact Ev.lp (by simp -implicitDefEqProofs (disch := omega) only [F70C0, go_sem, ↓reduceIte, reduceCtorEq, Nat.reduceAdd, Nat.reduceSub, Nat.reduceEqDiff, Nat.reduceLeDiff, Nat.reduceBEq]) f
      · have f := f g
        clear ih g
        refine Ev.body (by unfold F70L0; rfl) ?_
        simp -implicitDefEqProofs (disch := omega) only [eb, go_sem, ↓reduceIte, reduceCtorEq, Nat.reduceAdd, Nat.reduceSub, Nat.reduceEqDiff, Nat.reduceLeDiff, Nat.reduceBEq]
        exact Ev.lp (by simp -implicitDefEqProofs (disch := omega) only [F70C0, go_sem, ↓reduceIte, reduceCtorEq, Nat.reduceAdd, Nat.reduceSub, Nat.reduceEqDiff, Nat.reduceLeDiff, Nat.reduceBEq]) f
    · refine ⟨fun g => absurd (g i hi) h, fun _ => ?_⟩
      unfold dg at h
      clear ih hj
      generalize bt s i = b at *
      by_cases h1 : b < 48
      · refine Ev.body (by unfold F70L0; rfl) ?_
        simp -implicitDefEqProofs (disch := omega) only [eb, go_sem, ↓reduceIte, reduceCtorEq, Nat.reduceAdd, Nat.reduceSub, Nat.reduceEqDiff, Nat.reduceLeDiff, Nat.reduceBEq]
        exact Ev.ret _
      · refine Ev.body (by unfold F70L0; rfl) ?_
        simp -implicitDefEqProofs (disch := omega) only [eb, go_sem, ↓reduceIte, reduceCtorEq, Nat.reduceAdd, Nat.reduceSub, Nat.reduceEqDiff, Nat.reduceLeDiff, Nat.reduceBEq]
        exact Ev.ret _
theorem rdigits_ev (s : List UInt8) (hs : s.length ≤ 100000) : Ev (fun k => (lvl tab ext k).call 70 [(.pv (.str (s)))]) [(.pv (.bool (decide (Good s))))] := by
  have pl := rdigits_loop hs s.length 0 (by omega) 0 rfl (fun j hj => absurd hj (Nat.not_lt_zero _))
  by_cases hd : ∀ j, j < s.length → dg s j
  · have pl := pl.1 hd
    have eb : ((s.getD 0 0).toNat : Int) = bt s 0 := rfl
    by_cases h1 : s.length = 1
    · rw [decide_eq_true (show Good s from ⟨by omega, hd, .inl h1⟩)]
      clear hd
      refine Ev.call rfl tab70 ?_
      simp -implicitDefEqProofs (disch := omega) only [F70, go_sem, ↓reduceIte, reduceCtorEq, Nat.reduceAdd, Nat.reduceSub, Nat.reduceEqDiff, Nat.reduceLeDiff, Nat.reduceBEq]
      refine Ev.bind (Ev.lp (by simp -implicitDefEqProofs (disch := omega) only [F70C0, go_sem, ↓reduceIte, reduceCtorEq, Nat.reduceAdd, Nat.reduceSub, Nat.reduceEqDiff, Nat.reduceLeDiff, Nat.reduceBEq]) pl) ?_
      simp -implicitDefEqProofs (disch := omega) only [go_sem, ↓reduceIte, reduceCtorEq, Nat.reduceAdd, Nat.reduceSub, Nat.reduceEqDiff, Nat.reduceLeDiff, Nat.reduceBEq]
      exact Ev.ret _
    · by_cases h2 : 1 < s.length
      · by_cases hz : bt s 0 = 48
        · rw [decide_eq_false (show ¬ Good s from fun g => g.2.2.elim h1 fun g => g hz)]
          clear hd
          refine Ev.call rfl tab70 ?_
          simp -implicitDefEqProofs (disch := omega) only [F70, go_sem, ↓reduceIte, reduceCtorEq, Nat.reduceAdd, Nat.reduceSub, Nat.reduceEqDiff, Nat.reduceLeDiff, Nat.reduceBEq]
          refine Ev.bind (Ev.lp (by simp -implicitDefEqProofs (disch := omega) only [F70C0, go_sem, ↓reduceIte, reduceCtorEq, Nat.reduceAdd, Nat.reduceSub, Nat.reduceEqDiff, Nat.reduceLeDiff, Nat.reduceBEq]) pl) ?_
          simp -implicitDefEqProofs (disch := omega) only [eb, go_sem, ↓reduceIte, reduceCtorEq, Nat.reduceAdd, Nat.reduceSub, Nat.reduceEqDiff, Nat.reduceLeDiff, Nat.reduceBEq]
          exact Ev.ret _
        · rw [decide_eq_true (show Good s from ⟨by omega, hd, .inr hz⟩)]
          clear hd
          refine Ev.call rfl tab70 ?_
          simp -implicitDefEqProofs (disch := omega) only [F70, go_sem, ↓reduceIte, reduceCtorEq, Nat.reduceAdd, Nat.reduceSub, Nat.reduceEqDiff, Nat.reduceLeDiff, Nat.reduceBEq]
          refine Ev.bind (Ev.lp (by simp -implicitDefEqProofs (disch := omega) only [F70C0, go_sem, ↓reduceIte, reduceCtorEq, Nat.reduceAdd, Nat.reduceSub, Nat.reduceEqDiff, Nat.reduceLeDiff, Nat.reduceBEq]) pl) ?_
          simp -implicitDefEqProofs (disch := omega) only [eb, go_sem, ↓reduceIte, reduceCtorEq, Nat.reduceAdd, Nat.reduceSub, Nat.reduceEqDiff, Nat.reduceLeDiff, Nat.reduceBEq]
          exact Ev.ret _
      · rw [decide_eq_false (show ¬ Good s from fun g => by have := g.1; omega)]
        clear hd
        refine Ev.call rfl tab70 ?_
        simp -implicitDefEqProofs (disch := omega) only [F70, go_sem, ↓reduceIte, reduceCtorEq, Nat.reduceAdd, Nat.reduceSub, Nat.reduceEqDiff, Nat.reduceLeDiff, Nat.reduceBEq]
        refine Ev.bind (Ev.lp (by simp -implicitDefEqProofs (disch := omega) only [F70C0, go_sem, ↓reduceIte, reduceCtorEq, Nat.reduceAdd, Nat.reduceSub, Nat.reduceEqDiff, Nat.reduceLeDiff, Nat.reduceBEq]) pl) ?_
        simp -implicitDefEqProofs (disch := omega) only [eb, go_sem, ↓reduceIte, reduceCtorEq, Nat.reduceAdd, Nat.reduceSub, Nat.reduceEqDiff, Nat.reduceLeDiff, Nat.reduceBEq]
        exact Ev.ret _
  · have pl := pl.2 hd
    rw [decide_eq_false (show ¬ Good s from fun g => hd g.2.1)]
    clear hd
    refine Ev.call rfl tab70 ?_
    simp -implicitDefEqProofs (disch := omega) only [F70, go_sem, ↓reduceIte, reduceCtorEq, Nat.reduceAdd, Nat.reduceSub, Nat.reduceEqDiff, Nat.reduceLeDiff, Nat.reduceBEq]
    refine Ev.bind (Ev.lp (by simp -implicitDefEqProofs (disch := omega) only [F70C0, go_sem, ↓reduceIte, reduceCtorEq, Nat.reduceAdd, Nat.reduceSub, Nat.reduceEqDiff, Nat.reduceLeDiff, Nat.reduceBEq]) pl) ?_
    simp -implicitDefEqProofs (disch := omega) only [go_sem, ↓reduceIte, reduceCtorEq, Nat.reduceAdd, Nat.reduceSub, Nat.reduceEqDiff, Nat.reduceLeDiff, Nat.reduceBEq]
    exact Ev.ret _
theorem rvalue_loop {s : List UInt8} (hs : s.length ≤ 1000) (hd : ∀ j, j < s.length → dg s j) : ∀ d i, d + i = s.length → ∀ n : Int, n = i → Ev (fun k => run (lvl tab ext k) F71C0 F71L0 ⟨mk [(0, (.pv (.str (s)))), (3, .row 3 none), (4, (.pv (.int .i64 (n))))], hp [(3, (.row (.ints .u32 (ofN (num s i))) true))]⟩) (.exit 0, ⟨mk [(0, (.pv (.str (s)))), (3, .row 3 none), (4, (.pv (.int .i64 ((s.length : Int))))), (8, (.pv (.bool (false))))], hp [(3, (.row (.ints .u32 (ofN (num s s.length))) true))]⟩) := by
  intro d
  induction d with
  | zero =>
    intro i h n hn
    have : i = s.length := by omega
    subst this
    subst hn
    clear hd
    refine Ev.body (by unfold F71L0; rfl) ?_
    simp -implicitDefEqProofs (disch := omega) only [go_sem, ↓reduceIte, reduceCtorEq, Nat.reduceAdd, Nat.reduceSub, Nat.reduceEqDiff, Nat.reduceLeDiff, Nat.reduceBEq]
    exact Ev.ret _
  | succ d ih =>
    intro i h n hn
    subst hn
    have hdi := hd i (by omega)
    unfold dg at hdi
    have hl := num_len i (fun j hj => hd j (by omega))
    have hO := rof_ev (a := 10) (by decide) (by decide)
    have l10 := len_small (n := 10) (by decide)
    have hM := rmul_ev (lim_ofN (num s i)) (lim_ofN 10) (by omega)
    rw [val_ofN, val_ofN] at hM
    have lM := len_mul (num s i) 10
    have hO2 := rof_ev (a := bt s i - 48) (by omega) (by omega)
    have l2 := len_small (n := (bt s i - 48).toNat) (by omega)
    have hA := radd_ev (lim_ofN (num s i * 10)) (lim_ofN (bt s i - 48).toNat) (by omega) (by omega)
    rw [val_ofN, val_ofN] at hA
    have r := ih (i + 1) (by omega) ((i : Int) + 1) (by omega)
    have en : num s (i + 1) = num s i * 10 + (bt s i - 48).toNat := rfl
    rw [en] at r
    have eb : ((s.getD i 0).toNat : Int) = bt s i := rfl
    have z10 : (10 : Int).toNat = 10 := rfl
    rw [z10] at hO
    clear ih en hd
    generalize bt s i = b at *
    refine Ev.body (by unfold F71L0; rfl) ?_
    simp -implicitDefEqProofs (disch := omega) only [go_sem, ↓reduceIte, reduceCtorEq, Nat.reduceAdd, Nat.reduceSub, Nat.reduceEqDiff, Nat.reduceLeDiff, Nat.reduceBEq]
    refine Ev.bind hO ?_
    simp -implicitDefEqProofs (disch := omega) only [go_sem, ↓reduceIte, reduceCtorEq, Nat.reduceAdd, Nat.reduceSub, Nat.reduceEqDiff, Nat.reduceLeDiff, Nat.reduceBEq]
    refine Ev.bind hM ?_
    simp -implicitDefEqProofs (disch := omega) only [eb, go_sem, ↓reduceIte, reduceCtorEq, Nat.reduceAdd, Nat.reduceSub, Nat.reduceEqDiff, Nat.reduceLeDiff, Nat.reduceBEq]
    refine Ev.bind hO2 ?_
    simp -implicitDefEqProofs (disch := omega) only [go_sem, ↓reduceIte, reduceCtorEq, Nat.reduceAdd, Nat.reduceSub, Nat.reduceEqDiff, Nat.reduceLeDiff, Nat.reduceBEq]
    refine Ev.bind hA ?_
    simp -implicitDefEqProofs (disch := omega) only [go_sem, ↓reduceIte, reduceCtorEq, Nat.reduceAdd, Nat.reduceSub, Nat.reduceEqDiff, Nat.reduceLeDiff, Nat.reduceBEq]
    exact Ev.lp (by simp -implicitDefEqProofs (disch := omega) only [F71C0, go_sem, ↓reduceIte, reduceCtorEq, Nat.reduceAdd, Nat.reduceSub, Nat.reduceEqDiff, Nat.reduceLeDiff, Nat.reduceBEq]) r
theorem rvalue_ev {s : List UInt8} (hs : s.length ≤ 1000) (hd : ∀ j, j < s.length → dg s j) : Ev (fun k => (lvl tab ext k).call 71 [(.pv (.str (s)))]) [(.own (.ints .u32 (ofN (numT s))))] := by
  have r := rvalue_loop hs hd s.length 0 (by omega) 0 rfl
  have e : num s 0 = 0 := rfl
  rw [e, ofN_zero] at r
  unfold numT
  clear hd
  refine Ev.call rfl tab71 ?_
  simp -implicitDefEqProofs (disch := omega) only [F71, go_sem, ↓reduceIte, reduceCtorEq, Nat.reduceAdd, Nat.reduceSub, Nat.reduceEqDiff, Nat.reduceLeDiff, Nat.reduceBEq]
  refine Ev.bind (Ev.lp (by simp -implicitDefEqProofs (disch := omega) only [F71C0, go_sem, ↓reduceIte, reduceCtorEq, Nat.reduceAdd, Nat.reduceSub, Nat.reduceEqDiff, Nat.reduceLeDiff, Nat.reduceBEq]) r) ?_
  simp -implicitDefEqProofs (disch := omega) only [go_sem, ↓reduceIte, reduceCtorEq, Nat.reduceAdd, Nat.reduceSub, Nat.reduceEqDiff, Nat.reduceLeDiff, Nat.reduceBEq]
  exact Ev.ret _
/-- The answer of Parse: the number, and the error's number. -/
def rparseN (s : List UInt8) : Nat := if s.length ≤ 200 ∧ Good s then numT s else 0
def rparseE (s : List UInt8) : Int := if s.length ≤ 200 then (if Good s then 0 else 2) else 5
theorem rparse_ev (s : List UInt8) (hb : s.length ≤ 1000000000) : Ev (fun k => (lvl tab ext k).call 52 [(.pv (.str (s)))]) [(.pv (.ints .u32 (ofN (rparseN s)))), (.pv (.int .i64 (rparseE s)))] := by
  unfold rparseN rparseE
  by_cases h : s.length ≤ 200
  · have hd := rdigits_ev s (by omega)
    by_cases g : Good s
    · rw [decide_eq_true g] at hd
      rw [if_pos ⟨h, g⟩, if_pos h, if_pos g]
      have hv := rvalue_ev (s := s) (by omega) g.2.1
      clear g
      refine Ev.call rfl tab52 ?_
      simp -implicitDefEqProofs (disch := omega) only [F52, go_sem, ↓reduceIte, reduceCtorEq, Nat.reduceAdd, Nat.reduceSub, Nat.reduceEqDiff, Nat.reduceLeDiff, Nat.reduceBEq]
      refine Ev.bind hd ?_
      simp -implicitDefEqProofs (disch := omega) only [go_sem, ↓reduceIte, reduceCtorEq, Nat.reduceAdd, Nat.reduceSub, Nat.reduceEqDiff, Nat.reduceLeDiff, Nat.reduceBEq]
      refine Ev.bind hv ?_
      simp -implicitDefEqProofs (disch := omega) only [go_sem, ↓reduceIte, reduceCtorEq, Nat.reduceAdd, Nat.reduceSub, Nat.reduceEqDiff, Nat.reduceLeDiff, Nat.reduceBEq]
      exact Ev.ret _
    · rw [decide_eq_false g] at hd
      rw [if_neg (fun x => g x.2), if_pos h, if_neg g, ofN_zero]
      clear g
      refine Ev.call rfl tab52 ?_
      simp -implicitDefEqProofs (disch := omega) only [F52, go_sem, ↓reduceIte, reduceCtorEq, Nat.reduceAdd, Nat.reduceSub, Nat.reduceEqDiff, Nat.reduceLeDiff, Nat.reduceBEq]
      refine Ev.bind hd ?_
      simp -implicitDefEqProofs (disch := omega) only [go_sem, ↓reduceIte, reduceCtorEq, Nat.reduceAdd, Nat.reduceSub, Nat.reduceEqDiff, Nat.reduceLeDiff, Nat.reduceBEq]
      exact Ev.ret _
  · rw [if_neg (fun g => h g.1), if_neg h, ofN_zero]
    refine Ev.call rfl tab52 ?_
    simp -implicitDefEqProofs (disch := omega) only [F52, go_sem, ↓reduceIte, reduceCtorEq, Nat.reduceAdd, Nat.reduceSub, Nat.reduceEqDiff, Nat.reduceLeDiff, Nat.reduceBEq]
    exact Ev.ret _
end Go.Proofs.Ytkeipmkiilimeaa.V
