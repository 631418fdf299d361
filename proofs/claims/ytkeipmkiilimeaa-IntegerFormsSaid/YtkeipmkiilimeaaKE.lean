/- What the limb functions of the program come to, in numbers: trim, Norm, Of, Cmp.
What the limb functions of the program come to, in numbers: Add, less, Sub.
What the limb functions of the program come to, in numbers: Mul, small, size.
What the limb functions of the program come to, in numbers: DivMod.
What the text functions of the program come to: Text and Parse of naturals.
What Parse of naturals comes to, of the program. -/
import Derived.Test.YtkeipmkiilimeaaKD
import Derived.Test.YtkeipmkiilimeaaKC

set_option linter.unusedSimpArgs false
set_option linter.unusedVariables false
namespace Go.Proofs.Ytkeipmkiilimeaa.V
open Go Go.Proofs.Ytkeipmkiilimeaa.M
theorem trim_loop {l : List Int} (hl : Lim l) (hb : l.length ≤ 1000000000) : ∀ i : Nat, i ≤ l.length → ∀ n : Int, n = i → Ev (fun k => run (lvl tab ext k) F61C0 F61L0 ⟨mk [(0, (.pv (.ints .u32 (l)))), (3, (.pv (.int .i64 (n))))], hp []⟩)
    (.exit 0, ⟨mk [(0, (.pv (.ints .u32 (l)))), (3, (.pv (.int .i64 ((ofN (val (l.take i))).length)))), (15, (.pv (.bool (false))))], hp []⟩) := by
  intro i
  induction i with
  | zero =>
    intro _ n hn
    refine Ev.body (by unfold F61L0; rfl) ?_
    simp -implicitDefEqProofs (disch := omega) only [List.take_zero, val, ofN_zero, Int.natCast_zero, hn, go_sem, ↓reduceIte, reduceCtorEq, Nat.reduceAdd, Nat.reduceSub, Nat.reduceEqDiff, Nat.reduceLeDiff, Nat.reduceBEq]
    exact Ev.ret _
  | succ i ih =>
    intro hi n hn
    have hv := val_take_succ (l := l) (i := i) (by omega)
    have e : (n - 1).toNat = i := by omega
    refine Ev.body (by unfold F61L0; rfl) ?_
    by_cases hz : l.getD i 0 = 0
    · have hv' : val (l.take (i + 1)) = val (l.take i) := by rw [hv, hz]; simp
      rw [hv']
      simp -implicitDefEqProofs (disch := omega) only [e, hz, go_sem, ↓reduceIte, reduceCtorEq, Nat.reduceAdd, Nat.reduceSub, Nat.reduceEqDiff, Nat.reduceLeDiff, Nat.reduceBEq]
      exact Ev.lp (by simp -implicitDefEqProofs (disch := omega) only [F61C0, go_sem, ↓reduceIte, reduceCtorEq, Nat.reduceAdd, Nat.reduceSub, Nat.reduceEqDiff, Nat.reduceLeDiff, Nat.reduceBEq]) (ih (by omega) (n - 1) (by omega))
    · simp -implicitDefEqProofs (disch := omega) only [e, go_sem, ↓reduceIte, reduceCtorEq, Nat.reduceAdd, Nat.reduceSub, Nat.reduceEqDiff, Nat.reduceLeDiff, Nat.reduceBEq]
      have : ofN (val (l.take (i + 1))) = l.take (i + 1) := by
        rw [take_succ_snoc (by omega)]
        exact ofN_val_snoc (by rw [← take_succ_snoc (by omega)]; exact lim_take hl _) hz
      rw [this, List.length_take, Nat.min_eq_left hi, hn]
      exact Ev.ret _
theorem trimo_loop {l : List Int} (hl : Lim l) (hb : l.length ≤ 1000000000) : ∀ i : Nat, i ≤ l.length → ∀ n : Int, n = i → Ev (fun k => run (lvl tab ext k) F100061C0 F100061L0 ⟨mk [(0, .row 0 none), (3, (.pv (.int .i64 (n))))], hp [(0, (.row (.ints .u32 (l)) true))]⟩)
    (.exit 0, ⟨mk [(0, .row 0 none), (3, (.pv (.int .i64 ((ofN (val (l.take i))).length)))), (15, (.pv (.bool (false))))], hp [(0, (.row (.ints .u32 (l)) true))]⟩) := by
  intro i
  induction i with
  | zero =>
    intro _ n hn
    refine Ev.body (by unfold F100061L0; rfl) ?_
    simp -implicitDefEqProofs (disch := omega) only [List.take_zero, val, ofN_zero, Int.natCast_zero, hn, go_sem, ↓reduceIte, reduceCtorEq, Nat.reduceAdd, Nat.reduceSub, Nat.reduceEqDiff, Nat.reduceLeDiff, Nat.reduceBEq]
    exact Ev.ret _
  | succ i ih =>
    intro hi n hn
    have hv := val_take_succ (l := l) (i := i) (by omega)
    have e : (n - 1).toNat = i := by omega
    refine Ev.body (by unfold F100061L0; rfl) ?_
    by_cases hz : l.getD i 0 = 0
    · have hv' : val (l.take (i + 1)) = val (l.take i) := by rw [hv, hz]; simp
      rw [hv']
      simp -implicitDefEqProofs (disch := omega) only [e, hz, go_sem, ↓reduceIte, reduceCtorEq, Nat.reduceAdd, Nat.reduceSub, Nat.reduceEqDiff, Nat.reduceLeDiff, Nat.reduceBEq]
      exact Ev.lp (by simp -implicitDefEqProofs (disch := omega) only [F100061C0, go_sem, ↓reduceIte, reduceCtorEq, Nat.reduceAdd, Nat.reduceSub, Nat.reduceEqDiff, Nat.reduceLeDiff, Nat.reduceBEq]) (ih (by omega) (n - 1) (by omega))
    · simp -implicitDefEqProofs (disch := omega) only [e, go_sem, ↓reduceIte, reduceCtorEq, Nat.reduceAdd, Nat.reduceSub, Nat.reduceEqDiff, Nat.reduceLeDiff, Nat.reduceBEq]
      have : ofN (val (l.take (i + 1))) = l.take (i + 1) := by
        rw [take_succ_snoc (by omega)]
        exact ofN_val_snoc (by rw [← take_succ_snoc (by omega)]; exact lim_take hl _) hz
      rw [this, List.length_take, Nat.min_eq_left hi, hn]
      exact Ev.ret _
theorem ofN_take {l : List Int} (hl : Lim l) : l.take (ofN (val l)).length = ofN (val l) := by
  induction h : l.length generalizing l with
  | zero => have : l = [] := List.eq_nil_of_length_eq_zero h; subst this; simp [val, ofN_zero]
  | succ n ih =>
    have ht := take_succ_snoc (l := l) (i := n) (by omega)
    rw [List.take_of_length_le (by omega)] at ht
    by_cases hz : l.getD n 0 = 0
    · have hl' := lim_take hl n
      have hv : val l = val (l.take n) := by rw [ht, hz, val_snoc_zero]; rw [← hz, ← ht]
      have := ih hl' (by rw [List.length_take]; omega)
      rw [hv, ← this, List.take_take, List.length_take]
      congr 1
      omega
    · have : ofN (val l) = l := by
        rw [ht]
        exact ofN_val_snoc (by rw [← ht]; exact hl) hz
      rw [this, List.take_length]
theorem trim_ev {l : List Int} (hl : Lim l) (hb : l.length ≤ 1000000000) : Ev (fun k => (lvl tab ext k).call 61 [(.pv (.ints .u32 (l)))]) [(.pv (.ints .u32 (ofN (val l))))] := by
  refine Ev.call rfl tab61 ?_
  simp -implicitDefEqProofs (disch := omega) only [F61, go_sem, ↓reduceIte, reduceCtorEq, Nat.reduceAdd, Nat.reduceSub, Nat.reduceEqDiff, Nat.reduceLeDiff, Nat.reduceBEq]
  refine Ev.bind (Ev.lp (by simp -implicitDefEqProofs (disch := omega) only [F61C0, go_sem, ↓reduceIte, reduceCtorEq, Nat.reduceAdd, Nat.reduceSub, Nat.reduceEqDiff, Nat.reduceLeDiff, Nat.reduceBEq]) (trim_loop hl hb l.length (Nat.le_refl _) _ rfl)) ?_
  have h1 := len_val_le hl
  simp -implicitDefEqProofs (disch := omega) only [List.take_length, ofN_take hl, go_sem, ↓reduceIte, reduceCtorEq, Nat.reduceAdd, Nat.reduceSub, Nat.reduceEqDiff, Nat.reduceLeDiff, Nat.reduceBEq]
  exact Ev.ret _
theorem trimo_ev {l : List Int} (hl : Lim l) (hb : l.length ≤ 1000000000) : Ev (fun k => (lvl tab ext k).call 100061 [(.own (.ints .u32 (l)))]) [(.own (.ints .u32 (ofN (val l))))] := by
  refine Ev.call rfl tab100061 ?_
  simp -implicitDefEqProofs (disch := omega) only [F100061, go_sem, ↓reduceIte, reduceCtorEq, Nat.reduceAdd, Nat.reduceSub, Nat.reduceEqDiff, Nat.reduceLeDiff, Nat.reduceBEq]
  refine Ev.bind (Ev.lp (by simp -implicitDefEqProofs (disch := omega) only [F100061C0, go_sem, ↓reduceIte, reduceCtorEq, Nat.reduceAdd, Nat.reduceSub, Nat.reduceEqDiff, Nat.reduceLeDiff, Nat.reduceBEq]) (trimo_loop hl hb l.length (Nat.le_refl _) _ rfl)) ?_
  have h1 := len_val_le hl
  simp -implicitDefEqProofs (disch := omega) only [List.take_length, ofN_take hl, go_sem, ↓reduceIte, reduceCtorEq, Nat.reduceAdd, Nat.reduceSub, Nat.reduceEqDiff, Nat.reduceLeDiff, Nat.reduceBEq]
  exact Ev.ret _
theorem norm_ev {l : List Int} (hl : Lim l) (hb : l.length ≤ 1000000000) : Ev (fun k => (lvl tab ext k).call 51 [(.pv (.ints .u32 (l)))]) [(.own (.ints .u32 (ofN (val l))))] := by
  refine Ev.call rfl tab51 ?_
  simp -implicitDefEqProofs (disch := omega) only [F51, go_sem, ↓reduceIte, reduceCtorEq, Nat.reduceAdd, Nat.reduceSub, Nat.reduceEqDiff, Nat.reduceLeDiff, Nat.reduceBEq]
  refine Ev.bind (trim_ev hl hb) ?_
  have h1 := len_val_le hl
  simp -implicitDefEqProofs (disch := omega) only [List.drop_replicate, Nat.sub_self, List.replicate_zero, go_sem, ↓reduceIte, reduceCtorEq, Nat.reduceAdd, Nat.reduceSub, Nat.reduceEqDiff, Nat.reduceLeDiff, Nat.reduceBEq]
  exact Ev.ret _
theorem of_ev {a : Int} (h0 : 0 ≤ a) (h1 : a < 18446744073709551616) : Ev (fun k => (lvl tab ext k).call 56 [(.pv (.int .u64 (a)))]) [(.own (.ints .u32 (ofN a.toNat)))] := by
  refine Ev.call rfl tab56 ?_
  simp -implicitDefEqProofs (disch := omega) only [F56, go_sem, ↓reduceIte, reduceCtorEq, Nat.reduceAdd, Nat.reduceSub, Nat.reduceEqDiff, Nat.reduceLeDiff, Nat.reduceBEq]
  have hl : Lim [a % 4294967296, (a / 4294967296) % 4294967296] := by rw [lim_cons, lim_cons]; exact ⟨by omega, by omega, lim_nil⟩
  have e : val [a % 4294967296, (a / 4294967296) % 4294967296] = a.toNat := by simp only [val]; omega
  have := norm_ev hl (by simp)
  rw [e] at this
  rw [show (a / 4294967296) % 4294967296 = a / 4294967296 from by omega] at this
  refine Ev.bind this ?_
  simp -implicitDefEqProofs (disch := omega) only [go_sem, ↓reduceIte, reduceCtorEq, Nat.reduceAdd, Nat.reduceSub, Nat.reduceEqDiff, Nat.reduceLeDiff, Nat.reduceBEq]
  exact Ev.ret _
theorem cmp_loop {a b : List Int} (ha : Lim a) (hb : Lim b) (hn : a.length = b.length) (hs : a.length ≤ 1000000000) : ∀ i : Nat, i ≤ a.length → ∀ n : Int, n = (i : Int) - 1 →
    (Ev (fun k => run (lvl tab ext k) F57C0 F57L0 ⟨mk [(0, (.pv (.ints .u32 (a)))), (1, (.pv (.ints .u32 (b)))), (5, (.pv (.int .i64 (n))))], hp []⟩) (.exit 0, ⟨mk [(0, (.pv (.ints .u32 (a)))), (1, (.pv (.ints .u32 (b)))), (5, (.pv (.int .i64 (-1)))), (24, (.pv (.bool (false))))], hp []⟩) ∧ cmp (val (a.take i)) (val (b.take i)) = 0) ∨
    Ev (fun k => run (lvl tab ext k) F57C0 F57L0 ⟨mk [(0, (.pv (.ints .u32 (a)))), (1, (.pv (.ints .u32 (b)))), (5, (.pv (.int .i64 (n))))], hp []⟩) (.ret, ⟨mk [(4, (.pv (.int .i64 (cmp (val (a.take i)) (val (b.take i))))))], hp []⟩) := by
  intro i
  induction i with
  | zero =>
    intro _ n e
    refine .inl ⟨?_, by simp [val, cmp_eq]⟩
    have e : n = -1 := by omega
    subst e
    refine Ev.body (by unfold F57L0; rfl) ?_
    simp -implicitDefEqProofs (disch := omega) only [go_sem, ↓reduceIte, reduceCtorEq, Nat.reduceAdd, Nat.reduceSub, Nat.reduceEqDiff, Nat.reduceLeDiff, Nat.reduceBEq]
    exact Ev.ret _
  | succ i ih =>
    intro hi n e
    have e : n = i := by omega
    subst e
    have la := lim_getD ha i
    have lb := lim_getD hb i
    by_cases he : a.getD i 0 = b.getD i 0
    · have hc : cmp (val (a.take (i + 1))) (val (b.take (i + 1))) = cmp (val (a.take i)) (val (b.take i)) := cmp_step i (by rw [he])
      rw [hc]
      refine (ih (by omega) _ rfl).imp (fun h => ⟨?_, h.2⟩) fun h => ?_
      · refine Ev.body (by unfold F57L0; rfl) ?_
        simp -implicitDefEqProofs (disch := omega) only [he, go_sem, ↓reduceIte, reduceCtorEq, Nat.reduceAdd, Nat.reduceSub, Nat.reduceEqDiff, Nat.reduceLeDiff, Nat.reduceBEq]
        exact Ev.lp (by simp -implicitDefEqProofs (disch := omega) only [F57C0, go_sem, ↓reduceIte, reduceCtorEq, Nat.reduceAdd, Nat.reduceSub, Nat.reduceEqDiff, Nat.reduceLeDiff, Nat.reduceBEq]) h.1
      · refine Ev.body (by unfold F57L0; rfl) ?_
        simp -implicitDefEqProofs (disch := omega) only [he, go_sem, ↓reduceIte, reduceCtorEq, Nat.reduceAdd, Nat.reduceSub, Nat.reduceEqDiff, Nat.reduceLeDiff, Nat.reduceBEq]
        exact Ev.lp (by simp -implicitDefEqProofs (disch := omega) only [F57C0, go_sem, ↓reduceIte, reduceCtorEq, Nat.reduceAdd, Nat.reduceSub, Nat.reduceEqDiff, Nat.reduceLeDiff, Nat.reduceBEq]) h
    · refine .inr ?_
      refine Ev.body (by unfold F57L0; rfl) ?_
      by_cases hlt : a.getD i 0 < b.getD i 0
      · rw [cmp_lt (lt_of_top ha i (by omega))]
        simp -implicitDefEqProofs (disch := omega) only [go_sem, ↓reduceIte, reduceCtorEq, Nat.reduceAdd, Nat.reduceSub, Nat.reduceEqDiff, Nat.reduceLeDiff, Nat.reduceBEq]
        exact Ev.ret _
      · rw [cmp_gt (lt_of_top hb i (by omega))]
        simp -implicitDefEqProofs (disch := omega) only [go_sem, ↓reduceIte, reduceCtorEq, Nat.reduceAdd, Nat.reduceSub, Nat.reduceEqDiff, Nat.reduceLeDiff, Nat.reduceBEq]
        exact Ev.ret _
theorem cmp_ev {a b : List Int} (ha : Lim a) (hb : Lim b) (sa : a.length ≤ 1000000000) (sb : b.length ≤ 1000000000) : Ev (fun k => (lvl tab ext k).call 57 [(.pv (.ints .u32 (a))), (.pv (.ints .u32 (b)))]) [(.pv (.int .i64 (cmp (val a) (val b))))] := by
  refine Ev.call rfl tab57 ?_
  simp -implicitDefEqProofs (disch := omega) only [F57, go_sem, ↓reduceIte, reduceCtorEq, Nat.reduceAdd, Nat.reduceSub, Nat.reduceEqDiff, Nat.reduceLeDiff, Nat.reduceBEq]
  refine Ev.bind (trim_ev ha sa) ?_
  simp -implicitDefEqProofs (disch := omega) only [go_sem, ↓reduceIte, reduceCtorEq, Nat.reduceAdd, Nat.reduceSub, Nat.reduceEqDiff, Nat.reduceLeDiff, Nat.reduceBEq]
  refine Ev.bind (trim_ev hb sb) ?_
  have la := len_val_le ha
  have lb := len_val_le hb
  by_cases he : (ofN (val a)).length = (ofN (val b)).length
  · simp -implicitDefEqProofs (disch := omega) only [go_sem, ↓reduceIte, reduceCtorEq, Nat.reduceAdd, Nat.reduceSub, Nat.reduceEqDiff, Nat.reduceLeDiff, Nat.reduceBEq]
    have hl := cmp_loop (lim_ofN (val a)) (lim_ofN (val b)) he (by omega) (ofN (val a)).length (Nat.le_refl _) _ rfl
    rw [List.take_length, he, List.take_length, val_ofN, val_ofN] at hl
    rw [he]
    rcases hl with ⟨h1, h2⟩ | h1
    · refine Ev.bind (Ev.lp (by simp -implicitDefEqProofs (disch := omega) only [F57C0, go_sem, ↓reduceIte, reduceCtorEq, Nat.reduceAdd, Nat.reduceSub, Nat.reduceEqDiff, Nat.reduceLeDiff, Nat.reduceBEq]) h1) ?_
      rw [h2]
      simp -implicitDefEqProofs (disch := omega) only [go_sem, ↓reduceIte, reduceCtorEq, Nat.reduceAdd, Nat.reduceSub, Nat.reduceEqDiff, Nat.reduceLeDiff, Nat.reduceBEq]
      exact Ev.ret _
    · refine Ev.bind (Ev.lp (by simp -implicitDefEqProofs (disch := omega) only [F57C0, go_sem, ↓reduceIte, reduceCtorEq, Nat.reduceAdd, Nat.reduceSub, Nat.reduceEqDiff, Nat.reduceLeDiff, Nat.reduceBEq]) h1) ?_
      simp -implicitDefEqProofs (disch := omega) only [go_sem, ↓reduceIte, reduceCtorEq, Nat.reduceAdd, Nat.reduceSub, Nat.reduceEqDiff, Nat.reduceLeDiff, Nat.reduceBEq]
      exact Ev.ret _
  · by_cases hlt : (ofN (val a)).length < (ofN (val b)).length
    · rw [cmp_lt (lt_of_len_lt hlt)]
      simp -implicitDefEqProofs (disch := omega) only [go_sem, ↓reduceIte, reduceCtorEq, Nat.reduceAdd, Nat.reduceSub, Nat.reduceEqDiff, Nat.reduceLeDiff, Nat.reduceBEq]
      exact Ev.ret _
    · rw [cmp_gt (lt_of_len_lt (by omega))]
      simp -implicitDefEqProofs (disch := omega) only [go_sem, ↓reduceIte, reduceCtorEq, Nat.reduceAdd, Nat.reduceSub, Nat.reduceEqDiff, Nat.reduceLeDiff, Nat.reduceBEq]
      exact Ev.ret _
end Go.Proofs.Ytkeipmkiilimeaa.V
set_option linter.unusedSimpArgs false
set_option linter.unusedVariables false
namespace Go.Proofs.Ytkeipmkiilimeaa.V
open Go Go.Proofs.Ytkeipmkiilimeaa.M
theorem add_loop {a b : List Int} (ha : Lim a) (hb : Lim b) (hn : b.length ≤ a.length) (hs : a.length ≤ 1000000000) : ∀ d i : Nat, d + i = a.length → ∀ n : Int, n = i → ∀ (o : List Int) (c : Int), Lim o → o.length = i → 0 ≤ c → c ≤ 1 →
    val o + P i * c.toNat = val (a.take i) + val (b.take i) →
    ∃ (o' : List Int) (c' : Int), Ev (fun k => run (lvl tab ext k) F59C0 F59L0 ⟨mk [(0, (.pv (.ints .u32 (a)))), (1, (.pv (.ints .u32 (b)))), (5, .row 5 none), (6, (.pv (.int .u64 (c)))), (24, (.pv (.int .i64 ((a.length : Int))))), (25, (.pv (.int .i64 (n))))], hp [(5, (.row (.ints .u32 (o)) true))]⟩)
      (.exit 0, ⟨mk [(0, (.pv (.ints .u32 (a)))), (1, (.pv (.ints .u32 (b)))), (5, .row 5 none), (6, (.pv (.int .u64 (c')))), (24, (.pv (.int .i64 ((a.length : Int))))), (25, (.pv (.int .i64 ((a.length : Int))))), (26, (.pv (.bool (false))))], hp [(5, (.row (.ints .u32 (o')) true))]⟩) ∧
      Lim o' ∧ o'.length = a.length ∧ 0 ≤ c' ∧ c' ≤ 1 ∧ val o' + P a.length * c'.toNat = val a + val b := by
  intro d
  induction d with
  | zero =>
    intro i hd n hin o c ho hoi h0 h1 hv
    have hi : i = a.length := by omega
    subst hi
    subst hin
    rw [List.take_length, val_take_all hn] at hv
    refine ⟨o, c, ?_, ho, hoi, h0, h1, hv⟩
    clear hv
    refine Ev.body (by unfold F59L0; rfl) ?_
    simp -implicitDefEqProofs (disch := omega) only [go_sem, ↓reduceIte, reduceCtorEq, Nat.reduceAdd, Nat.reduceSub, Nat.reduceEqDiff, Nat.reduceLeDiff, Nat.reduceBEq]
    exact Ev.ret _
  | succ d ih =>
    intro i hd n hin o c ho hoi h0 h1 hv
    subst hin
    have la := lim_getD ha i
    have lb := lim_getD hb i
    have va := val_take_step (l := a) i
    have vb := val_take_step (l := b) i
    obtain ⟨o', c', r1, r2⟩ := ih (i + 1) (by omega) ((i : Int) + 1) (by omega) (o ++ [(c + a.getD i 0 + b.getD i 0) % 4294967296]) ((c + a.getD i 0 + b.getD i 0) / 4294967296)
      (by rw [lim_append, lim_cons]; exact ⟨ho, ⟨Int.emod_nonneg _ (by decide), Int.emod_lt_of_pos _ (by decide)⟩, lim_nil⟩) (by simp [hoi]) (by clear ih va vb hv; omega) (by clear ih va vb hv; omega)
      (by
        rw [val_snoc, hoi, P_succ, va, vb]
        refine add_arith _ _ _ _ c.toNat _ _ _ _ hv ?_
        clear ih va vb hv; omega)
    refine ⟨o', c', ?_, r2⟩
    clear ih va vb hv r2
    refine Ev.body (by unfold F59L0; rfl) ?_
    by_cases hib : i < b.length
    · simp -implicitDefEqProofs (disch := omega) only [go_sem, ↓reduceIte, reduceCtorEq, Nat.reduceAdd, Nat.reduceSub, Nat.reduceEqDiff, Nat.reduceLeDiff, Nat.reduceBEq]
      exact Ev.lp (by simp -implicitDefEqProofs (disch := omega) only [F59C0, go_sem, ↓reduceIte, reduceCtorEq, Nat.reduceAdd, Nat.reduceSub, Nat.reduceEqDiff, Nat.reduceLeDiff, Nat.reduceBEq]) r1
    · have hz : b.getD i 0 = 0 := by rw [List.getD_eq_getElem?_getD, List.getElem?_eq_none (by omega)]; rfl
      rw [hz, Int.add_zero] at r1
      simp -implicitDefEqProofs (disch := omega) only [go_sem, ↓reduceIte, reduceCtorEq, Nat.reduceAdd, Nat.reduceSub, Nat.reduceEqDiff, Nat.reduceLeDiff, Nat.reduceBEq]
      exact Ev.lp (by simp -implicitDefEqProofs (disch := omega) only [F59C0, go_sem, ↓reduceIte, reduceCtorEq, Nat.reduceAdd, Nat.reduceSub, Nat.reduceEqDiff, Nat.reduceLeDiff, Nat.reduceBEq]) r1
theorem add_end {x y : Nat} {o : List Int} {c : Int} {n : Nat} (hn : n = (ofN x).length) (ho : Lim o) (hl : o.length = n) (h0 : 0 ≤ c) (h1 : c ≤ 1) (hv : val o + P n * c.toNat = x + y) :
    (c > 0 → o ++ [c] = ofN (x + y)) ∧ (¬ c > 0 → o = ofN (x + y)) := by
  refine ⟨fun hc => ?_, fun hc => ?_⟩
  · have h3 : c.toNat = 1 := by omega
    have hv' : val (o ++ [c]) = x + y := by rw [val_snoc, hl, h3, ← hv]; congr 2; omega
    rw [← hv']
    refine normal (by rw [lim_append, lim_cons]; exact ⟨ho, by omega, lim_nil⟩) (.inr ?_)
    rw [List.length_append, List.length_cons, List.length_nil, Nat.add_sub_cancel, val_snoc, h3, hl]
    omega
  · have h3 : c.toNat = 0 := by omega
    have hv' : val o = x + y := by rw [← hv, h3]; simp
    rw [← hv']
    refine normal ho ?_
    by_cases hx : x = 0
    · left; rw [hl, hn, hx, ofN_zero]; rfl
    · right; rw [hl, hv', hn]; exact Nat.le_trans (P_len_le hx) (Nat.le_add_right _ _)
theorem add_ev {a b : List Int} (ha : Lim a) (hb : Lim b) (sa : a.length ≤ 1000000000) (sb : b.length ≤ 1000000000) : Ev (fun k => (lvl tab ext k).call 59 [(.pv (.ints .u32 (a))), (.pv (.ints .u32 (b)))]) [(.own (.ints .u32 (ofN (val a + val b))))] := by
  refine Ev.call rfl tab59 ?_
  simp -implicitDefEqProofs (disch := omega) only [F59, go_sem, ↓reduceIte, reduceCtorEq, Nat.reduceAdd, Nat.reduceSub, Nat.reduceEqDiff, Nat.reduceLeDiff, Nat.reduceBEq]
  refine Ev.bind (trim_ev ha sa) ?_
  simp -implicitDefEqProofs (disch := omega) only [go_sem, ↓reduceIte, reduceCtorEq, Nat.reduceAdd, Nat.reduceSub, Nat.reduceEqDiff, Nat.reduceLeDiff, Nat.reduceBEq]
  refine Ev.bind (trim_ev hb sb) ?_
  have la := len_val_le ha
  have lb := len_val_le hb
  have key : ∀ x y : Nat, (ofN y).length ≤ (ofN x).length → (ofN x).length ≤ 1000000000 → ∃ (o' : List Int) (c' : Int), Ev (fun k => run (lvl tab ext k) F59C0 F59L0 ⟨mk [(0, (.pv (.ints .u32 (ofN x)))), (1, (.pv (.ints .u32 (ofN y)))), (5, .row 5 none), (6, (.pv (.int .u64 (0)))), (24, (.pv (.int .i64 (((ofN x).length : Int))))), (25, (.pv (.int .i64 (0))))], hp [(5, (.row (.ints .u32 ([])) true))]⟩)
      (.exit 0, ⟨mk [(0, (.pv (.ints .u32 (ofN x)))), (1, (.pv (.ints .u32 (ofN y)))), (5, .row 5 none), (6, (.pv (.int .u64 (c')))), (24, (.pv (.int .i64 (((ofN x).length : Int))))), (25, (.pv (.int .i64 (((ofN x).length : Int))))), (26, (.pv (.bool (false))))], hp [(5, (.row (.ints .u32 (o')) true))]⟩) ∧ o'.length = (ofN x).length ∧ 0 ≤ c' ∧ c' ≤ 1 ∧
      (c' > 0 → o' ++ [c'] = ofN (x + y)) ∧ (¬ c' > 0 → o' = ofN (x + y)) := by
    intro x y h1 h2
    obtain ⟨o', c', r1, r2, r3, r4, r5, r6⟩ := add_loop (lim_ofN x) (lim_ofN y) h1 h2 (ofN x).length 0 (by omega) 0 rfl [] 0 lim_nil rfl (by omega) (by omega) (by simp [val])
    rw [val_ofN, val_ofN] at r6
    exact ⟨o', c', r1, r3, r4, r5, add_end rfl r2 r3 r4 r5 r6⟩
  by_cases hlt : (ofN (val a)).length < (ofN (val b)).length
  · obtain ⟨o', c', r1, r2, r3, r3', r4, r5⟩ := key (val b) (val a) (by omega) (by omega)
    clear key
    rw [Nat.add_comm (val a)]
    simp -implicitDefEqProofs (disch := omega) only [go_sem, ↓reduceIte, reduceCtorEq, Nat.reduceAdd, Nat.reduceSub, Nat.reduceEqDiff, Nat.reduceLeDiff, Nat.reduceBEq]
    refine Ev.bind (Ev.lp (by simp -implicitDefEqProofs (disch := omega) only [F59C0, go_sem, ↓reduceIte, reduceCtorEq, Nat.reduceAdd, Nat.reduceSub, Nat.reduceEqDiff, Nat.reduceLeDiff, Nat.reduceBEq]) r1) ?_
    by_cases hc : c' > 0
    · rw [← r4 hc]
      simp -implicitDefEqProofs (disch := omega) only [go_sem, ↓reduceIte, reduceCtorEq, Nat.reduceAdd, Nat.reduceSub, Nat.reduceEqDiff, Nat.reduceLeDiff, Nat.reduceBEq]
      exact Ev.ret _
    · rw [← r5 hc]
      simp -implicitDefEqProofs (disch := omega) only [go_sem, ↓reduceIte, reduceCtorEq, Nat.reduceAdd, Nat.reduceSub, Nat.reduceEqDiff, Nat.reduceLeDiff, Nat.reduceBEq]
      exact Ev.ret _
  · obtain ⟨o', c', r1, r2, r3, r3', r4, r5⟩ := key (val a) (val b) (by omega) (by omega)
    clear key
    simp -implicitDefEqProofs (disch := omega) only [go_sem, ↓reduceIte, reduceCtorEq, Nat.reduceAdd, Nat.reduceSub, Nat.reduceEqDiff, Nat.reduceLeDiff, Nat.reduceBEq]
    refine Ev.bind (Ev.lp (by simp -implicitDefEqProofs (disch := omega) only [F59C0, go_sem, ↓reduceIte, reduceCtorEq, Nat.reduceAdd, Nat.reduceSub, Nat.reduceEqDiff, Nat.reduceLeDiff, Nat.reduceBEq]) r1) ?_
    by_cases hc : c' > 0
    · rw [← r4 hc]
      simp -implicitDefEqProofs (disch := omega) only [go_sem, ↓reduceIte, reduceCtorEq, Nat.reduceAdd, Nat.reduceSub, Nat.reduceEqDiff, Nat.reduceLeDiff, Nat.reduceBEq]
      exact Ev.ret _
    · rw [← r5 hc]
      simp -implicitDefEqProofs (disch := omega) only [go_sem, ↓reduceIte, reduceCtorEq, Nat.reduceAdd, Nat.reduceSub, Nat.reduceEqDiff, Nat.reduceLeDiff, Nat.reduceBEq]
      exact Ev.ret _
theorem less_loop {a b : List Int} (ha : Lim a) (hb : Lim b) (hn : b.length ≤ a.length) (hs : a.length ≤ 1000000000) (hge : val b ≤ val a) : ∀ d i : Nat, d + i = a.length → ∀ n : Int, n = i → ∀ (o : List Int) (c : Int), Lim o → o.length = a.length → (∀ j, i ≤ j → o.getD j 0 = a.getD j 0) → 0 ≤ c → c ≤ 1 →
    val (o.take i) + val (b.take i) = val (a.take i) + P i * c.toNat →
    ∃ (o' : List Int) (c' : Int), Ev (fun k => run (lvl tab ext k) F64C0 F64L0 ⟨mk [(0, .row 0 none), (1, (.pv (.ints .u32 (b)))), (5, (.pv (.int .u64 (c)))), (9, (.pv (.int .i64 ((a.length : Int))))), (10, (.pv (.int .i64 (n))))], hp [(0, (.row (.ints .u32 (o)) true))]⟩)
      (.exit 0, ⟨mk [(0, .row 0 none), (1, (.pv (.ints .u32 (b)))), (5, (.pv (.int .u64 (c')))), (9, (.pv (.int .i64 ((a.length : Int))))), (10, (.pv (.int .i64 ((a.length : Int))))), (11, (.pv (.bool (false))))], hp [(0, (.row (.ints .u32 (o')) true))]⟩) ∧ Lim o' ∧ o'.length = a.length ∧ val o' = val a - val b := by
  intro d
  induction d with
  | zero =>
    intro i hd n hin o c ho hoi hj h0 h1 hv
    have hi : i = a.length := by omega
    subst hin
    subst hi
    rw [List.take_length, val_take_all hn, ← hoi, List.take_length] at hv
    have hlt := val_lt ho
    have hc : c.toNat = 0 := by
      rcases (show c.toNat = 0 ∨ c.toNat = 1 by omega) with h | h
      · exact h
      · rw [h] at hv; omega
    rw [hc] at hv
    refine ⟨o, c, ?_, ho, hoi, by omega⟩
    clear hv hge hj
    refine Ev.body (by unfold F64L0; rfl) ?_
    simp -implicitDefEqProofs (disch := omega) only [go_sem, ↓reduceIte, reduceCtorEq, Nat.reduceAdd, Nat.reduceSub, Nat.reduceEqDiff, Nat.reduceLeDiff, Nat.reduceBEq]
    exact Ev.ret _
  | succ d ih =>
    intro i hd n hin o c ho hoi hj h0 h1 hv
    subst hin
    have la := lim_getD ha i
    have lb := lim_getD hb i
    have va := val_take_step (l := a) i
    have vb := val_take_step (l := b) i
    have eo : o.getD i 0 = a.getD i 0 := hj i (Nat.le_refl _)
    have hlen : (o.take i).length = i := by rw [List.length_take]; exact Nat.min_eq_left (by clear ih va vb hv hge hj; omega)
    have step : ∀ s t : Int, s = (a.getD i 0 - c - b.getD i 0) % 18446744073709551616 → t = s / 9223372036854775808 → ∃ (o' : List Int) (c' : Int), Ev (fun k => run (lvl tab ext k) F64C0 F64L0 ⟨mk [(0, .row 0 none), (1, (.pv (.ints .u32 (b)))), (5, (.pv (.int .u64 (t)))), (9, (.pv (.int .i64 ((a.length : Int))))), (10, (.pv (.int .i64 ((i : Int) + 1))))], hp [(0, (.row (.ints .u32 (o.set i (s % 4294967296))) true))]⟩)
      (.exit 0, ⟨mk [(0, .row 0 none), (1, (.pv (.ints .u32 (b)))), (5, (.pv (.int .u64 (c')))), (9, (.pv (.int .i64 ((a.length : Int))))), (10, (.pv (.int .i64 ((a.length : Int))))), (11, (.pv (.bool (false))))], hp [(0, (.row (.ints .u32 (o')) true))]⟩) ∧ Lim o' ∧ o'.length = a.length ∧ val o' = val a - val b := by
      intro s t hs1 ht1
      obtain ⟨t0, t1, hsum⟩ := borrow la.1 la.2 lb.1 lb.2 h0 h1 hs1 ht1
      clear hs1 ht1
      refine ih (i + 1) (by clear ih va vb hv hge hj hsum; omega) _ (by clear ih va vb hv hge hj hsum; omega) _ _ (lim_set ho i (Int.emod_nonneg _ (by decide)) (Int.emod_lt_of_pos _ (by decide))) (by rw [List.length_set, hoi]) ?_ t0 t1 ?_
      · intro j hjj
        rw [← hj j (Nat.le_of_succ_le hjj), List.getD_eq_getElem?_getD, List.getD_eq_getElem?_getD, List.getElem?_set_ne (Nat.ne_of_lt hjj)]
      · have ht : (o.set i (s % 4294967296)).take (i + 1) = o.take i ++ [s % 4294967296] := by
          have hlt : i < o.length := by clear ih va vb hv hge hj hsum; omega
          rw [take_succ_snoc (by rw [List.length_set]; exact hlt), take_set_self]
          congr 2
          rw [List.getD_eq_getElem?_getD, List.getElem?_set_self hlt]; rfl
        rw [ht, val_snoc, hlen, P_succ, va, vb]
        exact less_arith _ _ _ _ c.toNat _ _ _ _ hv hsum
    clear ih va vb hv hge
    by_cases hib : i < b.length
    · obtain ⟨o', c', r1, r2⟩ := step _ _ rfl rfl
      refine ⟨o', c', ?_, r2⟩
      clear step r2 hj
      have e0 : (a.getD i 0 - c) % 18446744073709551616 - b.getD i 0 = a.getD i 0 - c - b.getD i 0 ∨ (a.getD i 0 - c) % 18446744073709551616 - b.getD i 0 = a.getD i 0 - c - b.getD i 0 + 18446744073709551616 := by omega
      have e : ((a.getD i 0 - c) % 18446744073709551616 - b.getD i 0) % 18446744073709551616 = (a.getD i 0 - c - b.getD i 0) % 18446744073709551616 := by omega
      generalize hs : (a.getD i 0 - c - b.getD i 0) % 18446744073709551616 = s at *
      refine Ev.body (by unfold F64L0; rfl) ?_
      simp -implicitDefEqProofs (disch := omega) only [eo, e, go_sem, ↓reduceIte, reduceCtorEq, Nat.reduceAdd, Nat.reduceSub, Nat.reduceEqDiff, Nat.reduceLeDiff, Nat.reduceBEq]
      exact Ev.lp (by simp -implicitDefEqProofs (disch := omega) only [F64C0, go_sem, ↓reduceIte, reduceCtorEq, Nat.reduceAdd, Nat.reduceSub, Nat.reduceEqDiff, Nat.reduceLeDiff, Nat.reduceBEq]) r1
    · obtain ⟨o', c', r1, r2⟩ := step _ _ rfl rfl
      refine ⟨o', c', ?_, r2⟩
      clear step r2 hj
      have hb0 : b.getD i 0 = 0 := by rw [List.getD_eq_getElem?_getD, List.getElem?_eq_none (by omega)]; rfl
      rw [hb0, Int.sub_zero] at r1
      refine Ev.body (by unfold F64L0; rfl) ?_
      simp -implicitDefEqProofs (disch := omega) only [eo, go_sem, ↓reduceIte, reduceCtorEq, Nat.reduceAdd, Nat.reduceSub, Nat.reduceEqDiff, Nat.reduceLeDiff, Nat.reduceBEq]
      exact Ev.lp (by simp -implicitDefEqProofs (disch := omega) only [F64C0, go_sem, ↓reduceIte, reduceCtorEq, Nat.reduceAdd, Nat.reduceSub, Nat.reduceEqDiff, Nat.reduceLeDiff, Nat.reduceBEq]) r1
theorem less_ev {a b : List Int} (ha : Lim a) (hb : Lim b) (hn : b.length ≤ a.length) (sa : a.length ≤ 1000000000) (hge : val b ≤ val a) : Ev (fun k => (lvl tab ext k).call 64 [(.own (.ints .u32 (a))), (.pv (.ints .u32 (b)))]) [(.own (.ints .u32 (ofN (val a - val b))))] := by
  obtain ⟨o', c', r1, r2, r3, r4⟩ := less_loop ha hb hn sa hge a.length 0 (by omega) 0 rfl a 0 ha rfl (fun _ _ => rfl) (by omega) (by omega) (by simp [val])
  refine Ev.call rfl tab64 ?_
  simp -implicitDefEqProofs (disch := omega) only [F64, go_sem, ↓reduceIte, reduceCtorEq, Nat.reduceAdd, Nat.reduceSub, Nat.reduceEqDiff, Nat.reduceLeDiff, Nat.reduceBEq]
  refine Ev.bind (Ev.lp (by simp -implicitDefEqProofs (disch := omega) only [F64C0, go_sem, ↓reduceIte, reduceCtorEq, Nat.reduceAdd, Nat.reduceSub, Nat.reduceEqDiff, Nat.reduceLeDiff, Nat.reduceBEq]) r1) ?_
  simp -implicitDefEqProofs (disch := omega) only [go_sem, ↓reduceIte, reduceCtorEq, Nat.reduceAdd, Nat.reduceSub, Nat.reduceEqDiff, Nat.reduceLeDiff, Nat.reduceBEq]
  rw [← r4]
  refine Ev.bind (trimo_ev r2 (by omega)) ?_
  simp -implicitDefEqProofs (disch := omega) only [go_sem, ↓reduceIte, reduceCtorEq, Nat.reduceAdd, Nat.reduceSub, Nat.reduceEqDiff, Nat.reduceLeDiff, Nat.reduceBEq]
  exact Ev.ret _
theorem sub_ev {a b : List Int} (ha : Lim a) (hb : Lim b) (sa : a.length ≤ 1000000000) (sb : b.length ≤ 1000000000) : Ev (fun k => (lvl tab ext k).call 60 [(.pv (.ints .u32 (a))), (.pv (.ints .u32 (b)))]) [(.pv (.ints .u32 (ofN (val a - val b)))), (.pv (.bool (decide (val b ≤ val a))))] := by
  have h1 := len_val_le ha
  refine Ev.call rfl tab60 ?_
  simp -implicitDefEqProofs (disch := omega) only [F60, go_sem, ↓reduceIte, reduceCtorEq, Nat.reduceAdd, Nat.reduceSub, Nat.reduceEqDiff, Nat.reduceLeDiff, Nat.reduceBEq]
  refine Ev.bind (cmp_ev ha hb sa sb) ?_
  by_cases hlt : val a < val b
  · rw [cmp_lt hlt, decide_eq_false (by omega), show val a - val b = 0 from by omega, ofN_zero]
    simp -implicitDefEqProofs (disch := omega) only [go_sem, ↓reduceIte, reduceCtorEq, Nat.reduceAdd, Nat.reduceSub, Nat.reduceEqDiff, Nat.reduceLeDiff, Nat.reduceBEq]
    exact Ev.ret _
  · have hc : 0 ≤ cmp (val a) (val b) := cmp_nonneg.2 (by omega)
    rw [decide_eq_true (by omega)]
    simp -implicitDefEqProofs (disch := omega) only [go_sem, ↓reduceIte, reduceCtorEq, Nat.reduceAdd, Nat.reduceSub, Nat.reduceEqDiff, Nat.reduceLeDiff, Nat.reduceBEq]
    refine Ev.bind (norm_ev ha sa) ?_
    simp -implicitDefEqProofs (disch := omega) only [go_sem, ↓reduceIte, reduceCtorEq, Nat.reduceAdd, Nat.reduceSub, Nat.reduceEqDiff, Nat.reduceLeDiff, Nat.reduceBEq]
    refine Ev.bind (trim_ev hb sb) ?_
    simp -implicitDefEqProofs (disch := omega) only [go_sem, ↓reduceIte, reduceCtorEq, Nat.reduceAdd, Nat.reduceSub, Nat.reduceEqDiff, Nat.reduceLeDiff, Nat.reduceBEq]
    have := less_ev (lim_ofN (val a)) (lim_ofN (val b)) (len_mono (by omega)) (by omega) (by rw [val_ofN, val_ofN]; omega)
    rw [val_ofN, val_ofN] at this
    refine Ev.bind this ?_
    simp -implicitDefEqProofs (disch := omega) only [go_sem, ↓reduceIte, reduceCtorEq, Nat.reduceAdd, Nat.reduceSub, Nat.reduceEqDiff, Nat.reduceLeDiff, Nat.reduceBEq]
    exact Ev.ret _
end Go.Proofs.Ytkeipmkiilimeaa.V
set_option linter.unusedSimpArgs false
set_option linter.unusedVariables false
namespace Go.Proofs.Ytkeipmkiilimeaa.V
open Go Go.Proofs.Ytkeipmkiilimeaa.M
/-! products -/
theorem mul_inner {a b : List Int} (ha : Lim a) (hb : Lim b) (sab : a.length + b.length ≤ 1000000000) {i : Nat} (hi : i < a.length) :
    ∀ d k, d + k = b.length → ∀ n : Int, n = k → ∀ (o : List Int) (c : Int), Lim o → o.length = a.length + b.length → 0 ≤ c → c < 4294967296 → (∀ j, i + b.length ≤ j → o.getD j 0 = 0) →
    val o + P (i + k) * c.toNat = val (a.take i) * val b + P i * (a.getD i 0).toNat * val (b.take k) →
    ∃ (o' : List Int) (c' : Int), Ev (fun k => run (lvl tab ext k) F47C1 F47L1 ⟨mk [(0, (.pv (.ints .u32 (a)))), (1, (.pv (.ints .u32 (b)))), (5, .row 5 none), (6, (.pv (.int .i64 ((i : Int))))), (7, (.pv (.int .u64 (c)))), (20, (.pv (.int .i64 ((a.length : Int))))), (21, (.pv (.int .i64 ((i : Int))))), (25, (.pv (.int .i64 ((b.length : Int))))), (26, (.pv (.int .i64 (n))))], hp [(5, (.row (.ints .u32 (o)) true))]⟩)
      (.exit 2, ⟨mk [(0, (.pv (.ints .u32 (a)))), (1, (.pv (.ints .u32 (b)))), (5, .row 5 none), (6, (.pv (.int .i64 ((i : Int))))), (7, (.pv (.int .u64 (c')))), (20, (.pv (.int .i64 ((a.length : Int))))), (21, (.pv (.int .i64 ((i : Int))))), (25, (.pv (.int .i64 ((b.length : Int))))), (26, (.pv (.int .i64 ((b.length : Int))))), (27, (.pv (.bool (false))))], hp [(5, (.row (.ints .u32 (o')) true))]⟩) ∧
      Lim o' ∧ o'.length = a.length + b.length ∧ 0 ≤ c' ∧ c' < 4294967296 ∧ (∀ j, i + b.length ≤ j → o'.getD j 0 = 0) ∧ val o' + P (i + b.length) * c'.toNat = val (a.take i) * val b + P i * (a.getD i 0).toNat * val b := by
  intro d
  induction d with
  | zero =>
    intro k hd n hn o c ho hol h0 h1 hz hv
    have hk : k = b.length := by clear hv hz; omega
    subst hn
    subst hk
    rw [List.take_length] at hv
    refine ⟨o, c, ?_, ho, hol, h0, h1, hz, hv⟩
    clear hv hz
    refine Ev.body (by unfold F47L1; rfl) ?_
    simp -implicitDefEqProofs (disch := omega) only [go_sem, ↓reduceIte, reduceCtorEq, Nat.reduceAdd, Nat.reduceSub, Nat.reduceEqDiff, Nat.reduceLeDiff, Nat.reduceBEq]
    exact Ev.ret _
  | succ d ih =>
    intro k hd n hn o c ho hol h0 h1 hz hv
    subst hn
    have la := lim_getD ha i
    have lb := lim_getD hb k
    have lo := lim_getD ho (i + k)
    have hlt : i + k < o.length := by clear hv hz ih la lb lo; omega
    have hkb : k < b.length := by clear hv hz ih la lb lo; omega
    have step : ∀ s : Int, s = c + (a.getD i 0 * b.getD k 0 + o.getD (i + k) 0) → 0 ≤ s → s < 18446744073709551616 → _ := fun s hs s0 s1 =>
      ih (k + 1) (by clear hv hz ih la lb lo hs; omega) ((k : Int) + 1) (by omega) (o.set (i + k) (s % 4294967296)) (s / 4294967296) (lim_set ho _ (Int.emod_nonneg _ (by decide)) (Int.emod_lt_of_pos _ (by decide))) (by rw [List.length_set, hol]) (by clear hv hz ih la lb lo hs; omega) (by clear hv hz ih la lb lo hs; omega) (by
        intro j hj
        have hne : i + k ≠ j := by clear hv hz ih la lb lo hs; omega
        exact (M.getD_set_ne hne).trans (hz j hj)) (by
        have hvs := val_set hlt (s % 4294967296)
        have htk := val_take_succ (l := b) (i := k) hkb
        have hsn : (s % 4294967296).toNat + 4294967296 * (s / 4294967296).toNat = c.toNat + (a.getD i 0).toNat * (b.getD k 0).toNat + (o.getD (i + k) 0).toNat := by
          have e : (a.getD i 0 * b.getD k 0).toNat = (a.getD i 0).toNat * (b.getD k 0).toNat := Int.toNat_mul la.1 lb.1
          have e0 : 0 ≤ a.getD i 0 * b.getD k 0 := Int.mul_nonneg la.1 lb.1
          rw [← e]
          clear hvs htk hv hz ih
          omega
        rw [htk, show i + (k + 1) = (i + k) + 1 from rfl, P_succ]
        have hp := P_add i k
        clear ih hz htk hs s0 s1 la lb lo
        generalize (s % 4294967296).toNat = u1 at *
        generalize (s / 4294967296).toNat = u2 at *
        generalize (a.getD i 0).toNat = x at *
        generalize (b.getD k 0).toNat = y at *
        generalize (o.getD (i + k) 0).toNat = z at *
        generalize c.toNat = cc at *
        generalize val (o.set (i + k) (s % 4294967296)) = vo2 at *
        generalize val o = vo at *
        generalize val (a.take i) * val b = A at *
        generalize val (b.take k) = B at *
        rw [hp] at hvs hv ⊢
        have h9 : P i * P k * (u1 + 4294967296 * u2) = P i * P k * (cc + x * y + z) := by rw [hsn]
        generalize P i = p at *
        generalize P k = q at *
        clear hp hsn
        grind)
    have hprod : a.getD i 0 * b.getD k 0 ≤ 4294967295 * 4294967295 := Int.mul_le_mul (by omega) (by omega) lb.1 (by omega)
    have hprod0 : 0 ≤ a.getD i 0 * b.getD k 0 := Int.mul_nonneg la.1 lb.1
    obtain ⟨o', c', r1, r2⟩ := step _ rfl (by clear ih step hv hz; omega) (by clear ih step hv hz; omega)
    refine ⟨o', c', ?_, r2⟩
    clear ih step hv hz r2
    generalize hab : a.getD i 0 * b.getD k 0 = ab at *
    have e : ((i : Int) + (k : Int)).toNat = i + k := by omega
    refine Ev.body (by unfold F47L1; rfl) ?_
    simp -implicitDefEqProofs (disch := omega) only [e, hab, go_sem, ↓reduceIte, reduceCtorEq, Nat.reduceAdd, Nat.reduceSub, Nat.reduceEqDiff, Nat.reduceLeDiff, Nat.reduceBEq]
    exact Ev.lp (by simp -implicitDefEqProofs (disch := omega) only [F47C1, go_sem, ↓reduceIte, reduceCtorEq, Nat.reduceAdd, Nat.reduceSub, Nat.reduceEqDiff, Nat.reduceLeDiff, Nat.reduceBEq]) r1
theorem mul_loop {a b : List Int} (ha : Lim a) (hb : Lim b) (sab : a.length + b.length ≤ 1000000000) : ∀ d i, d + i = a.length → ∀ n : Int, n = i → ∀ o : List Int, Lim o → o.length = a.length + b.length → (∀ j, i + b.length ≤ j → o.getD j 0 = 0) → val o = val (a.take i) * val b →
    ∃ o' : List Int, Ev (fun k => run (lvl tab ext k) F47C0 F47L0 ⟨mk [(0, (.pv (.ints .u32 (a)))), (1, (.pv (.ints .u32 (b)))), (5, .row 5 none), (20, (.pv (.int .i64 ((a.length : Int))))), (21, (.pv (.int .i64 (n))))], hp [(5, (.row (.ints .u32 (o)) true))]⟩)
      (.exit 0, ⟨mk [(0, (.pv (.ints .u32 (a)))), (1, (.pv (.ints .u32 (b)))), (5, .row 5 none), (20, (.pv (.int .i64 ((a.length : Int))))), (21, (.pv (.int .i64 ((a.length : Int))))), (22, (.pv (.bool (false))))], hp [(5, (.row (.ints .u32 (o')) true))]⟩) ∧ Lim o' ∧ o'.length = a.length + b.length ∧ val o' = val a * val b := by
  intro d
  induction d with
  | zero =>
    intro i hd n hn o ho hol hz hv
    have hi : i = a.length := by clear hv hz; omega
    subst hn
    subst hi
    rw [List.take_length] at hv
    refine ⟨o, ?_, ho, hol, hv⟩
    clear hv hz
    refine Ev.body (by unfold F47L0; rfl) ?_
    simp -implicitDefEqProofs (disch := omega) only [go_sem, ↓reduceIte, reduceCtorEq, Nat.reduceAdd, Nat.reduceSub, Nat.reduceEqDiff, Nat.reduceLeDiff, Nat.reduceBEq]
    exact Ev.ret _
  | succ d ih =>
    intro i hd n hn o ho hol hz hv
    subst hn
    have hi : i < a.length := by clear hv hz ih; omega
    obtain ⟨o1, c1, r1, r2, r3, r4, r5, r6, r7⟩ := mul_inner ha hb sab hi b.length 0 (by omega) 0 rfl o 0 ho hol (by omega) (by omega) hz (by rw [hv]; simp [val])
    have hlt : i + b.length < o1.length := by clear hv hz ih r7 r6; omega
    obtain ⟨o', q1, q2⟩ := ih (i + 1) (by clear hv hz ih r7 r6; omega) ((i : Int) + 1) (by omega) (o1.set (i + b.length) c1) (lim_set r2 _ r4 r5) (by rw [List.length_set, r3])
      (fun j hj => (M.getD_set_ne (by clear hv hz ih r7 r6; omega)).trans (r6 j (by clear hv hz ih r7 r6; omega))) (by
        have hs := val_set hlt c1
        rw [r6 _ (Nat.le_refl _)] at hs
        rw [val_take_succ hi]
        have : ((0 : Int)).toNat = 0 := rfl
        rw [this] at hs
        clear ih hz r6 hv r1
        grind)
    refine ⟨o', ?_, q2⟩
    clear ih hv hz q2 r6 r7
    have e : ((i : Int) + (b.length : Int)).toNat = i + b.length := by omega
    refine Ev.body (by unfold F47L0; rfl) ?_
    simp -implicitDefEqProofs (disch := omega) only [go_sem, ↓reduceIte, reduceCtorEq, Nat.reduceAdd, Nat.reduceSub, Nat.reduceEqDiff, Nat.reduceLeDiff, Nat.reduceBEq]
    refine Ev.bind (Ev.lp (by simp -implicitDefEqProofs (disch := omega) only [F47C1, go_sem, ↓reduceIte, reduceCtorEq, Nat.reduceAdd, Nat.reduceSub, Nat.reduceEqDiff, Nat.reduceLeDiff, Nat.reduceBEq]) r1) ?_
    simp -implicitDefEqProofs (disch := omega) only [e, go_sem, ↓reduceIte, reduceCtorEq, Nat.reduceAdd, Nat.reduceSub, Nat.reduceEqDiff, Nat.reduceLeDiff, Nat.reduceBEq]
    exact Ev.lp (by simp -implicitDefEqProofs (disch := omega) only [F47C0, go_sem, ↓reduceIte, reduceCtorEq, Nat.reduceAdd, Nat.reduceSub, Nat.reduceEqDiff, Nat.reduceLeDiff, Nat.reduceBEq]) q1
theorem mul_ev {a b : List Int} (ha : Lim a) (hb : Lim b) (sab : a.length + b.length ≤ 1000000000) : Ev (fun k => (lvl tab ext k).call 47 [(.pv (.ints .u32 (a))), (.pv (.ints .u32 (b)))]) [(.own (.ints .u32 (ofN (val a * val b))))] := by
  have h1 := len_val_le ha
  have h2 := len_val_le hb
  refine Ev.call rfl tab47 ?_
  simp -implicitDefEqProofs (disch := omega) only [F47, go_sem, ↓reduceIte, reduceCtorEq, Nat.reduceAdd, Nat.reduceSub, Nat.reduceEqDiff, Nat.reduceLeDiff, Nat.reduceBEq]
  refine Ev.bind (trim_ev ha (by omega)) ?_
  simp -implicitDefEqProofs (disch := omega) only [go_sem, ↓reduceIte, reduceCtorEq, Nat.reduceAdd, Nat.reduceSub, Nat.reduceEqDiff, Nat.reduceLeDiff, Nat.reduceBEq]
  refine Ev.bind (trim_ev hb (by omega)) ?_
  have e : (((ofN (val a)).length : Int) + ((ofN (val b)).length : Int)).toNat = (ofN (val a)).length + (ofN (val b)).length := by omega
  simp -implicitDefEqProofs (disch := omega) only [e, go_sem, ↓reduceIte, reduceCtorEq, Nat.reduceAdd, Nat.reduceSub, Nat.reduceEqDiff, Nat.reduceLeDiff, Nat.reduceBEq]
  obtain ⟨o', q1, q2, q3, q4⟩ := mul_loop (lim_ofN (val a)) (lim_ofN (val b)) (by omega) (ofN (val a)).length 0 (by omega) 0 rfl (List.replicate ((ofN (val a)).length + (ofN (val b)).length) 0) (lim_rep _) (by simp) (fun j _ => getD_rep _ _) (by rw [val_rep]; simp [val])
  rw [val_ofN, val_ofN] at q4
  refine Ev.bind (Ev.lp (by simp -implicitDefEqProofs (disch := omega) only [F47C0, go_sem, ↓reduceIte, reduceCtorEq, Nat.reduceAdd, Nat.reduceSub, Nat.reduceEqDiff, Nat.reduceLeDiff, Nat.reduceBEq]) q1) ?_
  simp -implicitDefEqProofs (disch := omega) only [go_sem, ↓reduceIte, reduceCtorEq, Nat.reduceAdd, Nat.reduceSub, Nat.reduceEqDiff, Nat.reduceLeDiff, Nat.reduceBEq]
  rw [← q4]
  refine Ev.bind (trimo_ev q2 (by omega)) ?_
  simp -implicitDefEqProofs (disch := omega) only [go_sem, ↓reduceIte, reduceCtorEq, Nat.reduceAdd, Nat.reduceSub, Nat.reduceEqDiff, Nat.reduceLeDiff, Nat.reduceBEq]
  exact Ev.ret _
/-! division by a limb -/
theorem small_loop {a : List Int} (ha : Lim a) (sa : a.length ≤ 1000000000) {d : Int} (d0 : 0 < d) (d1 : d < 4294967296) : ∀ i, i ≤ a.length → ∀ n : Int, n = (i : Int) - 1 → ∀ (o : List Int) (c : Int), Lim o → o.length = a.length → 0 ≤ c → c < d → (∀ j, j < i → o.getD j 0 = 0) →
    val a = val o * d.toNat + (val (a.take i) + P i * c.toNat) →
    ∃ (o' : List Int) (c' : Int), Ev (fun k => run (lvl tab ext k) F62C0 F62L0 ⟨mk [(0, (.pv (.ints .u32 (a)))), (1, (.pv (.int .u32 (d)))), (6, .row 6 none), (7, (.pv (.int .u64 (c)))), (8, (.pv (.int .i64 (n))))], hp [(6, (.row (.ints .u32 (o)) true))]⟩)
      (.exit 0, ⟨mk [(0, (.pv (.ints .u32 (a)))), (1, (.pv (.int .u32 (d)))), (6, .row 6 none), (7, (.pv (.int .u64 (c')))), (8, (.pv (.int .i64 (-1)))), (16, (.pv (.bool (false))))], hp [(6, (.row (.ints .u32 (o')) true))]⟩) ∧ Lim o' ∧ o'.length = a.length ∧ 0 ≤ c' ∧ c' < d ∧ val o' = val a / d.toNat ∧ c' = ((val a % d.toNat : Nat) : Int) := by
  intro i
  induction i with
  | zero =>
    intro hi n hn o c ho hol c0 cd hz hv
    have hn : n = -1 := by omega
    subst hn
    simp only [List.take_zero, val, P_zero, Nat.one_mul, Nat.zero_add] at hv
    have hcd : c.toNat < d.toNat := by clear hv hz; omega
    have h1 : val a / d.toNat = val o := by rw [hv, Nat.add_comm, Nat.add_mul_div_right _ _ (by omega), Nat.div_eq_of_lt hcd, Nat.zero_add]
    have h2 : val a % d.toNat = c.toNat := by rw [hv, Nat.add_comm, Nat.add_mul_mod_self_right, Nat.mod_eq_of_lt hcd]
    rw [h1, h2]
    refine ⟨o, c, ?_, ho, hol, c0, cd, rfl, by clear h1 h2 hv hz; omega⟩
    clear h1 h2 hv hz
    refine Ev.body (by unfold F62L0; rfl) ?_
    simp -implicitDefEqProofs (disch := omega) only [go_sem, ↓reduceIte, reduceCtorEq, Nat.reduceAdd, Nat.reduceSub, Nat.reduceEqDiff, Nat.reduceLeDiff, Nat.reduceBEq]
    exact Ev.ret _
  | succ i ih =>
    intro hi n hn o c ho hol c0 cd hz hv
    have hn : n = (i : Int) := by clear hv hz ih; omega
    subst hn
    have hia : i < a.length := hi
    have la := lim_getD ha i
    have hlt : i < o.length := by clear hv hz ih; omega
    have hc9 : c < 4294967296 := by clear hv hz ih; omega
    have ex := or_low c0 hc9 la.1 la.2
    generalize hs : c * 4294967296 + a.getD i 0 = s at *
    have s0 : 0 ≤ s := by clear hv hz ih; omega
    have hq0 : 0 ≤ s / d := Int.ediv_nonneg s0 (by clear hv hz ih; omega)
    have hq1 : s / d < 4294967296 := by
      rw [Int.ediv_lt_iff_lt_mul d0, ← hs]
      clear hv hz ih
      have : (c + 1) * 4294967296 ≤ d * 4294967296 := Int.mul_le_mul_of_nonneg_right (by omega) (by decide)
      rw [Int.mul_comm 4294967296 d]
      omega
    have hm0 := Int.emod_nonneg s (show d ≠ 0 by omega)
    have hm1 := Int.emod_lt_of_pos s d0
    have hdm := Int.mul_ediv_add_emod s d
    obtain ⟨o', c', r1, r2⟩ := ih (by omega) ((i : Int) - 1) rfl (o.set i (s / d)) (s % d) (lim_set ho i hq0 hq1) (by rw [List.length_set, hol]) hm0 hm1
      (fun j hj => (M.getD_set_ne (by clear hv hz ih; omega)).trans (hz j (by clear hv hz ih; omega))) (by
      have hvs := val_set hlt (s / d)
      rw [hz i (by omega)] at hvs
      rw [val_take_succ hia, P_succ] at hv
      have hN : s.toNat = d.toNat * (s / d).toNat + (s % d).toNat := by
        have e1 : (d * (s / d)).toNat = d.toNat * (s / d).toNat := Int.toNat_mul (by omega) hq0
        have e2 : 0 ≤ d * (s / d) := Int.mul_nonneg (by omega) hq0
        rw [← e1]
        clear hv hvs hz ih
        omega
      have hS : s.toNat = c.toNat * 4294967296 + (a.getD i 0).toNat := by clear hv hvs hz ih hN hdm; omega
      have h9 : P i * (d.toNat * (s / d).toNat + (s % d).toNat) = P i * (c.toNat * 4294967296 + (a.getD i 0).toNat) := by rw [← hN, hS]
      have h00 : ((0 : Int)).toNat = 0 := rfl
      rw [h00] at hvs
      generalize val (o.set i (s / d)) = vo2 at *
      generalize val o = vo at *
      generalize val (a.take i) = A at *
      generalize (s / d).toNat = q at *
      generalize (s % d).toNat = m at *
      generalize (a.getD i 0).toNat = x at *
      generalize d.toNat = dd at *
      generalize c.toNat = cc at *
      generalize P i = p at *
      generalize val a = V at *
      clear ih hz hN hS hdm ex
      grind)
    refine ⟨o', c', ?_, r2⟩
    clear ih hv hz r2 hdm
    have t1 : s.tdiv d = s / d := Int.tdiv_eq_ediv_of_nonneg s0
    have t2 : s.tmod d = s % d := Int.tmod_eq_emod_of_nonneg s0
    refine Ev.body (by unfold F62L0; rfl) ?_
    simp -implicitDefEqProofs (disch := omega) only [ex, t1, t2, go_sem, ↓reduceIte, reduceCtorEq, Nat.reduceAdd, Nat.reduceSub, Nat.reduceEqDiff, Nat.reduceLeDiff, Nat.reduceBEq]
    exact Ev.lp (by simp -implicitDefEqProofs (disch := omega) only [F62C0, go_sem, ↓reduceIte, reduceCtorEq, Nat.reduceAdd, Nat.reduceSub, Nat.reduceEqDiff, Nat.reduceLeDiff, Nat.reduceBEq]) r1
theorem small_ev {a : List Int} (ha : Lim a) (sa : a.length ≤ 1000000000) {d : Int} (d0 : 0 < d) (d1 : d < 4294967296) : Ev (fun k => (lvl tab ext k).call 62 [(.pv (.ints .u32 (a))), (.pv (.int .u32 (d)))]) [(.pv (.ints .u32 (ofN (val a / d.toNat)))), (.pv (.int .u32 (((val a % d.toNat : Nat) : Int))))] := by
  obtain ⟨o', c', r1, r2, r3, r4, r5, r6, r7⟩ := small_loop ha sa d0 d1 a.length (Nat.le_refl _) _ rfl (List.replicate a.length 0) 0 (lim_rep _) (by simp) (by omega) d0 (fun j _ => getD_rep _ _) (by rw [val_rep, List.take_length]; simp)
  rw [← r7, ← r6]
  clear r6 r7
  refine Ev.call rfl tab62 ?_
  simp -implicitDefEqProofs (disch := omega) only [F62, go_sem, ↓reduceIte, reduceCtorEq, Nat.reduceAdd, Nat.reduceSub, Nat.reduceEqDiff, Nat.reduceLeDiff, Nat.reduceBEq]
  refine Ev.bind (Ev.lp (by simp -implicitDefEqProofs (disch := omega) only [F62C0, go_sem, ↓reduceIte, reduceCtorEq, Nat.reduceAdd, Nat.reduceSub, Nat.reduceEqDiff, Nat.reduceLeDiff, Nat.reduceBEq]) r1) ?_
  simp -implicitDefEqProofs (disch := omega) only [go_sem, ↓reduceIte, reduceCtorEq, Nat.reduceAdd, Nat.reduceSub, Nat.reduceEqDiff, Nat.reduceLeDiff, Nat.reduceBEq]
  refine Ev.bind (trim_ev r2 (by omega)) ?_
  simp -implicitDefEqProofs (disch := omega) only [go_sem, ↓reduceIte, reduceCtorEq, Nat.reduceAdd, Nat.reduceSub, Nat.reduceEqDiff, Nat.reduceLeDiff, Nat.reduceBEq]
  exact Ev.ret _
/-! the length in bits -/
theorem tab_eq : ∀ n : Fin 256, ((F73S0.getD n.val 0).toNat : Int) = ((blenF 8 n.val : Nat) : Int) := by decide +kernel
theorem tab_len : F73S0.length = 256 := by decide +kernel
theorem tabl8 {n : Nat} (hn : n < 256) : ((F73S0.getD n 0).toNat : Int) = ((blen n : Nat) : Int) := (tab_eq ⟨n, hn⟩).trans (congrArg (fun x : Nat => (x : Int)) (blenF_eq 8 n hn))
theorem len32_ev {a : Nat} (h : a < 4294967296) : Ev (fun k => (lvl tab ext k).call 73 [(.pv (.int .u32 ((a : Int))))]) [(.pv (.int .i64 (((blen a : Nat) : Int))))] := by
  have nz : ∀ n : Nat, n < 256 → blen n ≤ 8 := fun n hn => blen_le_iff.2 hn
  have tl := tab_len
  refine Ev.call rfl tab73 ?_
  by_cases h1 : 65536 ≤ a
  · have s8 : (a : Int) / 65536 % 256 = (a : Int) / 65536 % 256 := rfl
    by_cases h2 : 256 ≤ a / 65536
    · have t := tabl8 (n := a / 16777216) (by omega)
      have e : ((a : Int) / 65536 / 256).toNat = a / 16777216 := by omega
      have b := nz (a / 16777216) (by omega)
      have s := blen_shift 24 a (by show a / 16777216 ≠ 0; omega)
      have hb : a / 2 ^ 24 = a / 16777216 := rfl
      rw [hb] at s
      simp -implicitDefEqProofs (disch := omega) only [F73, shr_u32_16, shr_u32_8, e, t, s, go_sem, ↓reduceIte, reduceCtorEq, Nat.reduceAdd, Nat.reduceSub, Nat.reduceEqDiff, Nat.reduceLeDiff, Nat.reduceBEq]
      exact ret_int (by omega)
    · have t := tabl8 (n := a / 65536) (by omega)
      have e : ((a : Int) / 65536).toNat = a / 65536 := by omega
      have b := nz (a / 65536) (by omega)
      have s := blen_shift 16 a (by show a / 65536 ≠ 0; omega)
      have hb : a / 2 ^ 16 = a / 65536 := rfl
      rw [hb] at s
      simp -implicitDefEqProofs (disch := omega) only [F73, shr_u32_16, shr_u32_8, e, t, s, go_sem, ↓reduceIte, reduceCtorEq, Nat.reduceAdd, Nat.reduceSub, Nat.reduceEqDiff, Nat.reduceLeDiff, Nat.reduceBEq]
      exact ret_int (by omega)
  · by_cases h2 : 256 ≤ a
    · have t := tabl8 (n := a / 256) (by omega)
      have e : ((a : Int) / 256).toNat = a / 256 := by omega
      have b := nz (a / 256) (by omega)
      have s := blen_shift 8 a (by show a / 256 ≠ 0; omega)
      have hb : a / 2 ^ 8 = a / 256 := rfl
      rw [hb] at s
      simp -implicitDefEqProofs (disch := omega) only [F73, shr_u32_16, shr_u32_8, e, t, s, go_sem, ↓reduceIte, reduceCtorEq, Nat.reduceAdd, Nat.reduceSub, Nat.reduceEqDiff, Nat.reduceLeDiff, Nat.reduceBEq]
      exact ret_int (by omega)
    · have t := tabl8 (n := a) (by omega)
      have b := nz a (by omega)
      simp -implicitDefEqProofs (disch := omega) only [F73, shr_u32_16, shr_u32_8, t, go_sem, ↓reduceIte, reduceCtorEq, Nat.reduceAdd, Nat.reduceSub, Nat.reduceEqDiff, Nat.reduceLeDiff, Nat.reduceBEq]
      exact ret_int (by omega)
theorem size_ev {a : List Int} (ha : Lim a) (sa : a.length ≤ 1000000000) : Ev (fun k => (lvl tab ext k).call 63 [(.pv (.ints .u32 (a)))]) [(.pv (.int .i64 (((blen (val a) : Nat) : Int))))] := by
  have h1 := len_val_le ha
  refine Ev.call rfl tab63 ?_
  simp -implicitDefEqProofs (disch := omega) only [F63, go_sem, ↓reduceIte, reduceCtorEq, Nat.reduceAdd, Nat.reduceSub, Nat.reduceEqDiff, Nat.reduceLeDiff, Nat.reduceBEq]
  refine Ev.bind (trim_ev ha sa) ?_
  by_cases h0 : val a = 0
  · rw [h0, ofN_zero, blen_zero]
    simp -implicitDefEqProofs (disch := omega) only [go_sem, ↓reduceIte, reduceCtorEq, Nat.reduceAdd, Nat.reduceSub, Nat.reduceEqDiff, Nat.reduceLeDiff, Nat.reduceBEq]
    exact Ev.ret _
  · have hp : 0 < (ofN (val a)).length := ofN_length_pos.2 (by omega)
    have hl := limb_eq (lim_ofN (val a)) ((ofN (val a)).length - 1)
    have lb := lim_getD (lim_ofN (val a)) ((ofN (val a)).length - 1)
    rw [val_ofN] at hl
    generalize hm : (ofN (val a)).length - 1 = m at *
    have e : (((ofN (val a)).length : Int) - 1).toNat = m := by omega
    generalize hx : (ofN (val a)).getD m 0 = x at *
    have hlt : val a < P (m + 1) := by have := lt_P_len (val a); rwa [show (ofN (val a)).length = m + 1 by omega] at this
    have hge : P m ≤ val a := by have := P_len_le h0; rwa [hm] at this
    have hq : val a / P m < 4294967296 := by
      rw [Nat.div_lt_iff_lt_mul (P_pos m), ← P_succ]; exact hlt
    have hq0 : val a / P m ≠ 0 := by
      have := Nat.div_pos hge (P_pos m); omega
    rw [Nat.mod_eq_of_lt hq] at hl
    have hxx : x = ((val a / P m : Nat) : Int) := by omega
    have hb : blen (val a) = blen (val a / P m) + 32 * m := by
      rw [P_two] at hq0 ⊢; exact blen_shift _ _ hq0
    have h32 : blen (val a / P m) ≤ 32 := blen_le_iff.2 hq
    have hLm : (ofN (val a)).length = m + 1 := by omega
    have ll := len32_ev hq
    rw [← hxx] at ll
    clear hxx hq0 hq hlt hge hl
    simp -implicitDefEqProofs (disch := omega) only [e, hx, go_sem, ↓reduceIte, reduceCtorEq, Nat.reduceAdd, Nat.reduceSub, Nat.reduceEqDiff, Nat.reduceLeDiff, Nat.reduceBEq]
    refine Ev.bind ll ?_
    simp -implicitDefEqProofs (disch := omega) only [go_sem, ↓reduceIte, reduceCtorEq, Nat.reduceAdd, Nat.reduceSub, Nat.reduceEqDiff, Nat.reduceLeDiff, Nat.reduceBEq]
    exact ret_int (by omega)
end Go.Proofs.Ytkeipmkiilimeaa.V
set_option linter.unusedSimpArgs false
set_option linter.unusedVariables false
namespace Go.Proofs.Ytkeipmkiilimeaa.V
open Go Go.Proofs.Ytkeipmkiilimeaa.M
/-- The rest, doubled, and a bit added. -/
theorem dm_inner {a b x9 : List Int} {i11 : Int} {ρ : Nat} (hs : (ofN ρ).length ≤ 1000000000) {bit : Int} (b0 : 0 ≤ bit) (b1 : bit ≤ 1) :
    ∀ d k, d + k = (ofN ρ).length → ∀ n : Int, n = k → ∀ (o : List Int) (c : Int), Lim o → o.length = (ofN ρ).length → (∀ j, k ≤ j → o.getD j 0 = (ofN ρ).getD j 0) → 0 ≤ c → c ≤ 1 →
    val (o.take k) + P k * c.toNat = 2 * val ((ofN ρ).take k) + bit.toNat →
    ∃ (o' : List Int) (c' : Int), Ev (fun k => run (lvl tab ext k) F39C1 F39L1 ⟨mk [(0, (.pv (.ints .u32 (a)))), (1, (.pv (.ints .u32 (b)))), (9, .row 9 none), (10, .row 10 none), (11, (.pv (.int .i64 (i11)))), (12, (.pv (.int .u32 (c)))), (70, (.pv (.int .i64 (((ofN ρ).length : Int))))), (71, (.pv (.int .i64 (n))))], hp [(10, (.row (.ints .u32 (o)) true)), (9, (.row (.ints .u32 (x9)) true))]⟩)
      (.exit 3, ⟨mk [(0, (.pv (.ints .u32 (a)))), (1, (.pv (.ints .u32 (b)))), (9, .row 9 none), (10, .row 10 none), (11, (.pv (.int .i64 (i11)))), (12, (.pv (.int .u32 (c')))), (70, (.pv (.int .i64 (((ofN ρ).length : Int))))), (71, (.pv (.int .i64 (((ofN ρ).length : Int))))), (72, (.pv (.bool (false))))], hp [(10, (.row (.ints .u32 (o')) true)), (9, (.row (.ints .u32 (x9)) true))]⟩) ∧
      o'.length = (ofN ρ).length ∧ 0 ≤ c' ∧ c' ≤ 1 ∧ (0 < c' → o' ++ [c'] = ofN (2 * ρ + bit.toNat)) ∧ (¬ 0 < c' → o' = ofN (2 * ρ + bit.toNat)) := by
  intro d
  induction d with
  | zero =>
    intro k hd n hn o c ho hol hj c0 c1 hv
    have hk : k = (ofN ρ).length := by clear hv hj; omega
    subst hn
    rw [hk, List.take_length, ← hol, List.take_length, val_ofN] at hv
    refine ⟨o, c, ?_, hol, c0, c1, fun hc => ?_, fun hc => ?_⟩
    · clear hv hj
      subst hk
      refine Ev.body (by unfold F39L1; rfl) ?_
      simp -implicitDefEqProofs (disch := omega) only [go_sem, ↓reduceIte, reduceCtorEq, Nat.reduceAdd, Nat.reduceSub, Nat.reduceEqDiff, Nat.reduceLeDiff, Nat.reduceBEq]
      exact Ev.ret _
    · have h3 : c.toNat = 1 := by clear hv hj; omega
      have hv' : val (o ++ [c]) = 2 * ρ + bit.toNat := by rw [val_snoc]; exact hv
      rw [← hv']
      refine normal (by rw [lim_append, lim_cons]; exact ⟨ho, by omega, lim_nil⟩) (.inr ?_)
      rw [val_snoc, h3]; simp
    · have hc0 : c.toNat = 0 := by clear hv hj; omega
      rw [hc0, Nat.mul_zero, Nat.add_zero] at hv
      rw [← hv]
      refine normal ho ?_
      by_cases h0 : ρ = 0
      · left; rw [hol, h0, ofN_zero]; rfl
      · right
        rw [hol, hv]
        have := P_len_le h0
        clear hj; omega
  | succ d ih =>
    intro k hd n hn o c ho hol hj c0 c1 hv
    subst hn
    have lr := lim_getD (lim_ofN ρ) k
    have hlt : k < (ofN ρ).length := by clear hv hj ih; omega
    have hlo : k < o.length := by clear hv hj ih; omega
    have e1 : o.getD k 0 = (ofN ρ).getD k 0 := hj k (Nat.le_refl _)
    have hlen : (o.take k).length = k := by rw [List.length_take]; exact Nat.min_eq_left (Nat.le_of_lt hlo)
    have hva := val_take_succ hlt
    generalize (ofN ρ).getD k 0 = x at *
    have hx2 : x * 2 % 4294967296 % 2 = 0 := by clear hv hj ih hva; omega
    have eo := or_one (Int.emod_nonneg _ (by decide)) (Int.emod_lt_of_pos _ (by decide)) hx2 c0 c1
    have hs1 : 0 ≤ x * 2 % 4294967296 + c ∧ x * 2 % 4294967296 + c < 4294967296 := by clear hv hj ih hva; omega
    obtain ⟨o', c', r1, r2⟩ := ih (k + 1) (by clear hv hj ih hva; omega) ((k : Int) + 1) (by omega) (o.set k (x * 2 % 4294967296 + c)) (x / 2147483648) (lim_set ho _ hs1.1 hs1.2) (by rw [List.length_set, hol])
      (fun j hjj => (M.getD_set_ne (Nat.ne_of_lt hjj)).trans (hj j (Nat.le_of_succ_le hjj))) (by clear hv hj ih hva; omega) (by clear hv hj ih hva; omega) (by
      have ht : (o.set k (x * 2 % 4294967296 + c)).take (k + 1) = o.take k ++ [x * 2 % 4294967296 + c] := by
        rw [take_succ_snoc (by rw [List.length_set]; exact hlo), take_set_self, M.getD_set_eq hlo]
      rw [ht, val_snoc, hlen, P_succ, hva]
      have hn : (x * 2 % 4294967296 + c).toNat + 4294967296 * (x / 2147483648).toNat = 2 * x.toNat + c.toNat := by clear hv hj ih hva ht; omega
      clear ih hj hva ht hs1 hx2
      generalize (x * 2 % 4294967296 + c).toNat = s1 at *
      generalize (x / 2147483648).toNat = s2 at *
      have h9 : P k * (s1 + 4294967296 * s2) = P k * (2 * x.toNat + c.toNat) := by rw [hn]
      clear hn
      grind)
    refine ⟨o', c', ?_, r2⟩
    clear ih hj hv hva r2 hx2
    generalize hy : x * 2 % 4294967296 = y at *
    refine Ev.body (by unfold F39L1; rfl) ?_
    simp -implicitDefEqProofs (disch := omega) only [e1, hy, eo, go_sem, ↓reduceIte, reduceCtorEq, Nat.reduceAdd, Nat.reduceSub, Nat.reduceEqDiff, Nat.reduceLeDiff, Nat.reduceBEq]
    exact Ev.lp (by simp -implicitDefEqProofs (disch := omega) only [F39C1, go_sem, ↓reduceIte, reduceCtorEq, Nat.reduceAdd, Nat.reduceSub, Nat.reduceEqDiff, Nat.reduceLeDiff, Nat.reduceBEq]) r1
theorem dm_loop {α β : Nat} (hβ : β ≠ 0) (sa : (ofN α).length ≤ 100000000) (sb : (ofN β).length ≤ 100000000) : ∀ i, i ≤ 32 * (ofN α).length → ∀ n : Int, n = (i : Int) - 1 → ∀ x9 : List Int, Lim x9 → x9.length = (ofN α).length → val x9 = α / 2 ^ i / β * 2 ^ i →
    ∃ x9' : List Int, Ev (fun k => run (lvl tab ext k) F39C0 F39L0 ⟨mk [(0, (.pv (.ints .u32 (ofN α)))), (1, (.pv (.ints .u32 (ofN β)))), (9, .row 9 none), (10, .row 10 none), (11, (.pv (.int .i64 (n))))], hp [(10, (.row (.ints .u32 (ofN (α / 2 ^ i % β))) true)), (9, (.row (.ints .u32 (x9)) true))]⟩)
      (.exit 1, ⟨mk [(0, (.pv (.ints .u32 (ofN α)))), (1, (.pv (.ints .u32 (ofN β)))), (9, .row 9 none), (10, .row 10 none), (11, (.pv (.int .i64 (-1)))), (57, (.pv (.bool (false))))], hp [(10, (.row (.ints .u32 (ofN (α % β))) true)), (9, (.row (.ints .u32 (x9')) true))]⟩) ∧ Lim x9' ∧ x9'.length = (ofN α).length ∧ val x9' = α / β := by
  intro i
  induction i with
  | zero =>
    intro hi n hn x9 h9 hl hv
    have hn : n = -1 := by omega
    subst hn
    simp only [Nat.pow_zero, Nat.div_one, Nat.mul_one] at hv ⊢
    refine ⟨x9, ?_, h9, hl, hv⟩
    clear hv
    refine Ev.body (by unfold F39L0; rfl) ?_
    simp -implicitDefEqProofs (disch := omega) only [go_sem, ↓reduceIte, reduceCtorEq, Nat.reduceAdd, Nat.reduceSub, Nat.reduceEqDiff, Nat.reduceLeDiff, Nat.reduceBEq]
    exact Ev.ret _
  | succ i ih =>
    intro hi n hn x9 h9 hl hv
    have hn : n = (i : Int) := by clear hv ih; omega
    subst hn
    have hj : i / 32 < (ofN α).length := by clear hv ih; omega
    have hj9 : i / 32 < x9.length := by clear hv ih; omega
    have ht : i % 32 < 32 := by clear hv ih; omega
    have hi2 : i ≤ 32 * (ofN α).length := by clear hv ih; omega
    have hX : α / 2 ^ (i + 1) = α / 2 ^ i / 2 := by rw [Nat.pow_succ, ← Nat.div_div_eq_div_mul]
    have la := lim_getD (lim_ofN α) (i / 32)
    have l9 := lim_getD h9 (i / 32)
    have hbit := bit_eq (lim_ofN α) i
    rw [val_ofN] at hbit
    have hmath := dm_math (α / 2 ^ i) β (Nat.pos_of_ne_zero hβ)
    have hρ : α / 2 ^ (i + 1) % β < β := Nat.mod_lt _ (Nat.pos_of_ne_zero hβ)
    have hlρ : (ofN (α / 2 ^ (i + 1) % β)).length ≤ 100000000 := Nat.le_trans (len_mono (Nat.le_of_lt hρ)) sb
    have ex : (ofN α).getD (i / 32) 0 = (((ofN α).getD (i / 32) 0).toNat : Int) := (Int.toNat_of_nonneg la.1).symm
    have hla : ((ofN α).getD (i / 32) 0).toNat < 4294967296 := by clear hv ih l9 hbit hmath hρ hlρ; omega
    have hq : ((ofN α).getD (i / 32) 0).toNat / 2 ^ (i % 32) < 4294967296 := Nat.lt_of_le_of_lt (Nat.div_le_self _ _) hla
    have hb2 : andI .u32 (shrI .u32 ((ofN α).getD (i / 32) 0) ((i % 32 : Nat) : Int)) 1 = ((α / 2 ^ i % 2 : Nat) : Int) := by
      rw [ex, shr_nat _ ht, and_one (Int.natCast_nonneg _) (Int.ofNat_lt.2 hq), ← hbit]; rfl
    have hmod : α / 2 ^ i % 2 ≤ 1 := Nat.le_of_lt_succ (Nat.mod_lt _ (by decide))
    have hwd : ∀ x : Int, x < ((ofN α).length : Int) * 32 → 0 ≤ x → IntKind.i64.wrap x = x := fun x h1 h2 => w64 (by omega) (by clear hv ih la l9 hmath hρ; omega)
    obtain ⟨o', c', r1, r2, r3, r3', r4, r5⟩ := dm_inner (a := ofN α) (b := ofN β) (x9 := x9) (i11 := (i : Int)) (ρ := α / 2 ^ (i + 1) % β) (Nat.le_trans hlρ (by decide)) (bit := ((α / 2 ^ i % 2 : Nat) : Int)) (Int.natCast_nonneg _) (Int.ofNat_le.2 hmod)
      (ofN (α / 2 ^ (i + 1) % β)).length 0 (by omega) 0 rfl (ofN (α / 2 ^ (i + 1) % β)) ((α / 2 ^ i % 2 : Nat) : Int) (lim_ofN _) rfl (fun _ _ => rfl) (Int.natCast_nonneg _) (Int.ofNat_le.2 hmod) (by simp [val, P_zero])
    rw [Int.toNat_natCast, hX] at r4 r5
    rw [hX] at hv r1 r2 ⊢
    rw [hX] at hlρ hρ
    generalize hXX : α / 2 ^ i = X at *
    clear hbit hq ex la hla hwd
    have hlen2 : (ofN (2 * (X / 2 % β) + X % 2)).length ≤ 1000000000 := by
      have h1 : 2 * (X / 2 % β) + X % 2 < P 1 * β := by
        rw [P_succ, P_zero]
        have := Nat.mod_lt (X / 2) (Nat.pos_of_ne_zero hβ)
        clear hv ih hmath hρ hlρ l9 r4 r5
        omega
      have h2 : P 1 * β < P (1 + (ofN β).length) := by rw [P_add]; exact Nat.mul_lt_mul_of_pos_left (lt_P_len β) (P_pos 1)
      have := len_ofN_le (Nat.lt_trans h1 h2)
      clear hv ih hmath hρ hlρ l9 h1 h2 r4 r5
      omega
    have hc := cmp_ev (lim_ofN (2 * (X / 2 % β) + X % 2)) (lim_ofN β) hlen2 (Nat.le_trans sb (by decide))
    rw [val_ofN, val_ofN] at hc
    -- the turn up to the comparison, for both of the inner loop's ends
    by_cases hge : β ≤ 2 * (X / 2 % β) + X % 2
    · obtain ⟨hq, hm⟩ := hmath.1 hge
      have hcm : 0 ≤ cmp (2 * (X / 2 % β) + X % 2) β := cmp_nonneg.2 hge
      have hl2 := less_ev (lim_ofN (2 * (X / 2 % β) + X % 2)) (lim_ofN β) (len_mono hge) hlen2 (by rw [val_ofN, val_ofN]; exact hge)
      rw [val_ofN, val_ofN, ← hm] at hl2
      have ex9 : x9.getD (i / 32) 0 = ((x9.getD (i / 32) 0).toNat : Int) := (Int.toNat_of_nonneg l9.1).symm
      have h1 : (x9.getD (i / 32) 0).toNat < 4294967296 := by clear hv ih hmath hρ hlρ hc hl2 hq hm hge hlen2 r4 r5; omega
      have hroom := bit_room h9 hv
      have hp : 2 ^ (i % 32 + 1) ≤ 4294967296 := by
        have := Nat.pow_le_pow_right (show 0 < 2 by decide) (show i % 32 + 1 ≤ 32 by omega)
        exact this
      have hor := or_bit ht h1 hroom
      rw [← ex9, ← shl_one ht] at hor
      have hfit : (x9.getD (i / 32) 0).toNat + 2 ^ (i % 32) < 4294967296 := by
        have h2 : 2 ^ (i % 32) < 2 ^ (i % 32 + 1) := Nat.pow_lt_pow_right (by decide) (by omega)
        obtain ⟨y, hy⟩ := Nat.dvd_of_mod_eq_zero hroom
        have e2 : (4294967296 : Nat) = 2 ^ (i % 32 + 1) * 2 ^ (31 - i % 32) := by
          have : (4294967296 : Nat) = 2 ^ 32 := rfl
          rw [this, ← Nat.pow_add]; congr 1; omega
        rw [hy, e2] at h1 ⊢
        have h3 : y < 2 ^ (31 - i % 32) := Nat.lt_of_mul_lt_mul_left h1
        have h4 : 2 ^ (i % 32 + 1) * (y + 1) ≤ 2 ^ (i % 32 + 1) * 2 ^ (31 - i % 32) := Nat.mul_le_mul_left _ h3
        rw [Nat.mul_add, Nat.mul_one] at h4
        clear hv ih hmath hρ hlρ hc hl2 hq hm hge hlen2 hroom h1 h3 hy e2 r4 r5 hor
        omega
      obtain ⟨x9', q1, q2⟩ := ih hi2 ((i : Int) - 1) rfl (x9.set (i / 32) (((x9.getD (i / 32) 0).toNat + 2 ^ (i % 32) : Nat) : Int)) (lim_set h9 _ (Int.natCast_nonneg _) (Int.ofNat_lt.2 hfit)) (by rw [List.length_set, hl]) (by
        have hvs := val_set hj9 (((x9.getD (i / 32) 0).toNat + 2 ^ (i % 32) : Nat) : Int)
        rw [Int.toNat_natCast, Nat.mul_add, ← pow_split, hv, Nat.pow_succ] at hvs
        rw [hq]
        clear ih hmath hroom hfit hp hm hl2 hc hlen2 hlρ hρ r4 r5 r1 hor
        grind)
      refine ⟨x9', ?_, q2⟩
      clear ih hmath hroom hp hm hv hρ q2 hge hX hXX hq ex9 h1 hfit
      by_cases hcc : 0 < c'
      · have r6 := r4 hcc
        rw [← r6] at hc hl2 hlen2
        rw [List.length_append] at hlen2
        clear r4 r5
        refine Ev.body (by unfold F39L0; rfl) ?_
        simp -implicitDefEqProofs (disch := omega) only [tdiv32, tmod32, hb2, go_sem, ↓reduceIte, reduceCtorEq, Nat.reduceAdd, Nat.reduceSub, Nat.reduceEqDiff, Nat.reduceLeDiff, Nat.reduceBEq]
        refine Ev.bind (Ev.lp (by simp -implicitDefEqProofs (disch := omega) only [F39C1, go_sem, ↓reduceIte, reduceCtorEq, Nat.reduceAdd, Nat.reduceSub, Nat.reduceEqDiff, Nat.reduceLeDiff, Nat.reduceBEq]) r1) ?_
        simp -implicitDefEqProofs (disch := omega) only [go_sem, ↓reduceIte, reduceCtorEq, Nat.reduceAdd, Nat.reduceSub, Nat.reduceEqDiff, Nat.reduceLeDiff, Nat.reduceBEq]
        refine Ev.bind hc ?_
        simp -implicitDefEqProofs (disch := omega) only [go_sem, ↓reduceIte, reduceCtorEq, Nat.reduceAdd, Nat.reduceSub, Nat.reduceEqDiff, Nat.reduceLeDiff, Nat.reduceBEq]
        refine Ev.bind hl2 ?_
        simp -implicitDefEqProofs (disch := omega) only [tdiv32, tmod32, hor, go_sem, ↓reduceIte, reduceCtorEq, Nat.reduceAdd, Nat.reduceSub, Nat.reduceEqDiff, Nat.reduceLeDiff, Nat.reduceBEq]
        exact Ev.lp (by simp -implicitDefEqProofs (disch := omega) only [F39C0, go_sem, ↓reduceIte, reduceCtorEq, Nat.reduceAdd, Nat.reduceSub, Nat.reduceEqDiff, Nat.reduceLeDiff, Nat.reduceBEq]) q1
      · have r6 := r5 hcc
        rw [← r6] at hc hl2 hlen2
        clear r4 r5
        refine Ev.body (by unfold F39L0; rfl) ?_
        simp -implicitDefEqProofs (disch := omega) only [tdiv32, tmod32, hb2, go_sem, ↓reduceIte, reduceCtorEq, Nat.reduceAdd, Nat.reduceSub, Nat.reduceEqDiff, Nat.reduceLeDiff, Nat.reduceBEq]
        refine Ev.bind (Ev.lp (by simp -implicitDefEqProofs (disch := omega) only [F39C1, go_sem, ↓reduceIte, reduceCtorEq, Nat.reduceAdd, Nat.reduceSub, Nat.reduceEqDiff, Nat.reduceLeDiff, Nat.reduceBEq]) r1) ?_
        simp -implicitDefEqProofs (disch := omega) only [go_sem, ↓reduceIte, reduceCtorEq, Nat.reduceAdd, Nat.reduceSub, Nat.reduceEqDiff, Nat.reduceLeDiff, Nat.reduceBEq]
        refine Ev.bind hc ?_
        simp -implicitDefEqProofs (disch := omega) only [go_sem, ↓reduceIte, reduceCtorEq, Nat.reduceAdd, Nat.reduceSub, Nat.reduceEqDiff, Nat.reduceLeDiff, Nat.reduceBEq]
        refine Ev.bind hl2 ?_
        simp -implicitDefEqProofs (disch := omega) only [tdiv32, tmod32, hor, go_sem, ↓reduceIte, reduceCtorEq, Nat.reduceAdd, Nat.reduceSub, Nat.reduceEqDiff, Nat.reduceLeDiff, Nat.reduceBEq]
        exact Ev.lp (by simp -implicitDefEqProofs (disch := omega) only [F39C0, go_sem, ↓reduceIte, reduceCtorEq, Nat.reduceAdd, Nat.reduceSub, Nat.reduceEqDiff, Nat.reduceLeDiff, Nat.reduceBEq]) q1
    · obtain ⟨hq, hm⟩ := hmath.2 (Nat.lt_of_not_le hge)
      have hcm : cmp (2 * (X / 2 % β) + X % 2) β < 0 := cmp_neg.2 (by omega)
      obtain ⟨x9', q1, q2⟩ := ih hi2 ((i : Int) - 1) rfl x9 h9 hl (by
        rw [hv, hq, Nat.pow_succ]
        clear ih hmath hm hc hlen2 hlρ hρ r4 r5 r1
        grind)
      refine ⟨x9', ?_, q2⟩
      rw [hm] at q1
      clear ih hmath hm hv hρ q2 hX hXX hq hge
      by_cases hcc : 0 < c'
      · have r6 := r4 hcc
        rw [← r6] at hc q1 hlen2
        rw [List.length_append] at hlen2
        clear r4 r5
        refine Ev.body (by unfold F39L0; rfl) ?_
        simp -implicitDefEqProofs (disch := omega) only [tdiv32, tmod32, hb2, go_sem, ↓reduceIte, reduceCtorEq, Nat.reduceAdd, Nat.reduceSub, Nat.reduceEqDiff, Nat.reduceLeDiff, Nat.reduceBEq]
        refine Ev.bind (Ev.lp (by simp -implicitDefEqProofs (disch := omega) only [F39C1, go_sem, ↓reduceIte, reduceCtorEq, Nat.reduceAdd, Nat.reduceSub, Nat.reduceEqDiff, Nat.reduceLeDiff, Nat.reduceBEq]) r1) ?_
        simp -implicitDefEqProofs (disch := omega) only [go_sem, ↓reduceIte, reduceCtorEq, Nat.reduceAdd, Nat.reduceSub, Nat.reduceEqDiff, Nat.reduceLeDiff, Nat.reduceBEq]
        refine Ev.bind hc ?_
        simp -implicitDefEqProofs (disch := omega) only [go_sem, ↓reduceIte, reduceCtorEq, Nat.reduceAdd, Nat.reduceSub, Nat.reduceEqDiff, Nat.reduceLeDiff, Nat.reduceBEq]
        exact Ev.lp (by simp -implicitDefEqProofs (disch := omega) only [F39C0, go_sem, ↓reduceIte, reduceCtorEq, Nat.reduceAdd, Nat.reduceSub, Nat.reduceEqDiff, Nat.reduceLeDiff, Nat.reduceBEq]) q1
      · have r6 := r5 hcc
        rw [← r6] at hc q1 hlen2
        clear r4 r5
        refine Ev.body (by unfold F39L0; rfl) ?_
        simp -implicitDefEqProofs (disch := omega) only [tdiv32, tmod32, hb2, go_sem, ↓reduceIte, reduceCtorEq, Nat.reduceAdd, Nat.reduceSub, Nat.reduceEqDiff, Nat.reduceLeDiff, Nat.reduceBEq]
        refine Ev.bind (Ev.lp (by simp -implicitDefEqProofs (disch := omega) only [F39C1, go_sem, ↓reduceIte, reduceCtorEq, Nat.reduceAdd, Nat.reduceSub, Nat.reduceEqDiff, Nat.reduceLeDiff, Nat.reduceBEq]) r1) ?_
        simp -implicitDefEqProofs (disch := omega) only [go_sem, ↓reduceIte, reduceCtorEq, Nat.reduceAdd, Nat.reduceSub, Nat.reduceEqDiff, Nat.reduceLeDiff, Nat.reduceBEq]
        refine Ev.bind hc ?_
        simp -implicitDefEqProofs (disch := omega) only [go_sem, ↓reduceIte, reduceCtorEq, Nat.reduceAdd, Nat.reduceSub, Nat.reduceEqDiff, Nat.reduceLeDiff, Nat.reduceBEq]
        exact Ev.lp (by simp -implicitDefEqProofs (disch := omega) only [F39C0, go_sem, ↓reduceIte, reduceCtorEq, Nat.reduceAdd, Nat.reduceSub, Nat.reduceEqDiff, Nat.reduceLeDiff, Nat.reduceBEq]) q1
/-- The answer of a division. -/
theorem divmod_ev {a b : List Int} (ha : Lim a) (hb : Lim b) (sa : a.length ≤ 100000000) (sb : b.length ≤ 100000000) (h0 : val b ≠ 0) :
    ∃ o, Ev (fun k => (lvl tab ext k).call 39 [(.pv (.ints .u32 (a))), (.pv (.ints .u32 (b)))]) [(.pv (.ints .u32 (ofN (val a / val b)))), ar o (.ints .u32 (ofN (val a % val b))), (.pv (.bool (true)))] := by
  have h1 := len_val_le ha
  have h2 := len_val_le hb
  have ta := trim_ev ha (by omega)
  have tb := trim_ev hb (by omega)
  generalize val a = α at *
  generalize val b = β at *
  have sα : (ofN α).length ≤ 100000000 := by omega
  have sβ : (ofN β).length ≤ 100000000 := by omega
  clear ha hb h1 h2
  have hp : 0 < (ofN β).length := ofN_length_pos.2 (by omega)
  have hc := cmp_ev (lim_ofN α) (lim_ofN β) (by omega) (by omega)
  rw [val_ofN, val_ofN] at hc
  by_cases hlt : α < β
  · have hn := norm_ev (lim_ofN α) (by omega)
    rw [val_ofN] at hn
    have hcm := cmp_neg.2 hlt
    rw [Nat.div_eq_of_lt hlt, Nat.mod_eq_of_lt hlt, ofN_zero]
    refine ⟨false, ?_⟩
    refine Ev.call rfl tab39 ?_
    simp -implicitDefEqProofs (disch := omega) only [F39, go_sem, ↓reduceIte, reduceCtorEq, Nat.reduceAdd, Nat.reduceSub, Nat.reduceEqDiff, Nat.reduceLeDiff, Nat.reduceBEq]
    refine Ev.bind ta ?_
    simp -implicitDefEqProofs (disch := omega) only [go_sem, ↓reduceIte, reduceCtorEq, Nat.reduceAdd, Nat.reduceSub, Nat.reduceEqDiff, Nat.reduceLeDiff, Nat.reduceBEq]
    refine Ev.bind tb ?_
    simp -implicitDefEqProofs (disch := omega) only [go_sem, ↓reduceIte, reduceCtorEq, Nat.reduceAdd, Nat.reduceSub, Nat.reduceEqDiff, Nat.reduceLeDiff, Nat.reduceBEq]
    refine Ev.bind hc ?_
    simp -implicitDefEqProofs (disch := omega) only [go_sem, ↓reduceIte, reduceCtorEq, Nat.reduceAdd, Nat.reduceSub, Nat.reduceEqDiff, Nat.reduceLeDiff, Nat.reduceBEq]
    refine Ev.bind hn ?_
    simp -implicitDefEqProofs (disch := omega) only [go_sem, ↓reduceIte, reduceCtorEq, Nat.reduceAdd, Nat.reduceSub, Nat.reduceEqDiff, Nat.reduceLeDiff, Nat.reduceBEq]
    exact Ev.ret _
  · have hcm : 0 ≤ cmp α β := cmp_nonneg.2 (by omega)
    by_cases h1 : (ofN β).length = 1
    · have hb1 : β < 4294967296 := by
        have := lt_P_len β
        rw [h1, P_succ, P_zero] at this; omega
      have hrd : (ofN β).getD 0 0 = (β : Int) := by
        have := limb_eq (lim_ofN β) 0
        rw [val_ofN, P_zero, Nat.div_one, Nat.mod_eq_of_lt hb1] at this
        have l := lim_getD (lim_ofN β) 0
        omega
      have hs := small_ev (lim_ofN α) (by omega) (d := (β : Int)) (by omega) (by omega)
      rw [val_ofN, Int.toNat_natCast] at hs
      have hm : α % β < β := Nat.mod_lt _ (by omega)
      have ho := of_ev (a := ((α % β : Nat) : Int)) (by omega) (by omega)
      rw [Int.toNat_natCast] at ho
      generalize α % β = r at *
      refine ⟨false, ?_⟩
      refine Ev.call rfl tab39 ?_
      simp -implicitDefEqProofs (disch := omega) only [F39, go_sem, ↓reduceIte, reduceCtorEq, Nat.reduceAdd, Nat.reduceSub, Nat.reduceEqDiff, Nat.reduceLeDiff, Nat.reduceBEq]
      refine Ev.bind ta ?_
      simp -implicitDefEqProofs (disch := omega) only [go_sem, ↓reduceIte, reduceCtorEq, Nat.reduceAdd, Nat.reduceSub, Nat.reduceEqDiff, Nat.reduceLeDiff, Nat.reduceBEq]
      refine Ev.bind tb ?_
      simp -implicitDefEqProofs (disch := omega) only [go_sem, ↓reduceIte, reduceCtorEq, Nat.reduceAdd, Nat.reduceSub, Nat.reduceEqDiff, Nat.reduceLeDiff, Nat.reduceBEq]
      refine Ev.bind hc ?_
      simp -implicitDefEqProofs (disch := omega) only [hrd, go_sem, ↓reduceIte, reduceCtorEq, Nat.reduceAdd, Nat.reduceSub, Nat.reduceEqDiff, Nat.reduceLeDiff, Nat.reduceBEq]
      refine Ev.bind hs ?_
      simp -implicitDefEqProofs (disch := omega) only [go_sem, ↓reduceIte, reduceCtorEq, Nat.reduceAdd, Nat.reduceSub, Nat.reduceEqDiff, Nat.reduceLeDiff, Nat.reduceBEq]
      refine Ev.bind ho ?_
      simp -implicitDefEqProofs (disch := omega) only [go_sem, ↓reduceIte, reduceCtorEq, Nat.reduceAdd, Nat.reduceSub, Nat.reduceEqDiff, Nat.reduceLeDiff, Nat.reduceBEq]
      exact Ev.ret _
    · have hsz := size_ev (lim_ofN α) (by omega)
      rw [val_ofN] at hsz
      have hbl := blen_len (n := α)
      have hdiv : α / 2 ^ blen α = 0 := Nat.div_eq_of_lt (lt_blen α)
      obtain ⟨x9', q1, q2, q3, q4⟩ := dm_loop h0 sα sβ (blen α) hbl _ rfl (List.replicate (ofN α).length 0) (lim_rep _) (by simp) (by rw [val_rep, hdiv]; simp)
      rw [hdiv, Nat.zero_mod, ofN_zero] at q1
      have ht := trim_ev q2 (by omega)
      rw [q4] at ht
      refine ⟨true, ?_⟩
      refine Ev.call rfl tab39 ?_
      simp -implicitDefEqProofs (disch := omega) only [F39, go_sem, ↓reduceIte, reduceCtorEq, Nat.reduceAdd, Nat.reduceSub, Nat.reduceEqDiff, Nat.reduceLeDiff, Nat.reduceBEq]
      refine Ev.bind ta ?_
      simp -implicitDefEqProofs (disch := omega) only [go_sem, ↓reduceIte, reduceCtorEq, Nat.reduceAdd, Nat.reduceSub, Nat.reduceEqDiff, Nat.reduceLeDiff, Nat.reduceBEq]
      refine Ev.bind tb ?_
      simp -implicitDefEqProofs (disch := omega) only [go_sem, ↓reduceIte, reduceCtorEq, Nat.reduceAdd, Nat.reduceSub, Nat.reduceEqDiff, Nat.reduceLeDiff, Nat.reduceBEq]
      refine Ev.bind hc ?_
      simp -implicitDefEqProofs (disch := omega) only [go_sem, ↓reduceIte, reduceCtorEq, Nat.reduceAdd, Nat.reduceSub, Nat.reduceEqDiff, Nat.reduceLeDiff, Nat.reduceBEq]
      refine Ev.bind hsz ?_
      simp -implicitDefEqProofs (disch := omega) only [go_sem, ↓reduceIte, reduceCtorEq, Nat.reduceAdd, Nat.reduceSub, Nat.reduceEqDiff, Nat.reduceLeDiff, Nat.reduceBEq]
      refine Ev.bind (Ev.lp (by simp -implicitDefEqProofs (disch := omega) only [F39C0, go_sem, ↓reduceIte, reduceCtorEq, Nat.reduceAdd, Nat.reduceSub, Nat.reduceEqDiff, Nat.reduceLeDiff, Nat.reduceBEq]) q1) ?_
      simp -implicitDefEqProofs (disch := omega) only [go_sem, ↓reduceIte, reduceCtorEq, Nat.reduceAdd, Nat.reduceSub, Nat.reduceEqDiff, Nat.reduceLeDiff, Nat.reduceBEq]
      refine Ev.bind ht ?_
      simp -implicitDefEqProofs (disch := omega) only [go_sem, ↓reduceIte, reduceCtorEq, Nat.reduceAdd, Nat.reduceSub, Nat.reduceEqDiff, Nat.reduceLeDiff, Nat.reduceBEq]
      exact Ev.ret _
theorem divmod0_ev {a b : List Int} (ha : Lim a) (hb : Lim b) (sa : a.length ≤ 100000000) (sb : b.length ≤ 100000000) (h0 : val b = 0) :
    Ev (fun k => (lvl tab ext k).call 39 [(.pv (.ints .u32 (a))), (.pv (.ints .u32 (b)))]) [(.pv (.ints .u32 ([]))), (.pv (.ints .u32 ([]))), (.pv (.bool (false)))] := by
  refine Ev.call rfl tab39 ?_
  simp -implicitDefEqProofs (disch := omega) only [F39, go_sem, ↓reduceIte, reduceCtorEq, Nat.reduceAdd, Nat.reduceSub, Nat.reduceEqDiff, Nat.reduceLeDiff, Nat.reduceBEq]
  refine Ev.bind (trim_ev ha (by omega)) ?_
  simp -implicitDefEqProofs (disch := omega) only [go_sem, ↓reduceIte, reduceCtorEq, Nat.reduceAdd, Nat.reduceSub, Nat.reduceEqDiff, Nat.reduceLeDiff, Nat.reduceBEq]
  refine Ev.bind (trim_ev hb (by omega)) ?_
  rw [h0, ofN_zero]
  simp -implicitDefEqProofs (disch := omega) only [go_sem, ↓reduceIte, reduceCtorEq, Nat.reduceAdd, Nat.reduceSub, Nat.reduceEqDiff, Nat.reduceLeDiff, Nat.reduceBEq]
  exact Ev.ret _
end Go.Proofs.Ytkeipmkiilimeaa.V
set_option linter.unusedSimpArgs false
set_option linter.unusedVariables false
namespace Go.Proofs.Ytkeipmkiilimeaa.V
open Go Go.Proofs.Ytkeipmkiilimeaa.M
theorem text_turn {L : List Int} (hL : L.length ≤ 1000000000000) : ∀ d i, L.length ≤ 2 * i + d → i ≤ L.length → ∀ n m : Int, n = i → m = (L.length : Int) - 1 - (i : Int) → ∀ l, Turned L l i →
    ∃ n' m', Ev (fun k => run (lvl tab ext k) F53C2 F53L2 ⟨mk [(3, .row 3 none), (7, (.pv (.int .i64 (n)))), (8, (.pv (.int .i64 (m))))], hp [(3, (.row (.ints .u8 (l)) true))]⟩) (.exit 4, ⟨mk [(3, .row 3 none), (7, (.pv (.int .i64 (n')))), (8, (.pv (.int .i64 (m')))), (50, (.pv (.bool (false))))], hp [(3, (.row (.ints .u8 (L.reverse)) true))]⟩) := by
  intro d
  induction d with
  | zero =>
    intro i hd hi n m hn hm l hl
    rw [← turned_end hl (by omega)]
    refine ⟨n, m, ?_⟩
    refine Ev.body (by unfold F53L2; rfl) ?_
    simp -implicitDefEqProofs (disch := omega) only [go_sem, ↓reduceIte, reduceCtorEq, Nat.reduceAdd, Nat.reduceSub, Nat.reduceEqDiff, Nat.reduceLeDiff, Nat.reduceBEq]
    exact Ev.ret _
  | succ d ih =>
    intro i hd hi n m hn hm l hl
    by_cases hlt : i < L.length - 1 - i
    · obtain ⟨n', m', r⟩ := ih (i + 1) (by omega) (by omega) ((i : Int) + 1) (m - 1) (by omega) (by omega) _ (turned_step hl hlt)
      refine ⟨n', m', ?_⟩
      have hll := hl.1
      have e1 : m.toNat = L.length - 1 - i := by omega
      clear ih hl
      subst hn
      refine Ev.body (by unfold F53L2; rfl) ?_
      simp -implicitDefEqProofs (disch := omega) only [e1, go_sem, ↓reduceIte, reduceCtorEq, Nat.reduceAdd, Nat.reduceSub, Nat.reduceEqDiff, Nat.reduceLeDiff, Nat.reduceBEq]
      exact Ev.lp (by simp -implicitDefEqProofs (disch := omega) only [F53C2, go_sem, ↓reduceIte, reduceCtorEq, Nat.reduceAdd, Nat.reduceSub, Nat.reduceEqDiff, Nat.reduceLeDiff, Nat.reduceBEq]) r
    · rw [← turned_end hl (by omega)]
      refine ⟨n, m, ?_⟩
      refine Ev.body (by unfold F53L2; rfl) ?_
      simp -implicitDefEqProofs (disch := omega) only [go_sem, ↓reduceIte, reduceCtorEq, Nat.reduceAdd, Nat.reduceSub, Nat.reduceEqDiff, Nat.reduceLeDiff, Nat.reduceBEq]
      exact Ev.ret _
theorem text_group {q : Nat} : ∀ d i : Nat, d + i = 9 → ∀ n : Int, n = i → ∀ r : Nat, r < 10 ^ d → r < 4294967296 → ∀ o : List Int, o.length + (rdigs (q * 10 ^ d + r)).length ≤ 1000000000 →
    ∃ r' i', Ev (fun k => run (lvl tab ext k) F53C1 F53L1 ⟨mk [(3, .row 3 none), (4, (.pv (.ints .u32 (ofN q)))), (5, (.pv (.int .u32 ((r : Int))))), (6, (.pv (.int .i64 (n))))], hp [(3, (.row (.ints .u8 (o)) true))]⟩) (.exit 2, ⟨mk [(3, .row 3 none), (4, (.pv (.ints .u32 (ofN q)))), (5, (.pv (.int .u32 (r')))), (6, (.pv (.int .i64 (i')))), (32, (.pv (.bool (false))))], hp [(3, (.row (.ints .u8 (o ++ (rdigs (q * 10 ^ d + r)).take ((rdigs (q * 10 ^ d + r)).length - (rdigs q).length))) true))]⟩) := by
  intro d
  induction d with
  | zero =>
    intro i hd n hn r hr _ o ho
    have hr0 : r = 0 := by simpa using hr
    subst hr0
    rw [Nat.pow_zero, Nat.mul_one, Nat.add_zero, Nat.sub_self, List.take_zero, List.append_nil] at *
    refine ⟨0, n, ?_⟩
    refine Ev.body (by unfold F53L1; rfl) ?_
    simp -implicitDefEqProofs (disch := omega) only [go_sem, ↓reduceIte, reduceCtorEq, Nat.reduceAdd, Nat.reduceSub, Nat.reduceEqDiff, Nat.reduceLeDiff, Nat.reduceBEq]
    exact Ev.ret _
  | succ d ih =>
    intro i hd n hn r hr hr2 o ho
    by_cases hN : q * 10 ^ (d + 1) + r = 0
    · have hq : q = 0 := by
        rcases Nat.eq_zero_or_pos q with h | h
        · exact h
        · have := Nat.mul_pos h (Nat.pow_pos (n := d + 1) (show 0 < 10 by decide)); omega
      have hr0 : r = 0 := by omega
      subst hq
      subst hr0
      rw [Nat.zero_mul, Nat.zero_add, rdigs_zero, List.take_nil, List.append_nil]
      refine ⟨0, n, ?_⟩
      rw [ofN_zero]
      refine Ev.body (by unfold F53L1; rfl) ?_
      simp -implicitDefEqProofs (disch := omega) only [go_sem, ↓reduceIte, reduceCtorEq, Nat.reduceAdd, Nat.reduceSub, Nat.reduceEqDiff, Nat.reduceLeDiff, Nat.reduceBEq]
      exact Ev.ret _
    · have hz : q * (10 ^ d * 10) = 10 * (q * 10 ^ d) := by grind
      have e : rdigs (q * 10 ^ (d + 1) + r) = ((48 + r % 10 : Nat) : Int) :: rdigs (q * 10 ^ d + r / 10) := by
        have m1 : (q * 10 ^ (d + 1) + r) % 10 = r % 10 := by rw [Nat.pow_succ, hz]; generalize q * 10 ^ d = z; omega
        have m2 : (q * 10 ^ (d + 1) + r) / 10 = q * 10 ^ d + r / 10 := by rw [Nat.pow_succ, hz]; generalize q * 10 ^ d = z; omega
        rw [rdigs_pos hN, m1, m2]
      have hlen : (rdigs q).length ≤ (rdigs (q * 10 ^ d + r / 10)).length := by
        have : ∀ a b : Nat, a ≤ b → (rdigs a).length ≤ (rdigs b).length := by
          intro a
          induction a using Nat.strongRecOn with
          | _ a ih =>
            intro b hab
            by_cases ha : a = 0
            · subst ha; rw [rdigs_zero]; exact Nat.zero_le _
            · rw [rdigs_pos ha, rdigs_pos (n := b) (by omega), List.length_cons, List.length_cons]
              exact Nat.succ_le_succ (ih (a / 10) (by omega) (b / 10) (by omega))
        exact this _ _ (Nat.le_trans (Nat.le_mul_of_pos_right q (Nat.pow_pos (by decide))) (Nat.le_add_right _ _))
      rw [e, List.length_cons] at ho
      obtain ⟨r', i', w⟩ := ih (i + 1) (by omega) ((i : Int) + 1) (by omega) (r / 10) (by rw [Nat.pow_succ] at hr; omega) (by omega) (o ++ [((48 + r % 10 : Nat) : Int)]) (by rw [List.length_append]; simp; omega)
      refine ⟨r', i', ?_⟩
      rw [e, List.length_cons, Nat.succ_sub hlen, List.take_succ_cons]
      rw [List.append_assoc, List.cons_append, List.nil_append] at w
      have e1 : (48 + Int.tmod (r : Int) 10) % 4294967296 % 256 = ((48 + r % 10 : Nat) : Int) := by rw [Int.tmod_eq_emod_of_nonneg (by omega)]; omega
      have e2 : Int.tdiv (r : Int) 10 % 4294967296 = ((r / 10 : Nat) : Int) := by rw [Int.tdiv_eq_ediv_of_nonneg (by omega)]; omega
      have hq : r = 0 → 0 < (ofN q).length := by
        intro h
        rw [ofN_length_pos]
        rcases Nat.eq_zero_or_pos q with h1 | h1
        · subst h1; subst h; simp at hN
        · exact h1
      have hn10 : (10 : Int) ≠ 0 := by decide
      clear ih hN hz e hlen hr
      subst hn
      refine Ev.body (by unfold F53L1; rfl) ?_
      by_cases hr0 : r = 0
      · have hq := hq hr0
        simp -implicitDefEqProofs (disch := omega) only [e1, e2, go_sem, ↓reduceIte, reduceCtorEq, Nat.reduceAdd, Nat.reduceSub, Nat.reduceEqDiff, Nat.reduceLeDiff, Nat.reduceBEq]
        exact Ev.lp (by simp -implicitDefEqProofs (disch := omega) only [F53C1, go_sem, ↓reduceIte, reduceCtorEq, Nat.reduceAdd, Nat.reduceSub, Nat.reduceEqDiff, Nat.reduceLeDiff, Nat.reduceBEq]) w
      · clear hq
        simp -implicitDefEqProofs (disch := omega) only [e1, e2, go_sem, ↓reduceIte, reduceCtorEq, Nat.reduceAdd, Nat.reduceSub, Nat.reduceEqDiff, Nat.reduceLeDiff, Nat.reduceBEq]
        exact Ev.lp (by simp -implicitDefEqProofs (disch := omega) only [F53C1, go_sem, ↓reduceIte, reduceCtorEq, Nat.reduceAdd, Nat.reduceSub, Nat.reduceEqDiff, Nat.reduceLeDiff, Nat.reduceBEq]) w
theorem rdigs_split (q r : Nat) (hr : r < 10 ^ 9) : (rdigs (q * 10 ^ 9 + r)).drop ((rdigs (q * 10 ^ 9 + r)).length - (rdigs q).length) = rdigs q := by
  have key : ∀ d : Nat, ∀ r, r < 10 ^ d → (rdigs (q * 10 ^ d + r)).drop ((rdigs (q * 10 ^ d + r)).length - (rdigs q).length) = rdigs q ∧ (rdigs q).length ≤ (rdigs (q * 10 ^ d + r)).length := by
    intro d
    induction d with
    | zero =>
      intro r hr
      have hr0 : r = 0 := by simpa using hr
      subst hr0
      rw [Nat.pow_zero, Nat.mul_one, Nat.add_zero, Nat.sub_self]
      exact ⟨rfl, Nat.le_refl _⟩
    | succ d ih =>
      intro r hr
      by_cases hN : q * 10 ^ (d + 1) + r = 0
      · have hq : q = 0 := by
          rcases Nat.eq_zero_or_pos q with h | h
          · exact h
          · have := Nat.mul_pos h (Nat.pow_pos (n := d + 1) (show 0 < 10 by decide)); omega
        rw [hN, hq, rdigs_zero]
        exact ⟨rfl, Nat.le_refl _⟩
      · have hz : q * (10 ^ d * 10) = 10 * (q * 10 ^ d) := by grind
        have e : rdigs (q * 10 ^ (d + 1) + r) = ((48 + r % 10 : Nat) : Int) :: rdigs (q * 10 ^ d + r / 10) := by
          have m1 : (q * 10 ^ (d + 1) + r) % 10 = r % 10 := by rw [Nat.pow_succ, hz]; generalize q * 10 ^ d = z; omega
          have m2 : (q * 10 ^ (d + 1) + r) / 10 = q * 10 ^ d + r / 10 := by rw [Nat.pow_succ, hz]; generalize q * 10 ^ d = z; omega
          rw [rdigs_pos hN, m1, m2]
        obtain ⟨i1, i2⟩ := ih (r / 10) (by rw [Nat.pow_succ] at hr; omega)
        rw [e, List.length_cons]
        refine ⟨?_, by omega⟩
        rw [Nat.succ_sub i2, List.drop_succ_cons]
        exact i1
  exact (key 9 r hr).1
theorem text_loop : ∀ n : Nat, (ofN n).length ≤ 10000000 → ∀ o : List Int, o.length + (rdigs n).length ≤ 1000000000 →
    Ev (fun k => run (lvl tab ext k) F53C0 F53L0 ⟨mk [(0, (.pv (.ints .u32 (ofN n)))), (3, .row 3 none)], hp [(3, (.row (.ints .u8 (o)) true))]⟩) (.exit 0, ⟨mk [(0, (.pv (.ints .u32 ([])))), (3, .row 3 none), (16, (.pv (.bool (false))))], hp [(3, (.row (.ints .u8 (o ++ rdigs n)) true))]⟩) := by
  intro n
  induction n using Nat.strongRecOn with
  | _ n ih =>
    intro hs o ho
    by_cases h0 : n = 0
    · subst h0
      rw [ofN_zero, rdigs_zero, List.append_nil]
      refine Ev.body (by unfold F53L0; rfl) ?_
      simp -implicitDefEqProofs (disch := omega) only [go_sem, ↓reduceIte, reduceCtorEq, Nat.reduceAdd, Nat.reduceSub, Nat.reduceEqDiff, Nat.reduceLeDiff, Nat.reduceBEq]
      exact Ev.ret _
    · have hp : 0 < (ofN n).length := ofN_length_pos.2 (by omega)
      have hsm := small_ev (lim_ofN n) (by omega) (d := 1000000000) (by decide) (by decide)
      rw [val_ofN, show ((1000000000 : Int)).toNat = 1000000000 from rfl] at hsm
      have hq : n / 1000000000 < n := by omega
      have e : n / 1000000000 * 10 ^ 9 + n % 1000000000 = n := by rw [show (10 ^ 9 : Nat) = 1000000000 from rfl]; omega
      have hr : n % 1000000000 < 10 ^ 9 := by rw [show (10 ^ 9 : Nat) = 1000000000 from rfl]; omega
      obtain ⟨r', i', w⟩ := text_group (q := n / 1000000000) 9 0 rfl 0 rfl (n % 1000000000) hr (by omega) o (by rw [e]; exact ho)
      have sp := rdigs_split (n / 1000000000) (n % 1000000000) hr
      rw [e] at w sp
      have join := List.take_append_drop ((rdigs n).length - (rdigs (n / 1000000000)).length) (rdigs n)
      rw [sp] at join
      generalize hT : (rdigs n).take ((rdigs n).length - (rdigs (n / 1000000000)).length) = T at *
      have hl : T.length + (rdigs (n / 1000000000)).length = (rdigs n).length := by rw [← join, List.length_append]
      have go := ih _ hq (Nat.le_trans (len_mono (Nat.le_of_lt hq)) hs) (o ++ T) (by rw [List.length_append]; omega)
      rw [List.append_assoc, join] at go
      clear ih join sp hT e
      generalize n % 1000000000 = r at *
      generalize n / 1000000000 = q at *
      refine Ev.body (by unfold F53L0; rfl) ?_
      simp -implicitDefEqProofs (disch := omega) only [go_sem, ↓reduceIte, reduceCtorEq, Nat.reduceAdd, Nat.reduceSub, Nat.reduceEqDiff, Nat.reduceLeDiff, Nat.reduceBEq]
      refine Ev.bind hsm ?_
      simp -implicitDefEqProofs (disch := omega) only [go_sem, ↓reduceIte, reduceCtorEq, Nat.reduceAdd, Nat.reduceSub, Nat.reduceEqDiff, Nat.reduceLeDiff, Nat.reduceBEq]
      refine Ev.bind (Ev.lp (by simp -implicitDefEqProofs (disch := omega) only [F53C1, go_sem, ↓reduceIte, reduceCtorEq, Nat.reduceAdd, Nat.reduceSub, Nat.reduceEqDiff, Nat.reduceLeDiff, Nat.reduceBEq]) w) ?_
      simp -implicitDefEqProofs (disch := omega) only [go_sem, ↓reduceIte, reduceCtorEq, Nat.reduceAdd, Nat.reduceSub, Nat.reduceEqDiff, Nat.reduceLeDiff, Nat.reduceBEq]
      exact Ev.lp (by simp -implicitDefEqProofs (disch := omega) only [F53C0, go_sem, ↓reduceIte, reduceCtorEq, Nat.reduceAdd, Nat.reduceSub, Nat.reduceEqDiff, Nat.reduceLeDiff, Nat.reduceBEq]) go
theorem text_ev {l : List Int} (hl : Lim l) (sl : l.length ≤ 10000000) : Ev (fun k => (lvl tab ext k).call 53 [(.pv (.ints .u32 (l)))]) [(.pv (.str (textN (val l))))] := by
  have h1 := len_val_le hl
  refine Ev.call rfl tab53 ?_
  simp -implicitDefEqProofs (disch := omega) only [F53, go_sem, ↓reduceIte, reduceCtorEq, Nat.reduceAdd, Nat.reduceSub, Nat.reduceEqDiff, Nat.reduceLeDiff, Nat.reduceBEq]
  refine Ev.bind (norm_ev hl (by omega)) ?_
  generalize val l = n at *
  unfold textN textI
  by_cases h0 : n = 0
  · subst h0
    rw [ofN_zero, if_pos rfl]
    simp -implicitDefEqProofs (disch := omega) only [go_sem, ↓reduceIte, reduceCtorEq, Nat.reduceAdd, Nat.reduceSub, Nat.reduceEqDiff, Nat.reduceLeDiff, Nat.reduceBEq]
    exact Ev.ret _
  · have hp : 0 < (ofN n).length := ofN_length_pos.2 (by omega)
    rw [if_neg h0]
    have hd := rdigs_len n
    have t := text_loop n (by omega) [] (by rw [List.length_nil]; omega)
    rw [List.nil_append] at t
    obtain ⟨n', m', w⟩ := text_turn (L := rdigs n) (by omega) (rdigs n).length 0 (by omega) (by omega) 0 (((rdigs n).length : Int) - 1) rfl (by omega) (rdigs n) ⟨rfl, fun k hk => by rw [if_neg (by omega)]⟩
    simp -implicitDefEqProofs (disch := omega) only [go_sem, ↓reduceIte, reduceCtorEq, Nat.reduceAdd, Nat.reduceSub, Nat.reduceEqDiff, Nat.reduceLeDiff, Nat.reduceBEq]
    refine Ev.bind (Ev.lp (by simp -implicitDefEqProofs (disch := omega) only [F53C0, go_sem, ↓reduceIte, reduceCtorEq, Nat.reduceAdd, Nat.reduceSub, Nat.reduceEqDiff, Nat.reduceLeDiff, Nat.reduceBEq]) t) ?_
    simp -implicitDefEqProofs (disch := omega) only [go_sem, ↓reduceIte, reduceCtorEq, Nat.reduceAdd, Nat.reduceSub, Nat.reduceEqDiff, Nat.reduceLeDiff, Nat.reduceBEq]
    refine Ev.bind (Ev.lp (by simp -implicitDefEqProofs (disch := omega) only [F53C2, go_sem, ↓reduceIte, reduceCtorEq, Nat.reduceAdd, Nat.reduceSub, Nat.reduceEqDiff, Nat.reduceLeDiff, Nat.reduceBEq]) w) ?_
    simp -implicitDefEqProofs (disch := omega) only [go_sem, ↓reduceIte, reduceCtorEq, Nat.reduceAdd, Nat.reduceSub, Nat.reduceEqDiff, Nat.reduceLeDiff, Nat.reduceBEq]
    exact Ev.ret _
end Go.Proofs.Ytkeipmkiilimeaa.V
set_option linter.unusedSimpArgs false
set_option linter.unusedVariables false
namespace Go.Proofs.Ytkeipmkiilimeaa.V
open Go Go.Proofs.Ytkeipmkiilimeaa.M
theorem parse_inner {s : List UInt8} {i24 i25 : Int} {v c0 : Nat} (hs : (ofN v).length ≤ 1000000000) :
    ∀ d k, d + k = (ofN v).length → ∀ n : Int, n = k → ∀ (o : List Int) (c : Nat), Lim o → o.length = (ofN v).length → (∀ j, k ≤ j → o.getD j 0 = (ofN v).getD j 0) → c ≤ 10 →
    val (o.take k) + P k * c = 10 * val ((ofN v).take k) + c0 →
    ∃ (o' : List Int) (c' : Nat), Ev (fun k => run (lvl tab ext k) F50C1 F50L1 ⟨mk [(0, (.pv (.str (s)))), (4, .row 4 none), (6, (.pv (.int .u64 ((c : Int))))), (24, (.pv (.int .i64 (i24)))), (25, (.pv (.int .i64 (i25)))), (44, (.pv (.int .i64 (((ofN v).length : Int))))), (45, (.pv (.int .i64 (n))))], hp [(4, (.row (.ints .u32 (o)) true))]⟩)
      (.exit 2, ⟨mk [(0, (.pv (.str (s)))), (4, .row 4 none), (6, (.pv (.int .u64 ((c' : Int))))), (24, (.pv (.int .i64 (i24)))), (25, (.pv (.int .i64 (i25)))), (44, (.pv (.int .i64 (((ofN v).length : Int))))), (45, (.pv (.int .i64 (((ofN v).length : Int))))), (46, (.pv (.bool (false))))], hp [(4, (.row (.ints .u32 (o')) true))]⟩) ∧
      o'.length = (ofN v).length ∧ c' ≤ 10 ∧ (0 < c' → o' ++ [(c' : Int)] = ofN (v * 10 + c0)) ∧ (¬ 0 < c' → o' = ofN (v * 10 + c0)) := by
  intro d
  induction d with
  | zero =>
    intro k hd n hn o c ho hol hj c1 hv
    have hk : k = (ofN v).length := by clear hv hj; omega
    subst hn
    have hv2 : val o + P o.length * c = v * 10 + c0 := by
      rw [hk, List.take_length, ← hol, List.take_length, val_ofN] at hv
      rw [hv, Nat.mul_comm]
    refine ⟨o, c, ?_, hol, c1, fun hc => ?_, fun hc => ?_⟩
    · clear hv hv2 hj
      subst hk
      refine Ev.body (by unfold F50L1; rfl) ?_
      simp -implicitDefEqProofs (disch := omega) only [go_sem, ↓reduceIte, reduceCtorEq, Nat.reduceAdd, Nat.reduceSub, Nat.reduceEqDiff, Nat.reduceLeDiff, Nat.reduceBEq]
      exact Ev.ret _
    · have hv' : val (o ++ [(c : Int)]) = v * 10 + c0 := by rw [val_snoc, Int.toNat_natCast]; exact hv2
      rw [← hv']
      refine normal (by rw [lim_append, lim_cons]; exact ⟨ho, by clear hv hv2 hj; omega, lim_nil⟩) (.inr ?_)
      rw [val_snoc, List.length_append]
      show P (o.length + 1 - 1) ≤ _
      rw [Nat.add_sub_cancel, Int.toNat_natCast]
      exact Nat.le_trans (Nat.le_mul_of_pos_right _ hc) (Nat.le_add_left _ _)
    · have hc0 : c = 0 := by clear hv hv2 hj; omega
      subst hc0
      rw [Nat.mul_zero, Nat.add_zero] at hv2
      rw [← hv2]
      refine normal ho ?_
      by_cases h0 : v = 0
      · left; rw [hol, h0, ofN_zero]; rfl
      · right
        rw [hol, hv2]
        have := P_len_le h0
        clear hv hj; omega
  | succ d ih =>
    intro k hd n hn o c ho hol hj c1 hv
    subst hn
    have lr := lim_getD (lim_ofN v) k
    have hlt : k < (ofN v).length := by clear hv hj ih; omega
    have hlo : k < o.length := by clear hv hj ih; omega
    have e1 : o.getD k 0 = (ofN v).getD k 0 := hj k (Nat.le_refl _)
    have hlen : (o.take k).length = k := by rw [List.length_take]; exact Nat.min_eq_left (Nat.le_of_lt hlo)
    have hva := val_take_succ hlt
    generalize (ofN v).getD k 0 = x at *
    obtain ⟨y, rfl⟩ := Int.eq_ofNat_of_zero_le lr.1
    have hy : y < 4294967296 := Int.ofNat_lt.1 lr.2
    have hm : (c + y * 10) % 4294967296 < 4294967296 := Nat.mod_lt _ (by decide)
    obtain ⟨o', c', r1, r2⟩ := ih (k + 1) (by clear hv hj ih hva; omega) ((k : Int) + 1) (by omega) (o.set k (((c + y * 10) % 4294967296 : Nat) : Int)) ((c + y * 10) / 4294967296) (lim_set ho _ (Int.natCast_nonneg _) (Int.ofNat_lt.2 hm)) (by rw [List.length_set, hol])
      (fun j hjj => (M.getD_set_ne (Nat.ne_of_lt hjj)).trans (hj j (Nat.le_of_succ_le hjj))) (by clear hv hj ih hva; omega) (by
      have ht : (o.set k (((c + y * 10) % 4294967296 : Nat) : Int)).take (k + 1) = o.take k ++ [(((c + y * 10) % 4294967296 : Nat) : Int)] := by
        rw [take_succ_snoc (by rw [List.length_set]; exact hlo), take_set_self, M.getD_set_eq hlo]
      rw [ht, val_snoc, hlen, P_succ, hva, Int.toNat_natCast, Int.toNat_natCast]
      have hn : (c + y * 10) % 4294967296 + 4294967296 * ((c + y * 10) / 4294967296) = c + y * 10 := Nat.mod_add_div _ _
      clear ih hj hva ht hm lr e1
      generalize (c + y * 10) % 4294967296 = s1 at *
      generalize (c + y * 10) / 4294967296 = s2 at *
      have h9 : P k * (s1 + 4294967296 * s2) = P k * (c + y * 10) := by rw [hn]
      clear hn
      grind)
    refine ⟨o', c', ?_, r2⟩
    have u4 : ((c : Int) + (y : Int) * 10) % 4294967296 = (((c + y * 10) % 4294967296 : Nat) : Int) := rfl
    have u5 : ((c : Int) + (y : Int) * 10) / 4294967296 = (((c + y * 10) / 4294967296 : Nat) : Int) := rfl
    clear ih hj hv hva r2
    refine Ev.body (by unfold F50L1; rfl) ?_
    simp -implicitDefEqProofs (disch := omega) only [e1, u4, u5, go_sem, ↓reduceIte, reduceCtorEq, Nat.reduceAdd, Nat.reduceSub, Nat.reduceEqDiff, Nat.reduceLeDiff, Nat.reduceBEq]
    exact Ev.lp (by simp -implicitDefEqProofs (disch := omega) only [F50C1, go_sem, ↓reduceIte, reduceCtorEq, Nat.reduceAdd, Nat.reduceSub, Nat.reduceEqDiff, Nat.reduceLeDiff, Nat.reduceBEq]) r1
theorem parse_loop {s : List UInt8} (hs : s.length ≤ 1000) : ∀ d i, d + i = s.length → ∀ n : Int, n = i → (∀ j, j < i → dg s j) →
    ((∀ j, j < s.length → dg s j) → Ev (fun k => run (lvl tab ext k) F50C0 F50L0 ⟨mk [(0, (.pv (.str (s)))), (4, .row 4 none), (24, (.pv (.int .i64 ((s.length : Int))))), (25, (.pv (.int .i64 (n))))], hp [(4, (.row (.ints .u32 (ofN (num s i))) true))]⟩) (.exit 0, ⟨mk [(0, (.pv (.str (s)))), (4, .row 4 none), (24, (.pv (.int .i64 ((s.length : Int))))), (25, (.pv (.int .i64 ((s.length : Int))))), (26, (.pv (.bool (false))))], hp [(4, (.row (.ints .u32 (ofN (num s s.length))) true))]⟩)) ∧
    ((¬ ∀ j, j < s.length → dg s j) → ∃ h, Ev (fun k => run (lvl tab ext k) F50C0 F50L0 ⟨mk [(0, (.pv (.str (s)))), (4, .row 4 none), (24, (.pv (.int .i64 ((s.length : Int))))), (25, (.pv (.int .i64 (n))))], hp [(4, (.row (.ints .u32 (ofN (num s i))) true))]⟩) (.ret, ⟨mk [(2, (.pv (.ints .u32 ([])))), (3, (.pv (.int .i64 (2))))], h⟩)) := by
  intro d
  induction d with
  | zero =>
    intro i hd n hn hj
    have : i = s.length := by omega
    subst this
    subst hn
    refine ⟨fun _ => ?_, fun h => absurd hj h⟩
    clear hj
    refine Ev.body (by unfold F50L0; rfl) ?_
    simp -implicitDefEqProofs (disch := omega) only [go_sem, ↓reduceIte, reduceCtorEq, Nat.reduceAdd, Nat.reduceSub, Nat.reduceEqDiff, Nat.reduceLeDiff, Nat.reduceBEq]
    exact Ev.ret _
  | succ d ih =>
    intro i hd n hn hj
    subst hn
    have hi : i < s.length := by omega
    have hl := num_len i hj
    by_cases h : dg s i
    · have ih := ih (i + 1) (by omega) ((i : Int) + 1) (by omega) (fun j hjj => by
        by_cases e : j = i
        · subst e; exact h
        · exact hj j (by omega))
      unfold dg at h
      have e : (bt s i - 48) % 256 = ((bt s i - 48).toNat : Int) := by omega
      have e0 : ((bt s i - 48).toNat : Int) = bt s i - 48 := by omega
      have eb : ((s.getD i 0).toNat : Int) = bt s i := rfl
      obtain ⟨o', c', r1, r2, r3, r4, r5⟩ := parse_inner (s := s) (i24 := (s.length : Int)) (i25 := (i : Int)) (v := num s i) (c0 := (bt s i - 48).toNat) (by omega) (ofN (num s i)).length 0 (by omega) 0 rfl (ofN (num s i)) (bt s i - 48).toNat (lim_ofN _) rfl (fun _ _ => rfl) (by omega) (by simp [val, P_zero])
      rw [e0] at r1
      have en : num s i * 10 + (bt s i - 48).toNat = num s (i + 1) := rfl
      rw [en] at r4 r5
      clear e0 e en hj
      generalize bt s i = b at *
      by_cases hc : 0 < c'
      · have r4 := r4 hc
        rw [← r4] at ih
        clear r4 r5
        refine ih.imp (fun f g => ?_) (fun f g => ?_)
        · have f := f g
          clear ih g
          refine Ev.body (by unfold F50L0; rfl) ?_
          simp -implicitDefEqProofs (disch := omega) only [eb, go_sem, ↓reduceIte, reduceCtorEq, Nat.reduceAdd, Nat.reduceSub, Nat.reduceEqDiff, Nat.reduceLeDiff, Nat.reduceBEq]
          refine Ev.bind (Ev.lp (by simp -implicitDefEqProofs (disch := omega) only [F50C1, go_sem, ↓reduceIte, reduceCtorEq, Nat.reduceAdd, Nat.reduceSub, Nat.reduceEqDiff, Nat.reduceLeDiff, Nat.reduceBEq]) r1) ?_
          simp -implicitDefEqProofs (disch := omega) only [go_sem, ↓reduceIte, reduceCtorEq, Nat.reduceAdd, Nat.reduceSub, Nat.reduceEqDiff, Nat.reduceLeDiff, Nat.reduceBEq]
          exact Ev.lp (by simp -implicitDefEqProofs (disch := omega) only [F50C0, go_sem, ↓reduceIte, reduceCtorEq, Nat.reduceAdd, Nat.reduceSub, Nat.reduceEqDiff, Nat.reduceLeDiff, Nat.reduceBEq]) f
        · obtain ⟨h', f⟩ := f g
          clear ih g
          refine ⟨h', ?_⟩
          refine Ev.body (by unfold F50L0; rfl) ?_
          simp -implicitDefEqProofs (disch := omega) only [eb, go_sem, ↓reduceIte, reduceCtorEq, Nat.reduceAdd, Nat.reduceSub, Nat.reduceEqDiff, Nat.reduceLeDiff, Nat.reduceBEq]
          refine Ev.bind (Ev.lp (by simp -implicitDefEqProofs (disch := omega) only [F50C1, go_sem, ↓reduceIte, reduceCtorEq, Nat.reduceAdd, Nat.reduceSub, Nat.reduceEqDiff, Nat.reduceLeDiff, Nat.reduceBEq]) r1) ?_
          simp -implicitDefEqProofs (disch := omega) only [go_sem, ↓reduceIte, reduceCtorEq, Nat.reduceAdd, Nat.reduceSub, Nat.reduceEqDiff, Nat.reduceLeDiff, Nat.reduceBEq]
          exact Ev.lp (by simp -implicitDefEqProofs (disch := omega) only [F50C0, go_sem, ↓reduceIte, reduceCtorEq, Nat.reduceAdd, Nat.reduceSub, Nat.reduceEqDiff, Nat.reduceLeDiff, Nat.reduceBEq]) f
      · have r5 := r5 hc
        rw [← r5] at ih
        clear r4 r5
        refine ih.imp (fun f g => ?_) (fun f g => ?_)
        · have f := f g
          clear ih g
          refine Ev.body (by unfold F50L0; rfl) ?_
          simp -implicitDefEqProofs (disch := omega) only [eb, go_sem, ↓reduceIte, reduceCtorEq, Nat.reduceAdd, Nat.reduceSub, Nat.reduceEqDiff, Nat.reduceLeDiff, Nat.reduceBEq]
          refine Ev.bind (Ev.lp (by simp -implicitDefEqProofs (disch := omega) only [F50C1, go_sem, ↓reduceIte, reduceCtorEq, Nat.reduceAdd, Nat.reduceSub, Nat.reduceEqDiff, Nat.reduceLeDiff, Nat.reduceBEq]) r1) ?_
          simp -implicitDefEqProofs (disch := omega) only [go_sem, ↓reduceIte, reduceCtorEq, Nat.reduceAdd, Nat.reduceSub, Nat.reduceEqDiff, Nat.reduceLeDiff, Nat.reduceBEq]
          exact Ev.lp (by simp -implicitDefEqProofs (disch := omega) only [F50C0, go_sem, ↓reduceIte, reduceCtorEq, Nat.reduceAdd, Nat.reduceSub, Nat.reduceEqDiff, Nat.reduceLeDiff, Nat.reduceBEq]) f
        · obtain ⟨h', f⟩ := f g
          clear ih g
          refine ⟨h', ?_⟩
          refine Ev.body (by unfold F50L0; rfl) ?_
          simp -implicitDefEqProofs (disch := omega) only [eb, go_sem, ↓reduceIte, reduceCtorEq, Nat.reduceAdd, Nat.reduceSub, Nat.reduceEqDiff, Nat.reduceLeDiff, Nat.reduceBEq]
          refine Ev.bind (Ev.lp (by simp -implicitDefEqProofs (disch := omega) only [F50C1, go_sem, ↓reduceIte, reduceCtorEq, Nat.reduceAdd, Nat.reduceSub, Nat.reduceEqDiff, Nat.reduceLeDiff, Nat.reduceBEq]) r1) ?_
          simp -implicitDefEqProofs (disch := omega) only [go_sem, ↓reduceIte, reduceCtorEq, Nat.reduceAdd, Nat.reduceSub, Nat.reduceEqDiff, Nat.reduceLeDiff, Nat.reduceBEq]
          exact Ev.lp (by simp -implicitDefEqProofs (disch := omega) only [F50C0, go_sem, ↓reduceIte, reduceCtorEq, Nat.reduceAdd, Nat.reduceSub, Nat.reduceEqDiff, Nat.reduceLeDiff, Nat.reduceBEq]) f
    · refine ⟨fun g => absurd (g i hi) h, fun _ => ⟨hp [(4, (.row (.ints .u32 (ofN (num s i))) true))], ?_⟩⟩
      have eb : ((s.getD i 0).toNat : Int) = bt s i := rfl
      unfold dg at h
      clear ih hj
      generalize bt s i = b at *
      by_cases h1 : b < 48
      · refine Ev.body (by unfold F50L0; rfl) ?_
        simp -implicitDefEqProofs (disch := omega) only [eb, go_sem, ↓reduceIte, reduceCtorEq, Nat.reduceAdd, Nat.reduceSub, Nat.reduceEqDiff, Nat.reduceLeDiff, Nat.reduceBEq]
        exact Ev.ret _
      · refine Ev.body (by unfold F50L0; rfl) ?_
        simp -implicitDefEqProofs (disch := omega) only [eb, go_sem, ↓reduceIte, reduceCtorEq, Nat.reduceAdd, Nat.reduceSub, Nat.reduceEqDiff, Nat.reduceLeDiff, Nat.reduceBEq]
        exact Ev.ret _
/-- The answer of Parse: the number, and the error's number. -/
def parseN (s : List UInt8) : Nat := if s.length ≤ 200 ∧ Good s then numT s else 0
def parseE (s : List UInt8) : Int := if s.length ≤ 200 then (if Good s then 0 else 2) else 5
theorem parse_ev (s : List UInt8) (hb : s.length ≤ 1000000000) : ∃ o, Ev (fun k => (lvl tab ext k).call 50 [(.pv (.str (s)))]) [ar o (.ints .u32 (ofN (parseN s))), (.pv (.int .i64 (parseE s)))] := by
  unfold parseN parseE
  by_cases h : s.length ≤ 200
  · by_cases h0 : s = []
    · subst h0
      refine ⟨false, ?_⟩
      rw [if_neg (fun g => absurd g.2.1 (by decide)), if_pos (by decide), if_neg (fun g => absurd g.1 (by decide)), ofN_zero]
      refine Ev.call rfl tab50 ?_
      simp -implicitDefEqProofs (disch := omega) only [F50, go_sem, ↓reduceIte, reduceCtorEq, Nat.reduceAdd, Nat.reduceSub, Nat.reduceEqDiff, Nat.reduceLeDiff, Nat.reduceBEq]
      exact Ev.ret _
    · have hp : 0 < s.length := List.length_pos_iff.2 h0
      have pl := parse_loop (s := s) (by omega) s.length 0 (by omega) 0 rfl (fun j hj => absurd hj (Nat.not_lt_zero _))
      have e : num s 0 = 0 := rfl
      rw [e, ofN_zero] at pl
      clear e
      have f0 : (s = []) = False := ff h0
      have eb : ((s.getD 0 0).toNat : Int) = bt s 0 := rfl
      have hl := bt_range s 0
      by_cases hz : s.length = 1 ∨ bt s 0 ≠ 48
      · by_cases hd : ∀ j, j < s.length → dg s j
        · refine ⟨true, ?_⟩
          have pl := pl.1 hd
          have hg : Good s := ⟨hp, hd, hz⟩
          rw [if_pos ⟨h, hg⟩, if_pos h, if_pos hg]
          show Ev _ [ar true (.ints .u32 (ofN (num s s.length))), (.pv (.int .i64 (0)))]
          clear hd hg
          generalize bt s 0 = b at *
          by_cases hb : b = 48
          · have h1 : s.length = 1 := by omega
            refine Ev.call rfl tab50 ?_
            simp -implicitDefEqProofs (disch := omega) only [F50, f0, eb, go_sem, ↓reduceIte, reduceCtorEq, Nat.reduceAdd, Nat.reduceSub, Nat.reduceEqDiff, Nat.reduceLeDiff, Nat.reduceBEq]
            refine Ev.bind (Ev.lp (by simp -implicitDefEqProofs (disch := omega) only [F50C0, go_sem, ↓reduceIte, reduceCtorEq, Nat.reduceAdd, Nat.reduceSub, Nat.reduceEqDiff, Nat.reduceLeDiff, Nat.reduceBEq]) pl) ?_
            simp -implicitDefEqProofs (disch := omega) only [go_sem, ↓reduceIte, reduceCtorEq, Nat.reduceAdd, Nat.reduceSub, Nat.reduceEqDiff, Nat.reduceLeDiff, Nat.reduceBEq]
            exact Ev.ret _
          · refine Ev.call rfl tab50 ?_
            simp -implicitDefEqProofs (disch := omega) only [F50, f0, eb, go_sem, ↓reduceIte, reduceCtorEq, Nat.reduceAdd, Nat.reduceSub, Nat.reduceEqDiff, Nat.reduceLeDiff, Nat.reduceBEq]
            refine Ev.bind (Ev.lp (by simp -implicitDefEqProofs (disch := omega) only [F50C0, go_sem, ↓reduceIte, reduceCtorEq, Nat.reduceAdd, Nat.reduceSub, Nat.reduceEqDiff, Nat.reduceLeDiff, Nat.reduceBEq]) pl) ?_
            simp -implicitDefEqProofs (disch := omega) only [go_sem, ↓reduceIte, reduceCtorEq, Nat.reduceAdd, Nat.reduceSub, Nat.reduceEqDiff, Nat.reduceLeDiff, Nat.reduceBEq]
            exact Ev.ret _
        · refine ⟨false, ?_⟩
          obtain ⟨h', pl⟩ := pl.2 hd
          have hg : ¬ Good s := fun g => hd g.2.1
          rw [if_neg (fun g => hg g.2), if_pos h, if_neg hg, ofN_zero]
          clear hd hg
          generalize bt s 0 = b at *
          by_cases hb : b = 48
          · have h1 : s.length = 1 := by omega
            refine Ev.call rfl tab50 ?_
            simp -implicitDefEqProofs (disch := omega) only [F50, f0, eb, go_sem, ↓reduceIte, reduceCtorEq, Nat.reduceAdd, Nat.reduceSub, Nat.reduceEqDiff, Nat.reduceLeDiff, Nat.reduceBEq]
            refine Ev.bind (Ev.lp (by simp -implicitDefEqProofs (disch := omega) only [F50C0, go_sem, ↓reduceIte, reduceCtorEq, Nat.reduceAdd, Nat.reduceSub, Nat.reduceEqDiff, Nat.reduceLeDiff, Nat.reduceBEq]) pl) ?_
            simp -implicitDefEqProofs (disch := omega) only [go_sem, ↓reduceIte, reduceCtorEq, Nat.reduceAdd, Nat.reduceSub, Nat.reduceEqDiff, Nat.reduceLeDiff, Nat.reduceBEq]
            exact Ev.ret _
          · refine Ev.call rfl tab50 ?_
            simp -implicitDefEqProofs (disch := omega) only [F50, f0, eb, go_sem, ↓reduceIte, reduceCtorEq, Nat.reduceAdd, Nat.reduceSub, Nat.reduceEqDiff, Nat.reduceLeDiff, Nat.reduceBEq]
            refine Ev.bind (Ev.lp (by simp -implicitDefEqProofs (disch := omega) only [F50C0, go_sem, ↓reduceIte, reduceCtorEq, Nat.reduceAdd, Nat.reduceSub, Nat.reduceEqDiff, Nat.reduceLeDiff, Nat.reduceBEq]) pl) ?_
            simp -implicitDefEqProofs (disch := omega) only [go_sem, ↓reduceIte, reduceCtorEq, Nat.reduceAdd, Nat.reduceSub, Nat.reduceEqDiff, Nat.reduceLeDiff, Nat.reduceBEq]
            exact Ev.ret _
      · refine ⟨false, ?_⟩
        have hg : ¬ Good s := fun g => hz g.2.2
        rw [if_neg (fun g => hg g.2), if_pos h, if_neg hg, ofN_zero]
        clear hg pl
        generalize bt s 0 = b at *
        have hb : b = 48 := by omega
        have h1 : 1 < s.length := by omega
        refine Ev.call rfl tab50 ?_
        simp -implicitDefEqProofs (disch := omega) only [F50, f0, eb, go_sem, ↓reduceIte, reduceCtorEq, Nat.reduceAdd, Nat.reduceSub, Nat.reduceEqDiff, Nat.reduceLeDiff, Nat.reduceBEq]
        exact Ev.ret _
  · refine ⟨false, ?_⟩
    rw [if_neg (fun g => h g.1), if_neg h, ofN_zero]
    refine Ev.call rfl tab50 ?_
    simp -implicitDefEqProofs (disch := omega) only [F50, go_sem, ↓reduceIte, reduceCtorEq, Nat.reduceAdd, Nat.reduceSub, Nat.reduceEqDiff, Nat.reduceLeDiff, Nat.reduceBEq]
    exact Ev.ret _
end Go.Proofs.Ytkeipmkiilimeaa.V
