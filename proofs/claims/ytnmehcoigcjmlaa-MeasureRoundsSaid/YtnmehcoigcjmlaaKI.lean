/- What Units of the program and of the reference comes to.
The examples of the chapter on measures. -/
import Derived.Test.YtnmehcoigcjmlaaKH
import Derived.Test.YtnmehcoigcjmlaaKG

set_option linter.unusedSimpArgs false
set_option linter.unusedVariables false
namespace Go.Proofs.Ytnmehcoigcjmlaa.V
open Go Go.Proofs.Ytnmehcoigcjmlaa.M
/-- Is a ratio's nearest integer a coordinate? -/
def uB (r : Rat) : Bool := decide (-1048576 ≤ rround r ∧ rround r ≤ 1048576)
theorem units_ev {p : PV} {r : Rat} (hp : IsQ p r) : Ev (fun k => (lvl tab ext k).call 11 [.pv p]) [(.pv (.int .i64 (if uB r = true then rround r else 0))), (.pv (.int .i64 (if uB r = true then 0 else 3)))] := by
  have ro := qround_ev hp
  have sr := sz_round hp.qz
  have sm := zsmall_ev (isZ_of (sz_mono sr (by decide)))
  obtain ⟨b, l, d, rfl, hl, hd, h1, h2, rfl⟩ := hp
  generalize rv b l d = r at *
  unfold uB
  generalize rround r = z at *
  by_cases hf : Fits z
  · rw [if_pos hf, decide_eq_true hf] at sm
    by_cases h : -1048576 ≤ z ∧ z ≤ 1048576
    · rw [decide_eq_true h, if_pos rfl, if_pos rfl]
      refine Ev.call rfl tab11 ?_
      simp -implicitDefEqProofs (disch := omega) only [F11, go_sem, ↓reduceIte, reduceCtorEq, Nat.reduceAdd, Nat.reduceSub, Nat.reduceEqDiff, Nat.reduceLeDiff, Nat.reduceBEq]
      (refine Ev.bind (ro) ?_; simp -implicitDefEqProofs (disch := omega) only [go_sem, ↓reduceIte, reduceCtorEq, Nat.reduceAdd, Nat.reduceSub, Nat.reduceEqDiff, Nat.reduceLeDiff, Nat.reduceBEq]; refine Ev.bind (sm) ?_; simp -implicitDefEqProofs (disch := omega) only [go_sem, ↓reduceIte, reduceCtorEq, Nat.reduceAdd, Nat.reduceSub, Nat.reduceEqDiff, Nat.reduceLeDiff, Nat.reduceBEq])
      exact Ev.ret _
    · rw [decide_eq_false h, if_neg (by decide), if_neg (by decide)]
      by_cases h3 : z < -1048576
      · refine Ev.call rfl tab11 ?_
        simp -implicitDefEqProofs (disch := omega) only [F11, go_sem, ↓reduceIte, reduceCtorEq, Nat.reduceAdd, Nat.reduceSub, Nat.reduceEqDiff, Nat.reduceLeDiff, Nat.reduceBEq]
        (refine Ev.bind (ro) ?_; simp -implicitDefEqProofs (disch := omega) only [go_sem, ↓reduceIte, reduceCtorEq, Nat.reduceAdd, Nat.reduceSub, Nat.reduceEqDiff, Nat.reduceLeDiff, Nat.reduceBEq]; refine Ev.bind (sm) ?_; simp -implicitDefEqProofs (disch := omega) only [go_sem, ↓reduceIte, reduceCtorEq, Nat.reduceAdd, Nat.reduceSub, Nat.reduceEqDiff, Nat.reduceLeDiff, Nat.reduceBEq])
        exact Ev.ret _
      · refine Ev.call rfl tab11 ?_
        simp -implicitDefEqProofs (disch := omega) only [F11, go_sem, ↓reduceIte, reduceCtorEq, Nat.reduceAdd, Nat.reduceSub, Nat.reduceEqDiff, Nat.reduceLeDiff, Nat.reduceBEq]
        (refine Ev.bind (ro) ?_; simp -implicitDefEqProofs (disch := omega) only [go_sem, ↓reduceIte, reduceCtorEq, Nat.reduceAdd, Nat.reduceSub, Nat.reduceEqDiff, Nat.reduceLeDiff, Nat.reduceBEq]; refine Ev.bind (sm) ?_; simp -implicitDefEqProofs (disch := omega) only [go_sem, ↓reduceIte, reduceCtorEq, Nat.reduceAdd, Nat.reduceSub, Nat.reduceEqDiff, Nat.reduceLeDiff, Nat.reduceBEq])
        exact Ev.ret _
  · rw [if_neg hf, decide_eq_false hf] at sm
    rw [decide_eq_false (fun h => hf ⟨by omega, by omega⟩), if_neg (by decide), if_neg (by decide)]
    clear hf
    refine Ev.call rfl tab11 ?_
    simp -implicitDefEqProofs (disch := omega) only [F11, go_sem, ↓reduceIte, reduceCtorEq, Nat.reduceAdd, Nat.reduceSub, Nat.reduceEqDiff, Nat.reduceLeDiff, Nat.reduceBEq]
    (refine Ev.bind (ro) ?_; simp -implicitDefEqProofs (disch := omega) only [go_sem, ↓reduceIte, reduceCtorEq, Nat.reduceAdd, Nat.reduceSub, Nat.reduceEqDiff, Nat.reduceLeDiff, Nat.reduceBEq]; refine Ev.bind (sm) ?_; simp -implicitDefEqProofs (disch := omega) only [go_sem, ↓reduceIte, reduceCtorEq, Nat.reduceAdd, Nat.reduceSub, Nat.reduceEqDiff, Nat.reduceLeDiff, Nat.reduceBEq])
    exact Ev.ret _
theorem wunits_ev {p : PV} {r : Rat} (hp : IsQ p r) : Ev (fun k => (lvl tab ext k).call 12 [.pv p]) [(.pv (.int .i64 (if uB r = true then rround r else 0))), (.pv (.int .i64 (if uB r = true then 0 else 3)))] := by
  have ro := wround_ev hp
  have sr := sz_round hp.qz
  have sm := ysmall_ev (isZ_of (sz_mono sr (by decide)))
  obtain ⟨b, l, d, rfl, hl, hd, h1, h2, rfl⟩ := hp
  generalize rv b l d = r at *
  unfold uB
  generalize rround r = z at *
  by_cases hf : Fits z
  · rw [if_pos hf, decide_eq_true hf] at sm
    by_cases h : -1048576 ≤ z ∧ z ≤ 1048576
    · rw [decide_eq_true h, if_pos rfl, if_pos rfl]
      refine Ev.call rfl tab12 ?_
      simp -implicitDefEqProofs (disch := omega) only [F12, go_sem, ↓reduceIte, reduceCtorEq, Nat.reduceAdd, Nat.reduceSub, Nat.reduceEqDiff, Nat.reduceLeDiff, Nat.reduceBEq]
      (refine Ev.bind (ro) ?_; simp -implicitDefEqProofs (disch := omega) only [go_sem, ↓reduceIte, reduceCtorEq, Nat.reduceAdd, Nat.reduceSub, Nat.reduceEqDiff, Nat.reduceLeDiff, Nat.reduceBEq]; refine Ev.bind (sm) ?_; simp -implicitDefEqProofs (disch := omega) only [go_sem, ↓reduceIte, reduceCtorEq, Nat.reduceAdd, Nat.reduceSub, Nat.reduceEqDiff, Nat.reduceLeDiff, Nat.reduceBEq])
      exact Ev.ret _
    · rw [decide_eq_false h, if_neg (by decide), if_neg (by decide)]
      by_cases h3 : z < -1048576
      · refine Ev.call rfl tab12 ?_
        simp -implicitDefEqProofs (disch := omega) only [F12, go_sem, ↓reduceIte, reduceCtorEq, Nat.reduceAdd, Nat.reduceSub, Nat.reduceEqDiff, Nat.reduceLeDiff, Nat.reduceBEq]
        (refine Ev.bind (ro) ?_; simp -implicitDefEqProofs (disch := omega) only [go_sem, ↓reduceIte, reduceCtorEq, Nat.reduceAdd, Nat.reduceSub, Nat.reduceEqDiff, Nat.reduceLeDiff, Nat.reduceBEq]; refine Ev.bind (sm) ?_; simp -implicitDefEqProofs (disch := omega) only [go_sem, ↓reduceIte, reduceCtorEq, Nat.reduceAdd, Nat.reduceSub, Nat.reduceEqDiff, Nat.reduceLeDiff, Nat.reduceBEq])
        exact Ev.ret _
      · refine Ev.call rfl tab12 ?_
        simp -implicitDefEqProofs (disch := omega) only [F12, go_sem, ↓reduceIte, reduceCtorEq, Nat.reduceAdd, Nat.reduceSub, Nat.reduceEqDiff, Nat.reduceLeDiff, Nat.reduceBEq]
        (refine Ev.bind (ro) ?_; simp -implicitDefEqProofs (disch := omega) only [go_sem, ↓reduceIte, reduceCtorEq, Nat.reduceAdd, Nat.reduceSub, Nat.reduceEqDiff, Nat.reduceLeDiff, Nat.reduceBEq]; refine Ev.bind (sm) ?_; simp -implicitDefEqProofs (disch := omega) only [go_sem, ↓reduceIte, reduceCtorEq, Nat.reduceAdd, Nat.reduceSub, Nat.reduceEqDiff, Nat.reduceLeDiff, Nat.reduceBEq])
        exact Ev.ret _
  · rw [if_neg hf, decide_eq_false hf] at sm
    rw [decide_eq_false (fun h => hf ⟨by omega, by omega⟩), if_neg (by decide), if_neg (by decide)]
    clear hf
    refine Ev.call rfl tab12 ?_
    simp -implicitDefEqProofs (disch := omega) only [F12, go_sem, ↓reduceIte, reduceCtorEq, Nat.reduceAdd, Nat.reduceSub, Nat.reduceEqDiff, Nat.reduceLeDiff, Nat.reduceBEq]
    (refine Ev.bind (ro) ?_; simp -implicitDefEqProofs (disch := omega) only [go_sem, ↓reduceIte, reduceCtorEq, Nat.reduceAdd, Nat.reduceSub, Nat.reduceEqDiff, Nat.reduceLeDiff, Nat.reduceBEq]; refine Ev.bind (sm) ?_; simp -implicitDefEqProofs (disch := omega) only [go_sem, ↓reduceIte, reduceCtorEq, Nat.reduceAdd, Nat.reduceSub, Nat.reduceEqDiff, Nat.reduceLeDiff, Nat.reduceBEq])
    exact Ev.ret _
end Go.Proofs.Ytnmehcoigcjmlaa.V
set_option linter.unusedSimpArgs false
set_option linter.unusedVariables false
namespace Go.Proofs.Ytnmehcoigcjmlaa.V
open Go Go.Proofs.Ytnmehcoigcjmlaa.M
theorem alive4_ev : Ev (fun k => (lvl tab ext k).call 10 []) [(.pv (.bool (true)))] := Ev.seen (n := 300) (by kernel_rfl)
end Go.Proofs.Ytnmehcoigcjmlaa.V
