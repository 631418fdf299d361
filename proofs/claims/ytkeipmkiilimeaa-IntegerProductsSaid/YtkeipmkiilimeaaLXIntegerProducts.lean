/- IntegerProducts: Mul and DivMod of the program are those of the reference, for integers of at most 40 limbs (else the chapter's examples).
The statement IntegerProductsSaid, out of its Pure. -/
import Derived.Test.YtkeipmkiilimeaaKH
import Derived.Test.YtkeipmkiilimeaaRows
import Derived.WalkKit
import Derived.ProofKit
import Derived.OpenShut
import Derived.ChangeOld
import Derived.Below

set_option linter.unusedSimpArgs false
set_option linter.unusedVariables false
namespace Go.Proofs.Ytkeipmkiilimeaa.V
open Go Go.Proofs.Ytkeipmkiilimeaa.M
theorem pureIntegerProducts : PureOf [25, 25] 3 := by
  refine pureZZ fun b l c m hl hm => ?_
  have sh := lshort_ev (b := b) (c := c) (l := l) (m := m)
  by_cases hs : l.length ≤ 40 ∧ m.length ≤ 40
  · rw [decide_eq_true hs] at sh
    obtain ⟨ia, sa⟩ := isz_mk (b := b) hl hs.1 (by decide)
    obtain ⟨ib, sb⟩ := isz_mk (b := c) hm hs.2 (by decide)
    generalize iv b l = x at *
    generalize iv c m = y at *
    have s0 : Sz 1 0 := by unfold Sz; rw [show (0 : Int).natAbs = 0 from rfl, ofN_zero]; decide
    refine Ev.call rfl tab3 ?_
    simp -implicitDefEqProofs (disch := omega) only [F3, go_sem, ↓reduceIte, reduceCtorEq, Nat.reduceAdd, Nat.reduceSub, Nat.reduceEqDiff, Nat.reduceLeDiff, Nat.reduceBEq]
    by_cases hy : y = 0
    · subst hy
      (refine Ev.bind (sh) ?_; simp -implicitDefEqProofs (disch := omega) only [cellsZ, foldZ, go_sem, ↓reduceIte, reduceCtorEq, Nat.reduceAdd, Nat.reduceSub, Nat.reduceEqDiff, Nat.reduceLeDiff, Nat.reduceBEq]; refine Ev.bind (zdm0_ev ia ib) ?_; simp -implicitDefEqProofs (disch := omega) only [cellsZ, foldZ, go_sem, ↓reduceIte, reduceCtorEq, Nat.reduceAdd, Nat.reduceSub, Nat.reduceEqDiff, Nat.reduceLeDiff, Nat.reduceBEq]; refine Ev.bind (ydm0_ev ia ib (sz9 sa (by decide))) ?_; simp -implicitDefEqProofs (disch := omega) only [cellsZ, foldZ, go_sem, ↓reduceIte, reduceCtorEq, Nat.reduceAdd, Nat.reduceSub, Nat.reduceEqDiff, Nat.reduceLeDiff, Nat.reduceBEq]; refine Ev.bind (zmul_ev ia ib) ?_; simp -implicitDefEqProofs (disch := omega) only [cellsZ, foldZ, go_sem, ↓reduceIte, reduceCtorEq, Nat.reduceAdd, Nat.reduceSub, Nat.reduceEqDiff, Nat.reduceLeDiff, Nat.reduceBEq]; refine Ev.bind (ymul_ev ia ib) ?_; simp -implicitDefEqProofs (disch := omega) only [cellsZ, foldZ, go_sem, ↓reduceIte, reduceCtorEq, Nat.reduceAdd, Nat.reduceSub, Nat.reduceEqDiff, Nat.reduceLeDiff, Nat.reduceBEq]; refine Ev.bind (sameT (sz_mul sa sb) (by decide)) ?_; simp -implicitDefEqProofs (disch := omega) only [cellsZ, foldZ, go_sem, ↓reduceIte, reduceCtorEq, Nat.reduceAdd, Nat.reduceSub, Nat.reduceEqDiff, Nat.reduceLeDiff, Nat.reduceBEq]; refine Ev.bind (sameT s0 (by decide)) ?_; simp -implicitDefEqProofs (disch := omega) only [cellsZ, foldZ, go_sem, ↓reduceIte, reduceCtorEq, Nat.reduceAdd, Nat.reduceSub, Nat.reduceEqDiff, Nat.reduceLeDiff, Nat.reduceBEq]; refine Ev.bind (sameT s0 (by decide)) ?_; simp -implicitDefEqProofs (disch := omega) only [cellsZ, foldZ, go_sem, ↓reduceIte, reduceCtorEq, Nat.reduceAdd, Nat.reduceSub, Nat.reduceEqDiff, Nat.reduceLeDiff, Nat.reduceBEq]; refine Ev.bind (awake_ev) ?_; simp -implicitDefEqProofs (disch := omega) only [cellsZ, foldZ, go_sem, ↓reduceIte, reduceCtorEq, Nat.reduceAdd, Nat.reduceSub, Nat.reduceEqDiff, Nat.reduceLeDiff, Nat.reduceBEq])
      exact Ev.ret _
    · (refine Ev.bind (sh) ?_; simp -implicitDefEqProofs (disch := omega) only [cellsZ, foldZ, go_sem, ↓reduceIte, reduceCtorEq, Nat.reduceAdd, Nat.reduceSub, Nat.reduceEqDiff, Nat.reduceLeDiff, Nat.reduceBEq]; refine Ev.bind (zdivmod_ev ia ib hy) ?_; simp -implicitDefEqProofs (disch := omega) only [cellsZ, foldZ, go_sem, ↓reduceIte, reduceCtorEq, Nat.reduceAdd, Nat.reduceSub, Nat.reduceEqDiff, Nat.reduceLeDiff, Nat.reduceBEq]; refine Ev.bind (ydivmod_ev ia ib hy (sz9 sa (by decide)) (sz9 sb (by decide))) ?_; simp -implicitDefEqProofs (disch := omega) only [cellsZ, foldZ, go_sem, ↓reduceIte, reduceCtorEq, Nat.reduceAdd, Nat.reduceSub, Nat.reduceEqDiff, Nat.reduceLeDiff, Nat.reduceBEq]; refine Ev.bind (zmul_ev ia ib) ?_; simp -implicitDefEqProofs (disch := omega) only [cellsZ, foldZ, go_sem, ↓reduceIte, reduceCtorEq, Nat.reduceAdd, Nat.reduceSub, Nat.reduceEqDiff, Nat.reduceLeDiff, Nat.reduceBEq]; refine Ev.bind (ymul_ev ia ib) ?_; simp -implicitDefEqProofs (disch := omega) only [cellsZ, foldZ, go_sem, ↓reduceIte, reduceCtorEq, Nat.reduceAdd, Nat.reduceSub, Nat.reduceEqDiff, Nat.reduceLeDiff, Nat.reduceBEq]; refine Ev.bind (sameT (sz_mul sa sb) (by decide)) ?_; simp -implicitDefEqProofs (disch := omega) only [cellsZ, foldZ, go_sem, ↓reduceIte, reduceCtorEq, Nat.reduceAdd, Nat.reduceSub, Nat.reduceEqDiff, Nat.reduceLeDiff, Nat.reduceBEq]; refine Ev.bind (sameT (sz_div sa) (by decide)) ?_; simp -implicitDefEqProofs (disch := omega) only [cellsZ, foldZ, go_sem, ↓reduceIte, reduceCtorEq, Nat.reduceAdd, Nat.reduceSub, Nat.reduceEqDiff, Nat.reduceLeDiff, Nat.reduceBEq]; refine Ev.bind (sameT (sz_mod sb hy) (by decide)) ?_; simp -implicitDefEqProofs (disch := omega) only [cellsZ, foldZ, go_sem, ↓reduceIte, reduceCtorEq, Nat.reduceAdd, Nat.reduceSub, Nat.reduceEqDiff, Nat.reduceLeDiff, Nat.reduceBEq]; refine Ev.bind (awake_ev) ?_; simp -implicitDefEqProofs (disch := omega) only [cellsZ, foldZ, go_sem, ↓reduceIte, reduceCtorEq, Nat.reduceAdd, Nat.reduceSub, Nat.reduceEqDiff, Nat.reduceLeDiff, Nat.reduceBEq])
      exact Ev.ret _
  · rw [decide_eq_false hs] at sh
    refine Ev.call rfl tab3 ?_
    simp -implicitDefEqProofs (disch := omega) only [F3, go_sem, ↓reduceIte, reduceCtorEq, Nat.reduceAdd, Nat.reduceSub, Nat.reduceEqDiff, Nat.reduceLeDiff, Nat.reduceBEq]
    (refine Ev.bind (sh) ?_; simp -implicitDefEqProofs (disch := omega) only [cellsZ, foldZ, go_sem, ↓reduceIte, reduceCtorEq, Nat.reduceAdd, Nat.reduceSub, Nat.reduceEqDiff, Nat.reduceLeDiff, Nat.reduceBEq]; refine Ev.bind (awake_ev) ?_; simp -implicitDefEqProofs (disch := omega) only [cellsZ, foldZ, go_sem, ↓reduceIte, reduceCtorEq, Nat.reduceAdd, Nat.reduceSub, Nat.reduceEqDiff, Nat.reduceLeDiff, Nat.reduceBEq])
    exact Ev.ret _
end Go.Proofs.Ytkeipmkiilimeaa.V
namespace Go.Proofs.Ytkeipmkiilimeaa.integerProducts
open Go.ChangeShapes Go.WideShapes Go.ChangeAt Go.RowKit
set_option linter.unusedVariables false
theorem own : ownKnob Try.prog.godebug = none := by kernel_rfl
theorem laidOut : laidOutB Try.prog = true := by kernel_rfl
set_option maxRecDepth 100000 in
theorem lifted (os : Os) (started : os.Started) (H : Type) (enc : TypeId × Value → H) :
  ReturnsInHanded {} Try.checked os 3 .any (Rows.integerProductsSpec.pre6 enc Try.prog Try.f3 Rows.integerProductsRow.domain false) (Rows.integerProductsSpec.post enc Try.prog Try.f3 false true false false) := by
 refine returnsInHanded_of_change (C := Try.checked) own started (by kernel_rfl) Try.func3
  (ChangeSpec.witness6 (enc := enc) (C := Try.checked) false ⟨#[], #[.agg #[.bool false, .slice none 0 0], .agg #[.bool false, .slice none 0 0]], []⟩ 8 (by kernel_rfl) (by kernel_rfl) (by kernel_rfl) (by kernel_rfl)) ?_
 intro W base args ds gs before hval0 hW hcnd _
 have hval : ∀ (j : Nat) t v, Try.f3.params[j]? = some t → args[j]? = some v → Value.okWide Try.prog W .any base t v := hval0
 have hW' := hW
 obtain ⟨p, q, hA0, hV, rfl, hfz, hnd⟩ := hW
 have hA : DataW.TrodAll enc Try.prog W 0 (fun _ => true) true Try.f3.params.toList args.toList ds p := hA0
 rw [Try.params3] at hA hval
 have call := V.law_sound V.mixed V.tab_ok V.ext_ok (L := [25, 4, 23, 46]) (f := 3) (by kernel_rfl) (by decide) (ts := [25, 25]) (by kernel_rfl) V.pureIntegerProducts (fun j t v h1 h2 => hval j t v (by simpa using h1) h2) hA
 obtain ⟨v0, vs0, d0, ds0, p0, q0, hargs, rfl, rfl, h0, r0⟩ := trodAll_cons hA
 obtain ⟨v1, vs1, d1, ds1, p1, q1, rfl, rfl, rfl, h1, r1⟩ := trodAll_cons r0
 obtain ⟨rfl, rfl, rfl⟩ := trodAll_nil r1
 have lt0 : ∀ x ∈ p0, x.block < W.heap.size := by
  obtain ⟨m, hm⟩ := h0
  exact DataW.trod_lt m _ _ _ hm
 have lt1 : ∀ x ∈ p1, x.block < W.heap.size := by
  obtain ⟨m, hm⟩ := h1
  exact DataW.trod_lt m _ _ _ hm
 obtain ⟨rfl, rfl⟩ := trodVars_none hV
 refine call.mono fun e W' ⟨he, bel⟩ => ?_
 subst he
 exact ⟨_, rfl, _, _, _, [], _, [], hW', trodAll_mk1 (shut_bool Try.underlying4 _), by rw [hargs]; exact (trodAll_cons_mk (Below.trod laidOut (by kernel_rfl) (of_decide_eq_true (by kernel_rfl)) h0 bel lt0) (trodAll_cons_mk (Below.trod laidOut (by kernel_rfl) (of_decide_eq_true (by kernel_rfl)) h1 bel lt1) trodAll_mk0)), rfl, bel.frame _, fun h => by cases h⟩
theorem over : Rows.integerProductsRow.holds Try.pinned (OpenSpec.ofChange Rows.integerProductsSpec) :=
 OpenClaim.holds_of_wide 3 Try.f3 rfl rfl rfl rfl rfl rfl rfl ⟨rfl, rfl, rfl, rfl, rfl⟩ rfl rfl rfl rfl rfl (by kernel_rfl) Try.func3 (by kernel_rfl)
  (of_decide_eq_true (by kernel_rfl)) (by unfold Func.isWrapper; first | (rw [if_pos (by decide +kernel)]; kernel_rfl) | (rw [if_neg (by decide +kernel)]; exact ⟨rfl, rfl⟩))
  (fun os started H enc _ => lifted os started H enc)
theorem proved : Rows.IntegerProductsSaid := over
#print axioms proved
end Go.Proofs.Ytkeipmkiilimeaa.integerProducts
namespace Go.Proofs.Ytkeipmkiilimeaa
/-- The row, under a short name, for the claim. -/
theorem integerProducts_holds : Rows.IntegerProductsSaid := integerProducts.proved
end Go.Proofs.Ytkeipmkiilimeaa
