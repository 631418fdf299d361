/- IntegerRing: sums and products of any three integers of at most 20 limbs do not depend on order or grouping, products distribute over sums, and what was added can be subtracted (else the chapter's examples).
The statement IntegerRingSaid, out of its Pure. -/
import Derived.Test.YtkeipmkiilimeaaKH
import Derived.Test.YtkeipmkiilimeaaRows
import Derived.WalkKit
import Derived.ProofKit
import Derived.OpenShut
import Derived.ChangeOld
import Derived.Below

set_option linter.unusedSimpArgs false
set_option linter.unusedVariables false
namespace Go.Proofs.Ytkeipmkiilimeaa.V
open Go Go.Proofs.Ytkeipmkiilimeaa.M
theorem pureIntegerRing : PureOf [25, 25, 25] 7 := by
  refine pureZZZ fun b l c m d n hl hm hn => ?_
  have s1 := short_ev (b := b) (l := l) (n := 20)
  have s2 := short_ev (b := c) (l := m) (n := 20)
  have s3 := short_ev (b := d) (l := n) (n := 20)
  by_cases h1 : l.length ≤ 20
  · by_cases h2 : m.length ≤ 20
    · by_cases h3 : n.length ≤ 20
      · rw [decide_eq_true (by omega)] at s1 s2 s3
        obtain ⟨ia, sa⟩ := isz_mk (b := b) hl h1 (by decide)
        obtain ⟨ib, sb⟩ := isz_mk (b := c) hm h2 (by decide)
        obtain ⟨ic, sc⟩ := isz_mk (b := d) hn h3 (by decide)
        generalize iv b l = x at *
        generalize iv c m = y at *
        generalize iv d n = z at *
        have sxy := sz_add sa sb
        have syz := sz_add sb sc
        have mxy := sz_mul sa sb
        have myz := sz_mul sb sc
        have mxz := sz_mul sa sc
        have i0 : IsZ (ofZ 1) 1 := isZ_of (sz_mono (sz_int (by decide) (by decide)) (by decide))
        refine Ev.call rfl tab7 ?_
        simp -implicitDefEqProofs (disch := omega) only [F7, go_sem, ↓reduceIte, reduceCtorEq, Nat.reduceAdd, Nat.reduceSub, Nat.reduceEqDiff, Nat.reduceLeDiff, Nat.reduceBEq]
        (refine Ev.bind (s1) ?_; simp -implicitDefEqProofs (disch := omega) only [cellsZ, foldZ, go_sem, ↓reduceIte, reduceCtorEq, Nat.reduceAdd, Nat.reduceSub, Nat.reduceEqDiff, Nat.reduceLeDiff, Nat.reduceBEq]; refine Ev.bind (s2) ?_; simp -implicitDefEqProofs (disch := omega) only [cellsZ, foldZ, go_sem, ↓reduceIte, reduceCtorEq, Nat.reduceAdd, Nat.reduceSub, Nat.reduceEqDiff, Nat.reduceLeDiff, Nat.reduceBEq]; refine Ev.bind (s3) ?_; simp -implicitDefEqProofs (disch := omega) only [cellsZ, foldZ, go_sem, ↓reduceIte, reduceCtorEq, Nat.reduceAdd, Nat.reduceSub, Nat.reduceEqDiff, Nat.reduceLeDiff, Nat.reduceBEq]; refine Ev.bind (zadd_ev ia ib) ?_; simp -implicitDefEqProofs (disch := omega) only [cellsZ, foldZ, go_sem, ↓reduceIte, reduceCtorEq, Nat.reduceAdd, Nat.reduceSub, Nat.reduceEqDiff, Nat.reduceLeDiff, Nat.reduceBEq]; refine Ev.bind (zmul_ev ia ib) ?_; simp -implicitDefEqProofs (disch := omega) only [cellsZ, foldZ, go_sem, ↓reduceIte, reduceCtorEq, Nat.reduceAdd, Nat.reduceSub, Nat.reduceEqDiff, Nat.reduceLeDiff, Nat.reduceBEq])
        (refine Ev.bind (zadd_ev ib ia) ?_; simp -implicitDefEqProofs (disch := omega) only [cellsZ, foldZ, go_sem, ↓reduceIte, reduceCtorEq, Nat.reduceAdd, Nat.reduceSub, Nat.reduceEqDiff, Nat.reduceLeDiff, Nat.reduceBEq]; refine Ev.bind (sameE sxy (by decide) (Int.add_comm x y)) ?_; simp -implicitDefEqProofs (disch := omega) only [cellsZ, foldZ, go_sem, ↓reduceIte, reduceCtorEq, Nat.reduceAdd, Nat.reduceSub, Nat.reduceEqDiff, Nat.reduceLeDiff, Nat.reduceBEq]; refine Ev.bind (zmul_ev ib ia) ?_; simp -implicitDefEqProofs (disch := omega) only [cellsZ, foldZ, go_sem, ↓reduceIte, reduceCtorEq, Nat.reduceAdd, Nat.reduceSub, Nat.reduceEqDiff, Nat.reduceLeDiff, Nat.reduceBEq]; refine Ev.bind (sameE mxy (by decide) (Int.mul_comm x y)) ?_; simp -implicitDefEqProofs (disch := omega) only [cellsZ, foldZ, go_sem, ↓reduceIte, reduceCtorEq, Nat.reduceAdd, Nat.reduceSub, Nat.reduceEqDiff, Nat.reduceLeDiff, Nat.reduceBEq])
        (refine Ev.bind (zadd_ev (isZ_of (sz9 sxy (by decide))) ic) ?_; simp -implicitDefEqProofs (disch := omega) only [cellsZ, foldZ, go_sem, ↓reduceIte, reduceCtorEq, Nat.reduceAdd, Nat.reduceSub, Nat.reduceEqDiff, Nat.reduceLeDiff, Nat.reduceBEq]; refine Ev.bind (zadd_ev ib ic) ?_; simp -implicitDefEqProofs (disch := omega) only [cellsZ, foldZ, go_sem, ↓reduceIte, reduceCtorEq, Nat.reduceAdd, Nat.reduceSub, Nat.reduceEqDiff, Nat.reduceLeDiff, Nat.reduceBEq]; refine Ev.bind (zadd_ev ia (isZ_of (sz9 syz (by decide)))) ?_; simp -implicitDefEqProofs (disch := omega) only [cellsZ, foldZ, go_sem, ↓reduceIte, reduceCtorEq, Nat.reduceAdd, Nat.reduceSub, Nat.reduceEqDiff, Nat.reduceLeDiff, Nat.reduceBEq]; refine Ev.bind (sameE (sz_add sxy sc) (by decide) (Int.add_assoc x y z)) ?_; simp -implicitDefEqProofs (disch := omega) only [cellsZ, foldZ, go_sem, ↓reduceIte, reduceCtorEq, Nat.reduceAdd, Nat.reduceSub, Nat.reduceEqDiff, Nat.reduceLeDiff, Nat.reduceBEq])
        (refine Ev.bind (zmul_ev (isZ_of (sz9 mxy (by decide))) ic) ?_; simp -implicitDefEqProofs (disch := omega) only [cellsZ, foldZ, go_sem, ↓reduceIte, reduceCtorEq, Nat.reduceAdd, Nat.reduceSub, Nat.reduceEqDiff, Nat.reduceLeDiff, Nat.reduceBEq]; refine Ev.bind (zmul_ev ib ic) ?_; simp -implicitDefEqProofs (disch := omega) only [cellsZ, foldZ, go_sem, ↓reduceIte, reduceCtorEq, Nat.reduceAdd, Nat.reduceSub, Nat.reduceEqDiff, Nat.reduceLeDiff, Nat.reduceBEq]; refine Ev.bind (zmul_ev ia (isZ_of (sz9 myz (by decide)))) ?_; simp -implicitDefEqProofs (disch := omega) only [cellsZ, foldZ, go_sem, ↓reduceIte, reduceCtorEq, Nat.reduceAdd, Nat.reduceSub, Nat.reduceEqDiff, Nat.reduceLeDiff, Nat.reduceBEq]; refine Ev.bind (sameE (sz_mul mxy sc) (by decide) (Int.mul_assoc x y z)) ?_; simp -implicitDefEqProofs (disch := omega) only [cellsZ, foldZ, go_sem, ↓reduceIte, reduceCtorEq, Nat.reduceAdd, Nat.reduceSub, Nat.reduceEqDiff, Nat.reduceLeDiff, Nat.reduceBEq])
        (refine Ev.bind (zmul_ev (isZ_of (sz9 sxy (by decide))) ic) ?_; simp -implicitDefEqProofs (disch := omega) only [cellsZ, foldZ, go_sem, ↓reduceIte, reduceCtorEq, Nat.reduceAdd, Nat.reduceSub, Nat.reduceEqDiff, Nat.reduceLeDiff, Nat.reduceBEq]; refine Ev.bind (zmul_ev ia ic) ?_; simp -implicitDefEqProofs (disch := omega) only [cellsZ, foldZ, go_sem, ↓reduceIte, reduceCtorEq, Nat.reduceAdd, Nat.reduceSub, Nat.reduceEqDiff, Nat.reduceLeDiff, Nat.reduceBEq]; refine Ev.bind (zmul_ev ib ic) ?_; simp -implicitDefEqProofs (disch := omega) only [cellsZ, foldZ, go_sem, ↓reduceIte, reduceCtorEq, Nat.reduceAdd, Nat.reduceSub, Nat.reduceEqDiff, Nat.reduceLeDiff, Nat.reduceBEq]; refine Ev.bind (zadd_ev (isZ_of (sz9 mxz (by decide))) (isZ_of (sz9 myz (by decide)))) ?_; simp -implicitDefEqProofs (disch := omega) only [cellsZ, foldZ, go_sem, ↓reduceIte, reduceCtorEq, Nat.reduceAdd, Nat.reduceSub, Nat.reduceEqDiff, Nat.reduceLeDiff, Nat.reduceBEq]; refine Ev.bind (sameE (sz_mul sxy sc) (by decide) (Int.add_mul x y z)) ?_; simp -implicitDefEqProofs (disch := omega) only [cellsZ, foldZ, go_sem, ↓reduceIte, reduceCtorEq, Nat.reduceAdd, Nat.reduceSub, Nat.reduceEqDiff, Nat.reduceLeDiff, Nat.reduceBEq])
        (refine Ev.bind (zsub_ev (isZ_of (sz9 sxy (by decide))) ib (sz9 sb (by decide))) ?_; simp -implicitDefEqProofs (disch := omega) only [cellsZ, foldZ, go_sem, ↓reduceIte, reduceCtorEq, Nat.reduceAdd, Nat.reduceSub, Nat.reduceEqDiff, Nat.reduceLeDiff, Nat.reduceBEq]; refine Ev.bind (znorm_ev ia) ?_; simp -implicitDefEqProofs (disch := omega) only [cellsZ, foldZ, go_sem, ↓reduceIte, reduceCtorEq, Nat.reduceAdd, Nat.reduceSub, Nat.reduceEqDiff, Nat.reduceLeDiff, Nat.reduceBEq]; refine Ev.bind (sameE (sz_sub sxy sb) (by decide) (Int.add_sub_cancel x y)) ?_; simp -implicitDefEqProofs (disch := omega) only [cellsZ, foldZ, go_sem, ↓reduceIte, reduceCtorEq, Nat.reduceAdd, Nat.reduceSub, Nat.reduceEqDiff, Nat.reduceLeDiff, Nat.reduceBEq])
        (refine Ev.bind (zof_ev (by decide) (by decide)) ?_; simp -implicitDefEqProofs (disch := omega) only [cellsZ, foldZ, go_sem, ↓reduceIte, reduceCtorEq, Nat.reduceAdd, Nat.reduceSub, Nat.reduceEqDiff, Nat.reduceLeDiff, Nat.reduceBEq]; refine Ev.bind (zmul_ev ia i0) ?_; simp -implicitDefEqProofs (disch := omega) only [cellsZ, foldZ, go_sem, ↓reduceIte, reduceCtorEq, Nat.reduceAdd, Nat.reduceSub, Nat.reduceEqDiff, Nat.reduceLeDiff, Nat.reduceBEq]; refine Ev.bind (znorm_ev ia) ?_; simp -implicitDefEqProofs (disch := omega) only [cellsZ, foldZ, go_sem, ↓reduceIte, reduceCtorEq, Nat.reduceAdd, Nat.reduceSub, Nat.reduceEqDiff, Nat.reduceLeDiff, Nat.reduceBEq]; refine Ev.bind (sameE (sz_mul sa (sz_int (by decide) (by decide))) (by decide) (Int.mul_one x)) ?_; simp -implicitDefEqProofs (disch := omega) only [cellsZ, foldZ, go_sem, ↓reduceIte, reduceCtorEq, Nat.reduceAdd, Nat.reduceSub, Nat.reduceEqDiff, Nat.reduceLeDiff, Nat.reduceBEq])
        (refine Ev.bind (zneg_ev ia) ?_; simp -implicitDefEqProofs (disch := omega) only [cellsZ, foldZ, go_sem, ↓reduceIte, reduceCtorEq, Nat.reduceAdd, Nat.reduceSub, Nat.reduceEqDiff, Nat.reduceLeDiff, Nat.reduceBEq]; refine Ev.bind (zadd_ev ia (isZ_of (sz9 (sz_neg sa) (by decide)))) ?_; simp -implicitDefEqProofs (disch := omega) only [cellsZ, foldZ, go_sem, ↓reduceIte, reduceCtorEq, Nat.reduceAdd, Nat.reduceSub, Nat.reduceEqDiff, Nat.reduceLeDiff, Nat.reduceBEq]; refine Ev.bind (zof_ev (by decide) (by decide)) ?_; simp -implicitDefEqProofs (disch := omega) only [cellsZ, foldZ, go_sem, ↓reduceIte, reduceCtorEq, Nat.reduceAdd, Nat.reduceSub, Nat.reduceEqDiff, Nat.reduceLeDiff, Nat.reduceBEq]; refine Ev.bind (sameE (sz_add sa (sz_neg sa)) (by decide) (Int.add_right_neg x)) ?_; simp -implicitDefEqProofs (disch := omega) only [cellsZ, foldZ, go_sem, ↓reduceIte, reduceCtorEq, Nat.reduceAdd, Nat.reduceSub, Nat.reduceEqDiff, Nat.reduceLeDiff, Nat.reduceBEq]; refine Ev.bind (awake_ev) ?_; simp -implicitDefEqProofs (disch := omega) only [cellsZ, foldZ, go_sem, ↓reduceIte, reduceCtorEq, Nat.reduceAdd, Nat.reduceSub, Nat.reduceEqDiff, Nat.reduceLeDiff, Nat.reduceBEq])
        exact Ev.ret _
      · rw [decide_eq_true (by omega)] at s1 s2
        rw [decide_eq_false (by omega)] at s3
        refine Ev.call rfl tab7 ?_
        simp -implicitDefEqProofs (disch := omega) only [F7, go_sem, ↓reduceIte, reduceCtorEq, Nat.reduceAdd, Nat.reduceSub, Nat.reduceEqDiff, Nat.reduceLeDiff, Nat.reduceBEq]
        (refine Ev.bind (s1) ?_; simp -implicitDefEqProofs (disch := omega) only [cellsZ, foldZ, go_sem, ↓reduceIte, reduceCtorEq, Nat.reduceAdd, Nat.reduceSub, Nat.reduceEqDiff, Nat.reduceLeDiff, Nat.reduceBEq]; refine Ev.bind (s2) ?_; simp -implicitDefEqProofs (disch := omega) only [cellsZ, foldZ, go_sem, ↓reduceIte, reduceCtorEq, Nat.reduceAdd, Nat.reduceSub, Nat.reduceEqDiff, Nat.reduceLeDiff, Nat.reduceBEq]; refine Ev.bind (s3) ?_; simp -implicitDefEqProofs (disch := omega) only [cellsZ, foldZ, go_sem, ↓reduceIte, reduceCtorEq, Nat.reduceAdd, Nat.reduceSub, Nat.reduceEqDiff, Nat.reduceLeDiff, Nat.reduceBEq]; refine Ev.bind (awake_ev) ?_; simp -implicitDefEqProofs (disch := omega) only [cellsZ, foldZ, go_sem, ↓reduceIte, reduceCtorEq, Nat.reduceAdd, Nat.reduceSub, Nat.reduceEqDiff, Nat.reduceLeDiff, Nat.reduceBEq])
        exact Ev.ret _
    · rw [decide_eq_true (by omega)] at s1
      rw [decide_eq_false (by omega)] at s2
      refine Ev.call rfl tab7 ?_
      simp -implicitDefEqProofs (disch := omega) only [F7, go_sem, ↓reduceIte, reduceCtorEq, Nat.reduceAdd, Nat.reduceSub, Nat.reduceEqDiff, Nat.reduceLeDiff, Nat.reduceBEq]
      (refine Ev.bind (s1) ?_; simp -implicitDefEqProofs (disch := omega) only [cellsZ, foldZ, go_sem, ↓reduceIte, reduceCtorEq, Nat.reduceAdd, Nat.reduceSub, Nat.reduceEqDiff, Nat.reduceLeDiff, Nat.reduceBEq]; refine Ev.bind (s2) ?_; simp -implicitDefEqProofs (disch := omega) only [cellsZ, foldZ, go_sem, ↓reduceIte, reduceCtorEq, Nat.reduceAdd, Nat.reduceSub, Nat.reduceEqDiff, Nat.reduceLeDiff, Nat.reduceBEq]; refine Ev.bind (awake_ev) ?_; simp -implicitDefEqProofs (disch := omega) only [cellsZ, foldZ, go_sem, ↓reduceIte, reduceCtorEq, Nat.reduceAdd, Nat.reduceSub, Nat.reduceEqDiff, Nat.reduceLeDiff, Nat.reduceBEq])
      exact Ev.ret _
  · rw [decide_eq_false (by omega)] at s1
    refine Ev.call rfl tab7 ?_
    simp -implicitDefEqProofs (disch := omega) only [F7, go_sem, ↓reduceIte, reduceCtorEq, Nat.reduceAdd, Nat.reduceSub, Nat.reduceEqDiff, Nat.reduceLeDiff, Nat.reduceBEq]
    (refine Ev.bind (s1) ?_; simp -implicitDefEqProofs (disch := omega) only [cellsZ, foldZ, go_sem, ↓reduceIte, reduceCtorEq, Nat.reduceAdd, Nat.reduceSub, Nat.reduceEqDiff, Nat.reduceLeDiff, Nat.reduceBEq]; refine Ev.bind (awake_ev) ?_; simp -implicitDefEqProofs (disch := omega) only [cellsZ, foldZ, go_sem, ↓reduceIte, reduceCtorEq, Nat.reduceAdd, Nat.reduceSub, Nat.reduceEqDiff, Nat.reduceLeDiff, Nat.reduceBEq])
    exact Ev.ret _
end Go.Proofs.Ytkeipmkiilimeaa.V
namespace Go.Proofs.Ytkeipmkiilimeaa.integerRing
open Go.ChangeShapes Go.WideShapes Go.ChangeAt Go.RowKit
set_option linter.unusedVariables false
theorem own : ownKnob Try.prog.godebug = none := by kernel_rfl
theorem laidOut : laidOutB Try.prog = true := by kernel_rfl
set_option maxRecDepth 100000 in
theorem lifted (os : Os) (started : os.Started) (H : Type) (enc : TypeId × Value → H) :
  ReturnsInHanded {} Try.checked os 7 .any (Rows.integerRingSpec.pre6 enc Try.prog Try.f7 Rows.integerRingRow.domain false) (Rows.integerRingSpec.post enc Try.prog Try.f7 false true false false) := by
 refine returnsInHanded_of_change (C := Try.checked) own started (by kernel_rfl) Try.func7
  (ChangeSpec.witness6 (enc := enc) (C := Try.checked) false ⟨#[], #[.agg #[.bool false, .slice none 0 0], .agg #[.bool false, .slice none 0 0], .agg #[.bool false, .slice none 0 0]], []⟩ 8 (by kernel_rfl) (by kernel_rfl) (by kernel_rfl) (by kernel_rfl)) ?_
 intro W base args ds gs before hval0 hW hcnd _
 have hval : ∀ (j : Nat) t v, Try.f7.params[j]? = some t → args[j]? = some v → Value.okWide Try.prog W .any base t v := hval0
 have hW' := hW
 obtain ⟨p, q, hA0, hV, rfl, hfz, hnd⟩ := hW
 have hA : DataW.TrodAll enc Try.prog W 0 (fun _ => true) true Try.f7.params.toList args.toList ds p := hA0
 rw [Try.params7] at hA hval
 have call := V.law_sound V.mixed V.tab_ok V.ext_ok (L := [25, 4, 23, 46]) (f := 7) (by kernel_rfl) (by decide) (ts := [25, 25, 25]) (by kernel_rfl) V.pureIntegerRing (fun j t v h1 h2 => hval j t v (by simpa using h1) h2) hA
 obtain ⟨v0, vs0, d0, ds0, p0, q0, hargs, rfl, rfl, h0, r0⟩ := trodAll_cons hA
 obtain ⟨v1, vs1, d1, ds1, p1, q1, rfl, rfl, rfl, h1, r1⟩ := trodAll_cons r0
 obtain ⟨v2, vs2, d2, ds2, p2, q2, rfl, rfl, rfl, h2, r2⟩ := trodAll_cons r1
 obtain ⟨rfl, rfl, rfl⟩ := trodAll_nil r2
 have lt0 : ∀ x ∈ p0, x.block < W.heap.size := by
  obtain ⟨m, hm⟩ := h0
  exact DataW.trod_lt m _ _ _ hm
 have lt1 : ∀ x ∈ p1, x.block < W.heap.size := by
  obtain ⟨m, hm⟩ := h1
  exact DataW.trod_lt m _ _ _ hm
 have lt2 : ∀ x ∈ p2, x.block < W.heap.size := by
  obtain ⟨m, hm⟩ := h2
  exact DataW.trod_lt m _ _ _ hm
 obtain ⟨rfl, rfl⟩ := trodVars_none hV
 refine call.mono fun e W' ⟨he, bel⟩ => ?_
 subst he
 exact ⟨_, rfl, _, _, _, [], _, [], hW', trodAll_mk1 (shut_bool Try.underlying4 _), by rw [hargs]; exact (trodAll_cons_mk (Below.trod laidOut (by kernel_rfl) (of_decide_eq_true (by kernel_rfl)) h0 bel lt0) (trodAll_cons_mk (Below.trod laidOut (by kernel_rfl) (of_decide_eq_true (by kernel_rfl)) h1 bel lt1) (trodAll_cons_mk (Below.trod laidOut (by kernel_rfl) (of_decide_eq_true (by kernel_rfl)) h2 bel lt2) trodAll_mk0))), rfl, bel.frame _, fun h => by cases h⟩
theorem over : Rows.integerRingRow.holds Try.pinned (OpenSpec.ofChange Rows.integerRingSpec) :=
 OpenClaim.holds_of_wide 7 Try.f7 rfl rfl rfl rfl rfl rfl rfl ⟨rfl, rfl, rfl, rfl, rfl⟩ rfl rfl rfl rfl rfl (by kernel_rfl) Try.func7 (by kernel_rfl)
  (of_decide_eq_true (by kernel_rfl)) (by unfold Func.isWrapper; first | (rw [if_pos (by decide +kernel)]; kernel_rfl) | (rw [if_neg (by decide +kernel)]; exact ⟨rfl, rfl⟩))
  (fun os started H enc _ => lifted os started H enc)
theorem proved : Rows.IntegerRingSaid := over
#print axioms proved
end Go.Proofs.Ytkeipmkiilimeaa.integerRing
namespace Go.Proofs.Ytkeipmkiilimeaa
/-- The row, under a short name, for the claim. -/
theorem integerRing_holds : Rows.IntegerRingSaid := integerRing.proved
end Go.Proofs.Ytkeipmkiilimeaa
