/- IntegerInts: Of and Small of the program are those of the reference, and Small gives back what Of was given; integers of at most 40 limbs (else the chapter's examples).
The statement IntegerIntsSaid, out of its Pure. -/
import Derived.Test.YtkeipmkiilimeaaKH
import Derived.Test.YtkeipmkiilimeaaRows
import Derived.WalkKit
import Derived.ProofKit
import Derived.OpenShut
import Derived.ChangeOld
import Derived.Below

set_option linter.unusedSimpArgs false
set_option linter.unusedVariables false
namespace Go.Proofs.Ytkeipmkiilimeaa.V
open Go Go.Proofs.Ytkeipmkiilimeaa.M
theorem intt : intT Try.prog .i64 3 = true := by kernel_rfl
theorem argI (z : Int) : argPV Try.prog 3 [.int .i64 z] = .int .i64 z := by
  have := intt
  unfold intT at this
  unfold argPV
  split at this
  · rename_i h; rw [h]; rfl
  · cases this
theorem pureIntegerInts : PureOf [3, 25] 5 := by
  intro pss g
  cases g with
  | cons g1 g => cases g with
    | cons g2 g => cases g
                   obtain ⟨m1, g1⟩ := g1
                   obtain ⟨m2, g2⟩ := g2
                   obtain ⟨z, rfl, hz⟩ := intT_inv intt g1
                   obtain ⟨b, l, rfl, hl, _⟩ := intZT_inv zt g2
                   show ∃ k, (lvl tab ext k).call 5 [.pv (argPV Try.prog _ _), .pv (argPV Try.prog _ _)] = _
                   rw [argZ, argI]
                   apply ret1
                   obtain ⟨z1, z2⟩ := i64_wf hz
                   have s1 := short_ev (b := b) (l := l) (n := 40)
                   by_cases h1 : l.length ≤ 40
                   · rw [decide_eq_true (by omega)] at s1
                     obtain ⟨ia, sa⟩ := isz_mk (b := b) hl h1 (by decide)
                     have so : Sz 2 z := sz_int (by omega) (by omega)
                     have hs := zsmall_ev (isZ_of (sz9 so (by decide)))
                     rw [if_pos (show Fits z from ⟨z1, z2⟩), decide_eq_true (show Fits z from ⟨z1, z2⟩)] at hs
                     generalize iv b l = x at *
                     have k1 := zsmall_ev ia
                     have k2 := ysmall_ev ia
                     generalize (if Fits x then x else 0) = w at *
                     generalize decide (Fits x) = o at *
                     refine Ev.call rfl tab5 ?_
                     simp -implicitDefEqProofs (disch := omega) only [F5, go_sem, ↓reduceIte, reduceCtorEq, Nat.reduceAdd, Nat.reduceSub, Nat.reduceEqDiff, Nat.reduceLeDiff, Nat.reduceBEq]
                     (refine Ev.bind (s1) ?_; simp -implicitDefEqProofs (disch := omega) only [cellsZ, foldZ, go_sem, ↓reduceIte, reduceCtorEq, Nat.reduceAdd, Nat.reduceSub, Nat.reduceEqDiff, Nat.reduceLeDiff, Nat.reduceBEq]; refine Ev.bind (k1) ?_; simp -implicitDefEqProofs (disch := omega) only [cellsZ, foldZ, go_sem, ↓reduceIte, reduceCtorEq, Nat.reduceAdd, Nat.reduceSub, Nat.reduceEqDiff, Nat.reduceLeDiff, Nat.reduceBEq]; refine Ev.bind (k2) ?_; simp -implicitDefEqProofs (disch := omega) only [cellsZ, foldZ, go_sem, ↓reduceIte, reduceCtorEq, Nat.reduceAdd, Nat.reduceSub, Nat.reduceEqDiff, Nat.reduceLeDiff, Nat.reduceBEq]; refine Ev.bind (zof_ev z1 z2) ?_; simp -implicitDefEqProofs (disch := omega) only [cellsZ, foldZ, go_sem, ↓reduceIte, reduceCtorEq, Nat.reduceAdd, Nat.reduceSub, Nat.reduceEqDiff, Nat.reduceLeDiff, Nat.reduceBEq]; refine Ev.bind (hs) ?_; simp -implicitDefEqProofs (disch := omega) only [cellsZ, foldZ, go_sem, ↓reduceIte, reduceCtorEq, Nat.reduceAdd, Nat.reduceSub, Nat.reduceEqDiff, Nat.reduceLeDiff, Nat.reduceBEq]; refine Ev.bind (zof_ev z1 z2) ?_; simp -implicitDefEqProofs (disch := omega) only [cellsZ, foldZ, go_sem, ↓reduceIte, reduceCtorEq, Nat.reduceAdd, Nat.reduceSub, Nat.reduceEqDiff, Nat.reduceLeDiff, Nat.reduceBEq]; refine Ev.bind (yof_ev z1 z2) ?_; simp -implicitDefEqProofs (disch := omega) only [cellsZ, foldZ, go_sem, ↓reduceIte, reduceCtorEq, Nat.reduceAdd, Nat.reduceSub, Nat.reduceEqDiff, Nat.reduceLeDiff, Nat.reduceBEq]; refine Ev.bind (sameT so (by decide)) ?_; simp -implicitDefEqProofs (disch := omega) only [cellsZ, foldZ, go_sem, ↓reduceIte, reduceCtorEq, Nat.reduceAdd, Nat.reduceSub, Nat.reduceEqDiff, Nat.reduceLeDiff, Nat.reduceBEq]; refine Ev.bind (awake_ev) ?_; simp -implicitDefEqProofs (disch := omega) only [cellsZ, foldZ, go_sem, ↓reduceIte, reduceCtorEq, Nat.reduceAdd, Nat.reduceSub, Nat.reduceEqDiff, Nat.reduceLeDiff, Nat.reduceBEq])
                     exact Ev.ret _
                   · rw [decide_eq_false (by omega)] at s1
                     refine Ev.call rfl tab5 ?_
                     simp -implicitDefEqProofs (disch := omega) only [F5, go_sem, ↓reduceIte, reduceCtorEq, Nat.reduceAdd, Nat.reduceSub, Nat.reduceEqDiff, Nat.reduceLeDiff, Nat.reduceBEq]
                     (refine Ev.bind (s1) ?_; simp -implicitDefEqProofs (disch := omega) only [cellsZ, foldZ, go_sem, ↓reduceIte, reduceCtorEq, Nat.reduceAdd, Nat.reduceSub, Nat.reduceEqDiff, Nat.reduceLeDiff, Nat.reduceBEq]; refine Ev.bind (awake_ev) ?_; simp -implicitDefEqProofs (disch := omega) only [cellsZ, foldZ, go_sem, ↓reduceIte, reduceCtorEq, Nat.reduceAdd, Nat.reduceSub, Nat.reduceEqDiff, Nat.reduceLeDiff, Nat.reduceBEq])
                     exact Ev.ret _
end Go.Proofs.Ytkeipmkiilimeaa.V
namespace Go.Proofs.Ytkeipmkiilimeaa.integerInts
open Go.ChangeShapes Go.WideShapes Go.ChangeAt Go.RowKit
set_option linter.unusedVariables false
theorem own : ownKnob Try.prog.godebug = none := by kernel_rfl
theorem laidOut : laidOutB Try.prog = true := by kernel_rfl
set_option maxRecDepth 100000 in
theorem lifted (os : Os) (started : os.Started) (H : Type) (enc : TypeId × Value → H) :
  ReturnsInHanded {} Try.checked os 5 .any (Rows.integerIntsSpec.pre6 enc Try.prog Try.f5 Rows.integerIntsRow.domain false) (Rows.integerIntsSpec.post enc Try.prog Try.f5 false true false false) := by
 refine returnsInHanded_of_change (C := Try.checked) own started (by kernel_rfl) Try.func5
  (ChangeSpec.witness6 (enc := enc) (C := Try.checked) false ⟨#[], #[.int .i64 0, .agg #[.bool false, .slice none 0 0]], []⟩ 8 (by kernel_rfl) (by kernel_rfl) (by kernel_rfl) (by kernel_rfl)) ?_
 intro W base args ds gs before hval0 hW hcnd _
 have hval : ∀ (j : Nat) t v, Try.f5.params[j]? = some t → args[j]? = some v → Value.okWide Try.prog W .any base t v := hval0
 have hW' := hW
 obtain ⟨p, q, hA0, hV, rfl, hfz, hnd⟩ := hW
 have hA : DataW.TrodAll enc Try.prog W 0 (fun _ => true) true Try.f5.params.toList args.toList ds p := hA0
 rw [Try.params5] at hA hval
 have call := V.law_sound V.mixed V.tab_ok V.ext_ok (L := [3, 25, 4, 23, 46]) (f := 5) (by kernel_rfl) (by decide) (ts := [3, 25]) (by kernel_rfl) V.pureIntegerInts (fun j t v h1 h2 => hval j t v (by simpa using h1) h2) hA
 obtain ⟨v0, vs0, d0, ds0, p0, q0, hargs, rfl, rfl, h0, r0⟩ := trodAll_cons hA
 obtain ⟨v1, vs1, d1, ds1, p1, q1, rfl, rfl, rfl, h1, r1⟩ := trodAll_cons r0
 obtain ⟨rfl, rfl, rfl⟩ := trodAll_nil r1
 have lt0 : ∀ x ∈ p0, x.block < W.heap.size := by
  obtain ⟨m, hm⟩ := h0
  exact DataW.trod_lt m _ _ _ hm
 have lt1 : ∀ x ∈ p1, x.block < W.heap.size := by
  obtain ⟨m, hm⟩ := h1
  exact DataW.trod_lt m _ _ _ hm
 obtain ⟨rfl, rfl⟩ := trodVars_none hV
 refine call.mono fun e W' ⟨he, bel⟩ => ?_
 subst he
 exact ⟨_, rfl, _, _, _, [], _, [], hW', trodAll_mk1 (shut_bool Try.underlying4 _), by rw [hargs]; exact (trodAll_cons_mk (Below.trod laidOut (by kernel_rfl) (of_decide_eq_true (by kernel_rfl)) h0 bel lt0) (trodAll_cons_mk (Below.trod laidOut (by kernel_rfl) (of_decide_eq_true (by kernel_rfl)) h1 bel lt1) trodAll_mk0)), rfl, bel.frame _, fun h => by cases h⟩
theorem over : Rows.integerIntsRow.holds Try.pinned (OpenSpec.ofChange Rows.integerIntsSpec) :=
 OpenClaim.holds_of_wide 5 Try.f5 rfl rfl rfl rfl rfl rfl rfl ⟨rfl, rfl, rfl, rfl, rfl⟩ rfl rfl rfl rfl rfl (by kernel_rfl) Try.func5 (by kernel_rfl)
  (of_decide_eq_true (by kernel_rfl)) (by unfold Func.isWrapper; first | (rw [if_pos (by decide +kernel)]; kernel_rfl) | (rw [if_neg (by decide +kernel)]; exact ⟨rfl, rfl⟩))
  (fun os started H enc _ => lifted os started H enc)
theorem proved : Rows.IntegerIntsSaid := over
#print axioms proved
end Go.Proofs.Ytkeipmkiilimeaa.integerInts
namespace Go.Proofs.Ytkeipmkiilimeaa
/-- The row, under a short name, for the claim. -/
theorem integerInts_holds : Rows.IntegerIntsSaid := integerInts.proved
end Go.Proofs.Ytkeipmkiilimeaa
