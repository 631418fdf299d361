/- IntegerOrders: the order of integers of at most 30 limbs is total, agrees with differences, and is preserved by addition (else the chapter's examples).
The statement IntegerOrdersSaid, out of its Pure. -/
import Derived.Test.YtkeipmkiilimeaaKH
import Derived.Test.YtkeipmkiilimeaaRows
import Derived.WalkKit
import Derived.ProofKit
import Derived.OpenShut
import Derived.ChangeOld
import Derived.Below

set_option linter.unusedSimpArgs false
set_option linter.unusedVariables false
namespace Go.Proofs.Ytkeipmkiilimeaa.V
open Go Go.Proofs.Ytkeipmkiilimeaa.M
theorem pureIntegerOrders : PureOf [25, 25, 25] 9 := by
  refine pureZZZ fun b l c m d n hl hm hn => ?_
  have s1 := short_ev (b := b) (l := l) (n := 30)
  have s2 := short_ev (b := c) (l := m) (n := 30)
  have s3 := short_ev (b := d) (l := n) (n := 30)
  by_cases h1 : l.length ≤ 30
  · by_cases h2 : m.length ≤ 30
    · by_cases h3 : n.length ≤ 30
      · rw [decide_eq_true (by omega)] at s1 s2 s3
        obtain ⟨ia, sa⟩ := isz_mk (b := b) hl h1 (by decide)
        obtain ⟨ib, sb⟩ := isz_mk (b := c) hm h2 (by decide)
        obtain ⟨ic, sc⟩ := isz_mk (b := d) hn h3 (by decide)
        generalize iv b l = x at *
        generalize iv c m = y at *
        generalize iv d n = z at *
        have s0 : Sz 1 0 := by unfold Sz; rw [show (0 : Int).natAbs = 0 from rfl, ofN_zero]; decide
        have i0 : IsZ (ofZ 0) 0 := isZ_of (sz9 s0 (by decide))
        have oz := zof_ev (n := 0) (by decide) (by decide)
        have rg := icmp_range x y
        have c1 := zcmp_ev ia ib
        have c2 := zcmp_ev ib ia
        have c3 := zcmp_ev ia ia
        have c4 := zcmp_ev (isZ_of (sz9 (sz_sub sa sb) (by decide))) i0
        have c5 := zcmp_ev (isZ_of (sz9 (sz_add sa sc) (by decide))) (isZ_of (sz9 (sz_add sb sc) (by decide)))
        have c6 := zcmp_ev ib ic
        have c7 := zcmp_ev ia ic
        have sm := ysame_ev (sz9 sa (by decide)) (sz9 sb (by decide))
        have hxy : icmp x y = 0 ↔ x = y := icmp_zero
        have htr : icmp x y ≤ 0 → icmp y z ≤ 0 → icmp x z ≤ 0 := by
          intro g1 g2
          have := icmp_le.1 g1
          have := icmp_le.1 g2
          exact icmp_le.2 (by omega)
        rw [icmp_swap x y] at c2
        rw [icmp_eq] at c3
        rw [show icmp (x - y) 0 = icmp x y from by unfold icmp; (repeat' split) <;> omega] at c4
        rw [show icmp (x + z) (y + z) = icmp x y from by unfold icmp; (repeat' split) <;> omega] at c5
        generalize icmp x y = w at *
        generalize icmp y z = u at *
        generalize icmp x z = v at *
        have en : 0 - w = -w := by omega
        have key : Ev (fun k => (lvl tab ext k).call 9 [.pv (ZA b l), .pv (ZA c m), .pv (ZA d n)]) [(.pv (.bool (true)))] := by
          by_cases hw : w = 0
          · have hx := hxy.1 hw
            rw [decide_eq_true hx] at sm
            by_cases hu : 0 < u
            · refine Ev.call rfl tab9 ?_
              simp -implicitDefEqProofs (disch := omega) only [F9, go_sem, ↓reduceIte, reduceCtorEq, Nat.reduceAdd, Nat.reduceSub, Nat.reduceEqDiff, Nat.reduceLeDiff, Nat.reduceBEq]
              (refine Ev.bind (s1) ?_; simp -implicitDefEqProofs (disch := omega) only [cellsZ, foldZ, go_sem, ↓reduceIte, reduceCtorEq, Nat.reduceAdd, Nat.reduceSub, Nat.reduceEqDiff, Nat.reduceLeDiff, Nat.reduceBEq]; refine Ev.bind (s2) ?_; simp -implicitDefEqProofs (disch := omega) only [cellsZ, foldZ, go_sem, ↓reduceIte, reduceCtorEq, Nat.reduceAdd, Nat.reduceSub, Nat.reduceEqDiff, Nat.reduceLeDiff, Nat.reduceBEq]; refine Ev.bind (s3) ?_; simp -implicitDefEqProofs (disch := omega) only [cellsZ, foldZ, go_sem, ↓reduceIte, reduceCtorEq, Nat.reduceAdd, Nat.reduceSub, Nat.reduceEqDiff, Nat.reduceLeDiff, Nat.reduceBEq]; refine Ev.bind (c1) ?_; simp -implicitDefEqProofs (disch := omega) only [cellsZ, foldZ, go_sem, ↓reduceIte, reduceCtorEq, Nat.reduceAdd, Nat.reduceSub, Nat.reduceEqDiff, Nat.reduceLeDiff, Nat.reduceBEq]; refine Ev.bind (c2) ?_; simp -implicitDefEqProofs (disch := omega) only [cellsZ, foldZ, go_sem, ↓reduceIte, reduceCtorEq, Nat.reduceAdd, Nat.reduceSub, Nat.reduceEqDiff, Nat.reduceLeDiff, Nat.reduceBEq]; refine Ev.bind (c3) ?_; simp -implicitDefEqProofs (disch := omega) only [cellsZ, foldZ, go_sem, ↓reduceIte, reduceCtorEq, Nat.reduceAdd, Nat.reduceSub, Nat.reduceEqDiff, Nat.reduceLeDiff, Nat.reduceBEq]; refine Ev.bind (zsub_ev ia ib (sz9 sb (by decide))) ?_; simp -implicitDefEqProofs (disch := omega) only [cellsZ, foldZ, go_sem, ↓reduceIte, reduceCtorEq, Nat.reduceAdd, Nat.reduceSub, Nat.reduceEqDiff, Nat.reduceLeDiff, Nat.reduceBEq]; refine Ev.bind (oz) ?_; simp -implicitDefEqProofs (disch := omega) only [cellsZ, foldZ, go_sem, ↓reduceIte, reduceCtorEq, Nat.reduceAdd, Nat.reduceSub, Nat.reduceEqDiff, Nat.reduceLeDiff, Nat.reduceBEq]; refine Ev.bind (c4) ?_; simp -implicitDefEqProofs (disch := omega) only [cellsZ, foldZ, go_sem, ↓reduceIte, reduceCtorEq, Nat.reduceAdd, Nat.reduceSub, Nat.reduceEqDiff, Nat.reduceLeDiff, Nat.reduceBEq]; refine Ev.bind (zadd_ev ia ic) ?_; simp -implicitDefEqProofs (disch := omega) only [cellsZ, foldZ, go_sem, ↓reduceIte, reduceCtorEq, Nat.reduceAdd, Nat.reduceSub, Nat.reduceEqDiff, Nat.reduceLeDiff, Nat.reduceBEq]; refine Ev.bind (zadd_ev ib ic) ?_; simp -implicitDefEqProofs (disch := omega) only [cellsZ, foldZ, go_sem, ↓reduceIte, reduceCtorEq, Nat.reduceAdd, Nat.reduceSub, Nat.reduceEqDiff, Nat.reduceLeDiff, Nat.reduceBEq]; refine Ev.bind (c5) ?_; simp -implicitDefEqProofs (disch := omega) only [cellsZ, foldZ, go_sem, ↓reduceIte, reduceCtorEq, Nat.reduceAdd, Nat.reduceSub, Nat.reduceEqDiff, Nat.reduceLeDiff, Nat.reduceBEq]; refine Ev.bind (c6) ?_; simp -implicitDefEqProofs (disch := omega) only [cellsZ, foldZ, go_sem, ↓reduceIte, reduceCtorEq, Nat.reduceAdd, Nat.reduceSub, Nat.reduceEqDiff, Nat.reduceLeDiff, Nat.reduceBEq]; refine Ev.bind (znorm_ev ia) ?_; simp -implicitDefEqProofs (disch := omega) only [cellsZ, foldZ, go_sem, ↓reduceIte, reduceCtorEq, Nat.reduceAdd, Nat.reduceSub, Nat.reduceEqDiff, Nat.reduceLeDiff, Nat.reduceBEq]; refine Ev.bind (znorm_ev ib) ?_; simp -implicitDefEqProofs (disch := omega) only [cellsZ, foldZ, go_sem, ↓reduceIte, reduceCtorEq, Nat.reduceAdd, Nat.reduceSub, Nat.reduceEqDiff, Nat.reduceLeDiff, Nat.reduceBEq]; refine Ev.bind (sm) ?_; simp -implicitDefEqProofs (disch := omega) only [cellsZ, foldZ, go_sem, ↓reduceIte, reduceCtorEq, Nat.reduceAdd, Nat.reduceSub, Nat.reduceEqDiff, Nat.reduceLeDiff, Nat.reduceBEq]; refine Ev.bind (awake_ev) ?_; simp -implicitDefEqProofs (disch := omega) only [cellsZ, foldZ, go_sem, ↓reduceIte, reduceCtorEq, Nat.reduceAdd, Nat.reduceSub, Nat.reduceEqDiff, Nat.reduceLeDiff, Nat.reduceBEq])
              exact Ev.ret _
            · have hv := htr (by omega) (by omega)
              refine Ev.call rfl tab9 ?_
              simp -implicitDefEqProofs (disch := omega) only [F9, go_sem, ↓reduceIte, reduceCtorEq, Nat.reduceAdd, Nat.reduceSub, Nat.reduceEqDiff, Nat.reduceLeDiff, Nat.reduceBEq]
              (refine Ev.bind (s1) ?_; simp -implicitDefEqProofs (disch := omega) only [cellsZ, foldZ, go_sem, ↓reduceIte, reduceCtorEq, Nat.reduceAdd, Nat.reduceSub, Nat.reduceEqDiff, Nat.reduceLeDiff, Nat.reduceBEq]; refine Ev.bind (s2) ?_; simp -implicitDefEqProofs (disch := omega) only [cellsZ, foldZ, go_sem, ↓reduceIte, reduceCtorEq, Nat.reduceAdd, Nat.reduceSub, Nat.reduceEqDiff, Nat.reduceLeDiff, Nat.reduceBEq]; refine Ev.bind (s3) ?_; simp -implicitDefEqProofs (disch := omega) only [cellsZ, foldZ, go_sem, ↓reduceIte, reduceCtorEq, Nat.reduceAdd, Nat.reduceSub, Nat.reduceEqDiff, Nat.reduceLeDiff, Nat.reduceBEq]; refine Ev.bind (c1) ?_; simp -implicitDefEqProofs (disch := omega) only [cellsZ, foldZ, go_sem, ↓reduceIte, reduceCtorEq, Nat.reduceAdd, Nat.reduceSub, Nat.reduceEqDiff, Nat.reduceLeDiff, Nat.reduceBEq]; refine Ev.bind (c2) ?_; simp -implicitDefEqProofs (disch := omega) only [cellsZ, foldZ, go_sem, ↓reduceIte, reduceCtorEq, Nat.reduceAdd, Nat.reduceSub, Nat.reduceEqDiff, Nat.reduceLeDiff, Nat.reduceBEq]; refine Ev.bind (c3) ?_; simp -implicitDefEqProofs (disch := omega) only [cellsZ, foldZ, go_sem, ↓reduceIte, reduceCtorEq, Nat.reduceAdd, Nat.reduceSub, Nat.reduceEqDiff, Nat.reduceLeDiff, Nat.reduceBEq]; refine Ev.bind (zsub_ev ia ib (sz9 sb (by decide))) ?_; simp -implicitDefEqProofs (disch := omega) only [cellsZ, foldZ, go_sem, ↓reduceIte, reduceCtorEq, Nat.reduceAdd, Nat.reduceSub, Nat.reduceEqDiff, Nat.reduceLeDiff, Nat.reduceBEq]; refine Ev.bind (oz) ?_; simp -implicitDefEqProofs (disch := omega) only [cellsZ, foldZ, go_sem, ↓reduceIte, reduceCtorEq, Nat.reduceAdd, Nat.reduceSub, Nat.reduceEqDiff, Nat.reduceLeDiff, Nat.reduceBEq]; refine Ev.bind (c4) ?_; simp -implicitDefEqProofs (disch := omega) only [cellsZ, foldZ, go_sem, ↓reduceIte, reduceCtorEq, Nat.reduceAdd, Nat.reduceSub, Nat.reduceEqDiff, Nat.reduceLeDiff, Nat.reduceBEq]; refine Ev.bind (zadd_ev ia ic) ?_; simp -implicitDefEqProofs (disch := omega) only [cellsZ, foldZ, go_sem, ↓reduceIte, reduceCtorEq, Nat.reduceAdd, Nat.reduceSub, Nat.reduceEqDiff, Nat.reduceLeDiff, Nat.reduceBEq]; refine Ev.bind (zadd_ev ib ic) ?_; simp -implicitDefEqProofs (disch := omega) only [cellsZ, foldZ, go_sem, ↓reduceIte, reduceCtorEq, Nat.reduceAdd, Nat.reduceSub, Nat.reduceEqDiff, Nat.reduceLeDiff, Nat.reduceBEq]; refine Ev.bind (c5) ?_; simp -implicitDefEqProofs (disch := omega) only [cellsZ, foldZ, go_sem, ↓reduceIte, reduceCtorEq, Nat.reduceAdd, Nat.reduceSub, Nat.reduceEqDiff, Nat.reduceLeDiff, Nat.reduceBEq]; refine Ev.bind (c6) ?_; simp -implicitDefEqProofs (disch := omega) only [cellsZ, foldZ, go_sem, ↓reduceIte, reduceCtorEq, Nat.reduceAdd, Nat.reduceSub, Nat.reduceEqDiff, Nat.reduceLeDiff, Nat.reduceBEq]; refine Ev.bind (c7) ?_; simp -implicitDefEqProofs (disch := omega) only [cellsZ, foldZ, go_sem, ↓reduceIte, reduceCtorEq, Nat.reduceAdd, Nat.reduceSub, Nat.reduceEqDiff, Nat.reduceLeDiff, Nat.reduceBEq]; refine Ev.bind (znorm_ev ia) ?_; simp -implicitDefEqProofs (disch := omega) only [cellsZ, foldZ, go_sem, ↓reduceIte, reduceCtorEq, Nat.reduceAdd, Nat.reduceSub, Nat.reduceEqDiff, Nat.reduceLeDiff, Nat.reduceBEq]; refine Ev.bind (znorm_ev ib) ?_; simp -implicitDefEqProofs (disch := omega) only [cellsZ, foldZ, go_sem, ↓reduceIte, reduceCtorEq, Nat.reduceAdd, Nat.reduceSub, Nat.reduceEqDiff, Nat.reduceLeDiff, Nat.reduceBEq]; refine Ev.bind (sm) ?_; simp -implicitDefEqProofs (disch := omega) only [cellsZ, foldZ, go_sem, ↓reduceIte, reduceCtorEq, Nat.reduceAdd, Nat.reduceSub, Nat.reduceEqDiff, Nat.reduceLeDiff, Nat.reduceBEq]; refine Ev.bind (awake_ev) ?_; simp -implicitDefEqProofs (disch := omega) only [cellsZ, foldZ, go_sem, ↓reduceIte, reduceCtorEq, Nat.reduceAdd, Nat.reduceSub, Nat.reduceEqDiff, Nat.reduceLeDiff, Nat.reduceBEq])
              exact Ev.ret _
          · have hx : ¬ x = y := fun h => hw (hxy.2 h)
            rw [decide_eq_false hx] at sm
            by_cases hw2 : 0 < w
            · refine Ev.call rfl tab9 ?_
              simp -implicitDefEqProofs (disch := omega) only [F9, go_sem, ↓reduceIte, reduceCtorEq, Nat.reduceAdd, Nat.reduceSub, Nat.reduceEqDiff, Nat.reduceLeDiff, Nat.reduceBEq]
              (refine Ev.bind (s1) ?_; simp -implicitDefEqProofs (disch := omega) only [cellsZ, foldZ, go_sem, ↓reduceIte, reduceCtorEq, Nat.reduceAdd, Nat.reduceSub, Nat.reduceEqDiff, Nat.reduceLeDiff, Nat.reduceBEq]; refine Ev.bind (s2) ?_; simp -implicitDefEqProofs (disch := omega) only [cellsZ, foldZ, go_sem, ↓reduceIte, reduceCtorEq, Nat.reduceAdd, Nat.reduceSub, Nat.reduceEqDiff, Nat.reduceLeDiff, Nat.reduceBEq]; refine Ev.bind (s3) ?_; simp -implicitDefEqProofs (disch := omega) only [cellsZ, foldZ, go_sem, ↓reduceIte, reduceCtorEq, Nat.reduceAdd, Nat.reduceSub, Nat.reduceEqDiff, Nat.reduceLeDiff, Nat.reduceBEq]; refine Ev.bind (c1) ?_; simp -implicitDefEqProofs (disch := omega) only [cellsZ, foldZ, go_sem, ↓reduceIte, reduceCtorEq, Nat.reduceAdd, Nat.reduceSub, Nat.reduceEqDiff, Nat.reduceLeDiff, Nat.reduceBEq]; refine Ev.bind (c2) ?_; simp -implicitDefEqProofs (disch := omega) only [cellsZ, foldZ, go_sem, ↓reduceIte, reduceCtorEq, Nat.reduceAdd, Nat.reduceSub, Nat.reduceEqDiff, Nat.reduceLeDiff, Nat.reduceBEq]; refine Ev.bind (c3) ?_; simp -implicitDefEqProofs (disch := omega) only [cellsZ, foldZ, go_sem, ↓reduceIte, reduceCtorEq, Nat.reduceAdd, Nat.reduceSub, Nat.reduceEqDiff, Nat.reduceLeDiff, Nat.reduceBEq]; refine Ev.bind (zsub_ev ia ib (sz9 sb (by decide))) ?_; simp -implicitDefEqProofs (disch := omega) only [cellsZ, foldZ, go_sem, ↓reduceIte, reduceCtorEq, Nat.reduceAdd, Nat.reduceSub, Nat.reduceEqDiff, Nat.reduceLeDiff, Nat.reduceBEq]; refine Ev.bind (oz) ?_; simp -implicitDefEqProofs (disch := omega) only [cellsZ, foldZ, go_sem, ↓reduceIte, reduceCtorEq, Nat.reduceAdd, Nat.reduceSub, Nat.reduceEqDiff, Nat.reduceLeDiff, Nat.reduceBEq]; refine Ev.bind (c4) ?_; simp -implicitDefEqProofs (disch := omega) only [cellsZ, foldZ, go_sem, ↓reduceIte, reduceCtorEq, Nat.reduceAdd, Nat.reduceSub, Nat.reduceEqDiff, Nat.reduceLeDiff, Nat.reduceBEq]; refine Ev.bind (zadd_ev ia ic) ?_; simp -implicitDefEqProofs (disch := omega) only [cellsZ, foldZ, go_sem, ↓reduceIte, reduceCtorEq, Nat.reduceAdd, Nat.reduceSub, Nat.reduceEqDiff, Nat.reduceLeDiff, Nat.reduceBEq]; refine Ev.bind (zadd_ev ib ic) ?_; simp -implicitDefEqProofs (disch := omega) only [cellsZ, foldZ, go_sem, ↓reduceIte, reduceCtorEq, Nat.reduceAdd, Nat.reduceSub, Nat.reduceEqDiff, Nat.reduceLeDiff, Nat.reduceBEq]; refine Ev.bind (c5) ?_; simp -implicitDefEqProofs (disch := omega) only [cellsZ, foldZ, go_sem, ↓reduceIte, reduceCtorEq, Nat.reduceAdd, Nat.reduceSub, Nat.reduceEqDiff, Nat.reduceLeDiff, Nat.reduceBEq]; refine Ev.bind (znorm_ev ia) ?_; simp -implicitDefEqProofs (disch := omega) only [cellsZ, foldZ, go_sem, ↓reduceIte, reduceCtorEq, Nat.reduceAdd, Nat.reduceSub, Nat.reduceEqDiff, Nat.reduceLeDiff, Nat.reduceBEq]; refine Ev.bind (znorm_ev ib) ?_; simp -implicitDefEqProofs (disch := omega) only [cellsZ, foldZ, go_sem, ↓reduceIte, reduceCtorEq, Nat.reduceAdd, Nat.reduceSub, Nat.reduceEqDiff, Nat.reduceLeDiff, Nat.reduceBEq]; refine Ev.bind (sm) ?_; simp -implicitDefEqProofs (disch := omega) only [cellsZ, foldZ, go_sem, ↓reduceIte, reduceCtorEq, Nat.reduceAdd, Nat.reduceSub, Nat.reduceEqDiff, Nat.reduceLeDiff, Nat.reduceBEq]; refine Ev.bind (awake_ev) ?_; simp -implicitDefEqProofs (disch := omega) only [cellsZ, foldZ, go_sem, ↓reduceIte, reduceCtorEq, Nat.reduceAdd, Nat.reduceSub, Nat.reduceEqDiff, Nat.reduceLeDiff, Nat.reduceBEq])
              exact Ev.ret _
            · by_cases hu : 0 < u
              · refine Ev.call rfl tab9 ?_
                simp -implicitDefEqProofs (disch := omega) only [F9, go_sem, ↓reduceIte, reduceCtorEq, Nat.reduceAdd, Nat.reduceSub, Nat.reduceEqDiff, Nat.reduceLeDiff, Nat.reduceBEq]
                (refine Ev.bind (s1) ?_; simp -implicitDefEqProofs (disch := omega) only [cellsZ, foldZ, go_sem, ↓reduceIte, reduceCtorEq, Nat.reduceAdd, Nat.reduceSub, Nat.reduceEqDiff, Nat.reduceLeDiff, Nat.reduceBEq]; refine Ev.bind (s2) ?_; simp -implicitDefEqProofs (disch := omega) only [cellsZ, foldZ, go_sem, ↓reduceIte, reduceCtorEq, Nat.reduceAdd, Nat.reduceSub, Nat.reduceEqDiff, Nat.reduceLeDiff, Nat.reduceBEq]; refine Ev.bind (s3) ?_; simp -implicitDefEqProofs (disch := omega) only [cellsZ, foldZ, go_sem, ↓reduceIte, reduceCtorEq, Nat.reduceAdd, Nat.reduceSub, Nat.reduceEqDiff, Nat.reduceLeDiff, Nat.reduceBEq]; refine Ev.bind (c1) ?_; simp -implicitDefEqProofs (disch := omega) only [cellsZ, foldZ, go_sem, ↓reduceIte, reduceCtorEq, Nat.reduceAdd, Nat.reduceSub, Nat.reduceEqDiff, Nat.reduceLeDiff, Nat.reduceBEq]; refine Ev.bind (c2) ?_; simp -implicitDefEqProofs (disch := omega) only [cellsZ, foldZ, go_sem, ↓reduceIte, reduceCtorEq, Nat.reduceAdd, Nat.reduceSub, Nat.reduceEqDiff, Nat.reduceLeDiff, Nat.reduceBEq]; refine Ev.bind (c3) ?_; simp -implicitDefEqProofs (disch := omega) only [cellsZ, foldZ, go_sem, ↓reduceIte, reduceCtorEq, Nat.reduceAdd, Nat.reduceSub, Nat.reduceEqDiff, Nat.reduceLeDiff, Nat.reduceBEq]; refine Ev.bind (zsub_ev ia ib (sz9 sb (by decide))) ?_; simp -implicitDefEqProofs (disch := omega) only [cellsZ, foldZ, go_sem, ↓reduceIte, reduceCtorEq, Nat.reduceAdd, Nat.reduceSub, Nat.reduceEqDiff, Nat.reduceLeDiff, Nat.reduceBEq]; refine Ev.bind (oz) ?_; simp -implicitDefEqProofs (disch := omega) only [cellsZ, foldZ, go_sem, ↓reduceIte, reduceCtorEq, Nat.reduceAdd, Nat.reduceSub, Nat.reduceEqDiff, Nat.reduceLeDiff, Nat.reduceBEq]; refine Ev.bind (c4) ?_; simp -implicitDefEqProofs (disch := omega) only [cellsZ, foldZ, go_sem, ↓reduceIte, reduceCtorEq, Nat.reduceAdd, Nat.reduceSub, Nat.reduceEqDiff, Nat.reduceLeDiff, Nat.reduceBEq]; refine Ev.bind (zadd_ev ia ic) ?_; simp -implicitDefEqProofs (disch := omega) only [cellsZ, foldZ, go_sem, ↓reduceIte, reduceCtorEq, Nat.reduceAdd, Nat.reduceSub, Nat.reduceEqDiff, Nat.reduceLeDiff, Nat.reduceBEq]; refine Ev.bind (zadd_ev ib ic) ?_; simp -implicitDefEqProofs (disch := omega) only [cellsZ, foldZ, go_sem, ↓reduceIte, reduceCtorEq, Nat.reduceAdd, Nat.reduceSub, Nat.reduceEqDiff, Nat.reduceLeDiff, Nat.reduceBEq]; refine Ev.bind (c5) ?_; simp -implicitDefEqProofs (disch := omega) only [cellsZ, foldZ, go_sem, ↓reduceIte, reduceCtorEq, Nat.reduceAdd, Nat.reduceSub, Nat.reduceEqDiff, Nat.reduceLeDiff, Nat.reduceBEq]; refine Ev.bind (c6) ?_; simp -implicitDefEqProofs (disch := omega) only [cellsZ, foldZ, go_sem, ↓reduceIte, reduceCtorEq, Nat.reduceAdd, Nat.reduceSub, Nat.reduceEqDiff, Nat.reduceLeDiff, Nat.reduceBEq]; refine Ev.bind (znorm_ev ia) ?_; simp -implicitDefEqProofs (disch := omega) only [cellsZ, foldZ, go_sem, ↓reduceIte, reduceCtorEq, Nat.reduceAdd, Nat.reduceSub, Nat.reduceEqDiff, Nat.reduceLeDiff, Nat.reduceBEq]; refine Ev.bind (znorm_ev ib) ?_; simp -implicitDefEqProofs (disch := omega) only [cellsZ, foldZ, go_sem, ↓reduceIte, reduceCtorEq, Nat.reduceAdd, Nat.reduceSub, Nat.reduceEqDiff, Nat.reduceLeDiff, Nat.reduceBEq]; refine Ev.bind (sm) ?_; simp -implicitDefEqProofs (disch := omega) only [cellsZ, foldZ, go_sem, ↓reduceIte, reduceCtorEq, Nat.reduceAdd, Nat.reduceSub, Nat.reduceEqDiff, Nat.reduceLeDiff, Nat.reduceBEq]; refine Ev.bind (awake_ev) ?_; simp -implicitDefEqProofs (disch := omega) only [cellsZ, foldZ, go_sem, ↓reduceIte, reduceCtorEq, Nat.reduceAdd, Nat.reduceSub, Nat.reduceEqDiff, Nat.reduceLeDiff, Nat.reduceBEq])
                exact Ev.ret _
              · have hv := htr (by omega) (by omega)
                refine Ev.call rfl tab9 ?_
                simp -implicitDefEqProofs (disch := omega) only [F9, go_sem, ↓reduceIte, reduceCtorEq, Nat.reduceAdd, Nat.reduceSub, Nat.reduceEqDiff, Nat.reduceLeDiff, Nat.reduceBEq]
                (refine Ev.bind (s1) ?_; simp -implicitDefEqProofs (disch := omega) only [cellsZ, foldZ, go_sem, ↓reduceIte, reduceCtorEq, Nat.reduceAdd, Nat.reduceSub, Nat.reduceEqDiff, Nat.reduceLeDiff, Nat.reduceBEq]; refine Ev.bind (s2) ?_; simp -implicitDefEqProofs (disch := omega) only [cellsZ, foldZ, go_sem, ↓reduceIte, reduceCtorEq, Nat.reduceAdd, Nat.reduceSub, Nat.reduceEqDiff, Nat.reduceLeDiff, Nat.reduceBEq]; refine Ev.bind (s3) ?_; simp -implicitDefEqProofs (disch := omega) only [cellsZ, foldZ, go_sem, ↓reduceIte, reduceCtorEq, Nat.reduceAdd, Nat.reduceSub, Nat.reduceEqDiff, Nat.reduceLeDiff, Nat.reduceBEq]; refine Ev.bind (c1) ?_; simp -implicitDefEqProofs (disch := omega) only [cellsZ, foldZ, go_sem, ↓reduceIte, reduceCtorEq, Nat.reduceAdd, Nat.reduceSub, Nat.reduceEqDiff, Nat.reduceLeDiff, Nat.reduceBEq]; refine Ev.bind (c2) ?_; simp -implicitDefEqProofs (disch := omega) only [cellsZ, foldZ, go_sem, ↓reduceIte, reduceCtorEq, Nat.reduceAdd, Nat.reduceSub, Nat.reduceEqDiff, Nat.reduceLeDiff, Nat.reduceBEq]; refine Ev.bind (c3) ?_; simp -implicitDefEqProofs (disch := omega) only [cellsZ, foldZ, go_sem, ↓reduceIte, reduceCtorEq, Nat.reduceAdd, Nat.reduceSub, Nat.reduceEqDiff, Nat.reduceLeDiff, Nat.reduceBEq]; refine Ev.bind (zsub_ev ia ib (sz9 sb (by decide))) ?_; simp -implicitDefEqProofs (disch := omega) only [cellsZ, foldZ, go_sem, ↓reduceIte, reduceCtorEq, Nat.reduceAdd, Nat.reduceSub, Nat.reduceEqDiff, Nat.reduceLeDiff, Nat.reduceBEq]; refine Ev.bind (oz) ?_; simp -implicitDefEqProofs (disch := omega) only [cellsZ, foldZ, go_sem, ↓reduceIte, reduceCtorEq, Nat.reduceAdd, Nat.reduceSub, Nat.reduceEqDiff, Nat.reduceLeDiff, Nat.reduceBEq]; refine Ev.bind (c4) ?_; simp -implicitDefEqProofs (disch := omega) only [cellsZ, foldZ, go_sem, ↓reduceIte, reduceCtorEq, Nat.reduceAdd, Nat.reduceSub, Nat.reduceEqDiff, Nat.reduceLeDiff, Nat.reduceBEq]; refine Ev.bind (zadd_ev ia ic) ?_; simp -implicitDefEqProofs (disch := omega) only [cellsZ, foldZ, go_sem, ↓reduceIte, reduceCtorEq, Nat.reduceAdd, Nat.reduceSub, Nat.reduceEqDiff, Nat.reduceLeDiff, Nat.reduceBEq]; refine Ev.bind (zadd_ev ib ic) ?_; simp -implicitDefEqProofs (disch := omega) only [cellsZ, foldZ, go_sem, ↓reduceIte, reduceCtorEq, Nat.reduceAdd, Nat.reduceSub, Nat.reduceEqDiff, Nat.reduceLeDiff, Nat.reduceBEq]; refine Ev.bind (c5) ?_; simp -implicitDefEqProofs (disch := omega) only [cellsZ, foldZ, go_sem, ↓reduceIte, reduceCtorEq, Nat.reduceAdd, Nat.reduceSub, Nat.reduceEqDiff, Nat.reduceLeDiff, Nat.reduceBEq]; refine Ev.bind (c6) ?_; simp -implicitDefEqProofs (disch := omega) only [cellsZ, foldZ, go_sem, ↓reduceIte, reduceCtorEq, Nat.reduceAdd, Nat.reduceSub, Nat.reduceEqDiff, Nat.reduceLeDiff, Nat.reduceBEq]; refine Ev.bind (c7) ?_; simp -implicitDefEqProofs (disch := omega) only [cellsZ, foldZ, go_sem, ↓reduceIte, reduceCtorEq, Nat.reduceAdd, Nat.reduceSub, Nat.reduceEqDiff, Nat.reduceLeDiff, Nat.reduceBEq]; refine Ev.bind (znorm_ev ia) ?_; simp -implicitDefEqProofs (disch := omega) only [cellsZ, foldZ, go_sem, ↓reduceIte, reduceCtorEq, Nat.reduceAdd, Nat.reduceSub, Nat.reduceEqDiff, Nat.reduceLeDiff, Nat.reduceBEq]; refine Ev.bind (znorm_ev ib) ?_; simp -implicitDefEqProofs (disch := omega) only [cellsZ, foldZ, go_sem, ↓reduceIte, reduceCtorEq, Nat.reduceAdd, Nat.reduceSub, Nat.reduceEqDiff, Nat.reduceLeDiff, Nat.reduceBEq]; refine Ev.bind (sm) ?_; simp -implicitDefEqProofs (disch := omega) only [cellsZ, foldZ, go_sem, ↓reduceIte, reduceCtorEq, Nat.reduceAdd, Nat.reduceSub, Nat.reduceEqDiff, Nat.reduceLeDiff, Nat.reduceBEq]; refine Ev.bind (awake_ev) ?_; simp -implicitDefEqProofs (disch := omega) only [cellsZ, foldZ, go_sem, ↓reduceIte, reduceCtorEq, Nat.reduceAdd, Nat.reduceSub, Nat.reduceEqDiff, Nat.reduceLeDiff, Nat.reduceBEq])
                exact Ev.ret _
        exact key
      · rw [decide_eq_true (by omega)] at s1 s2
        rw [decide_eq_false (by omega)] at s3
        refine Ev.call rfl tab9 ?_
        simp -implicitDefEqProofs (disch := omega) only [F9, go_sem, ↓reduceIte, reduceCtorEq, Nat.reduceAdd, Nat.reduceSub, Nat.reduceEqDiff, Nat.reduceLeDiff, Nat.reduceBEq]
        (refine Ev.bind (s1) ?_; simp -implicitDefEqProofs (disch := omega) only [cellsZ, foldZ, go_sem, ↓reduceIte, reduceCtorEq, Nat.reduceAdd, Nat.reduceSub, Nat.reduceEqDiff, Nat.reduceLeDiff, Nat.reduceBEq]; refine Ev.bind (s2) ?_; simp -implicitDefEqProofs (disch := omega) only [cellsZ, foldZ, go_sem, ↓reduceIte, reduceCtorEq, Nat.reduceAdd, Nat.reduceSub, Nat.reduceEqDiff, Nat.reduceLeDiff, Nat.reduceBEq]; refine Ev.bind (s3) ?_; simp -implicitDefEqProofs (disch := omega) only [cellsZ, foldZ, go_sem, ↓reduceIte, reduceCtorEq, Nat.reduceAdd, Nat.reduceSub, Nat.reduceEqDiff, Nat.reduceLeDiff, Nat.reduceBEq]; refine Ev.bind (awake_ev) ?_; simp -implicitDefEqProofs (disch := omega) only [cellsZ, foldZ, go_sem, ↓reduceIte, reduceCtorEq, Nat.reduceAdd, Nat.reduceSub, Nat.reduceEqDiff, Nat.reduceLeDiff, Nat.reduceBEq])
        exact Ev.ret _
    · rw [decide_eq_true (by omega)] at s1
      rw [decide_eq_false (by omega)] at s2
      refine Ev.call rfl tab9 ?_
      simp -implicitDefEqProofs (disch := omega) only [F9, go_sem, ↓reduceIte, reduceCtorEq, Nat.reduceAdd, Nat.reduceSub, Nat.reduceEqDiff, Nat.reduceLeDiff, Nat.reduceBEq]
      (refine Ev.bind (s1) ?_; simp -implicitDefEqProofs (disch := omega) only [cellsZ, foldZ, go_sem, ↓reduceIte, reduceCtorEq, Nat.reduceAdd, Nat.reduceSub, Nat.reduceEqDiff, Nat.reduceLeDiff, Nat.reduceBEq]; refine Ev.bind (s2) ?_; simp -implicitDefEqProofs (disch := omega) only [cellsZ, foldZ, go_sem, ↓reduceIte, reduceCtorEq, Nat.reduceAdd, Nat.reduceSub, Nat.reduceEqDiff, Nat.reduceLeDiff, Nat.reduceBEq]; refine Ev.bind (awake_ev) ?_; simp -implicitDefEqProofs (disch := omega) only [cellsZ, foldZ, go_sem, ↓reduceIte, reduceCtorEq, Nat.reduceAdd, Nat.reduceSub, Nat.reduceEqDiff, Nat.reduceLeDiff, Nat.reduceBEq])
      exact Ev.ret _
  · rw [decide_eq_false (by omega)] at s1
    refine Ev.call rfl tab9 ?_
    simp -implicitDefEqProofs (disch := omega) only [F9, go_sem, ↓reduceIte, reduceCtorEq, Nat.reduceAdd, Nat.reduceSub, Nat.reduceEqDiff, Nat.reduceLeDiff, Nat.reduceBEq]
    (refine Ev.bind (s1) ?_; simp -implicitDefEqProofs (disch := omega) only [cellsZ, foldZ, go_sem, ↓reduceIte, reduceCtorEq, Nat.reduceAdd, Nat.reduceSub, Nat.reduceEqDiff, Nat.reduceLeDiff, Nat.reduceBEq]; refine Ev.bind (awake_ev) ?_; simp -implicitDefEqProofs (disch := omega) only [cellsZ, foldZ, go_sem, ↓reduceIte, reduceCtorEq, Nat.reduceAdd, Nat.reduceSub, Nat.reduceEqDiff, Nat.reduceLeDiff, Nat.reduceBEq])
    exact Ev.ret _
end Go.Proofs.Ytkeipmkiilimeaa.V
namespace Go.Proofs.Ytkeipmkiilimeaa.integerOrders
open Go.ChangeShapes Go.WideShapes Go.ChangeAt Go.RowKit
set_option linter.unusedVariables false
theorem own : ownKnob Try.prog.godebug = none := by kernel_rfl
theorem laidOut : laidOutB Try.prog = true := by kernel_rfl
set_option maxRecDepth 100000 in
theorem lifted (os : Os) (started : os.Started) (H : Type) (enc : TypeId × Value → H) :
  ReturnsInHanded {} Try.checked os 9 .any (Rows.integerOrdersSpec.pre6 enc Try.prog Try.f9 Rows.integerOrdersRow.domain false) (Rows.integerOrdersSpec.post enc Try.prog Try.f9 false true false false) := by
 refine returnsInHanded_of_change (C := Try.checked) own started (by kernel_rfl) Try.func9
  (ChangeSpec.witness6 (enc := enc) (C := Try.checked) false ⟨#[], #[.agg #[.bool false, .slice none 0 0], .agg #[.bool false, .slice none 0 0], .agg #[.bool false, .slice none 0 0]], []⟩ 8 (by kernel_rfl) (by kernel_rfl) (by kernel_rfl) (by kernel_rfl)) ?_
 intro W base args ds gs before hval0 hW hcnd _
 have hval : ∀ (j : Nat) t v, Try.f9.params[j]? = some t → args[j]? = some v → Value.okWide Try.prog W .any base t v := hval0
 have hW' := hW
 obtain ⟨p, q, hA0, hV, rfl, hfz, hnd⟩ := hW
 have hA : DataW.TrodAll enc Try.prog W 0 (fun _ => true) true Try.f9.params.toList args.toList ds p := hA0
 rw [Try.params9] at hA hval
 have call := V.law_sound V.mixed V.tab_ok V.ext_ok (L := [25, 4, 23, 46]) (f := 9) (by kernel_rfl) (by decide) (ts := [25, 25, 25]) (by kernel_rfl) V.pureIntegerOrders (fun j t v h1 h2 => hval j t v (by simpa using h1) h2) hA
 obtain ⟨v0, vs0, d0, ds0, p0, q0, hargs, rfl, rfl, h0, r0⟩ := trodAll_cons hA
 obtain ⟨v1, vs1, d1, ds1, p1, q1, rfl, rfl, rfl, h1, r1⟩ := trodAll_cons r0
 obtain ⟨v2, vs2, d2, ds2, p2, q2, rfl, rfl, rfl, h2, r2⟩ := trodAll_cons r1
 obtain ⟨rfl, rfl, rfl⟩ := trodAll_nil r2
 have lt0 : ∀ x ∈ p0, x.block < W.heap.size := by
  obtain ⟨m, hm⟩ := h0
  exact DataW.trod_lt m _ _ _ hm
 have lt1 : ∀ x ∈ p1, x.block < W.heap.size := by
  obtain ⟨m, hm⟩ := h1
  exact DataW.trod_lt m _ _ _ hm
 have lt2 : ∀ x ∈ p2, x.block < W.heap.size := by
  obtain ⟨m, hm⟩ := h2
  exact DataW.trod_lt m _ _ _ hm
 obtain ⟨rfl, rfl⟩ := trodVars_none hV
 refine call.mono fun e W' ⟨he, bel⟩ => ?_
 subst he
 exact ⟨_, rfl, _, _, _, [], _, [], hW', trodAll_mk1 (shut_bool Try.underlying4 _), by rw [hargs]; exact (trodAll_cons_mk (Below.trod laidOut (by kernel_rfl) (of_decide_eq_true (by kernel_rfl)) h0 bel lt0) (trodAll_cons_mk (Below.trod laidOut (by kernel_rfl) (of_decide_eq_true (by kernel_rfl)) h1 bel lt1) (trodAll_cons_mk (Below.trod laidOut (by kernel_rfl) (of_decide_eq_true (by kernel_rfl)) h2 bel lt2) trodAll_mk0))), rfl, bel.frame _, fun h => by cases h⟩
theorem over : Rows.integerOrdersRow.holds Try.pinned (OpenSpec.ofChange Rows.integerOrdersSpec) :=
 OpenClaim.holds_of_wide 9 Try.f9 rfl rfl rfl rfl rfl rfl rfl ⟨rfl, rfl, rfl, rfl, rfl⟩ rfl rfl rfl rfl rfl (by kernel_rfl) Try.func9 (by kernel_rfl)
  (of_decide_eq_true (by kernel_rfl)) (by unfold Func.isWrapper; first | (rw [if_pos (by decide +kernel)]; kernel_rfl) | (rw [if_neg (by decide +kernel)]; exact ⟨rfl, rfl⟩))
  (fun os started H enc _ => lifted os started H enc)
theorem proved : Rows.IntegerOrdersSaid := over
#print axioms proved
end Go.Proofs.Ytkeipmkiilimeaa.integerOrders
namespace Go.Proofs.Ytkeipmkiilimeaa
/-- The row, under a short name, for the claim. -/
theorem integerOrders_holds : Rows.IntegerOrdersSaid := integerOrders.proved
end Go.Proofs.Ytkeipmkiilimeaa
