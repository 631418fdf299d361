/- IntegerForms: the results are in normal form and do not depend on the forms of integers of at most 30 limbs (else the chapter's examples).
The statement IntegerFormsSaid, out of its Pure. -/
import Derived.Test.YtkeipmkiilimeaaKH
import Derived.Test.YtkeipmkiilimeaaRows
import Derived.WalkKit
import Derived.ProofKit
import Derived.OpenShut
import Derived.ChangeOld
import Derived.Below

set_option linter.unusedSimpArgs false
set_option linter.unusedVariables false
namespace Go.Proofs.Ytkeipmkiilimeaa.V
open Go Go.Proofs.Ytkeipmkiilimeaa.M
theorem flatZ (z : Int) : (ofZ z).flat = false := (rfl)
theorem intF : intT Try.prog .u8 5 = true := by kernel_rfl
theorem argF (z : Int) : argPV Try.prog 5 [.int .u8 z] = .int .u8 z := by
  have h := intF
  unfold intT at h
  unfold argPV
  split at h
  · rename_i hu; rw [hu]; rfl
  · cases h
theorem last_ne {n : Nat} (h : 0 < (ofN n).length) : (ofN n).getD ((ofN n).length - 1) 0 ≠ 0 := by
  intro e
  have hl := lim_ofN n
  have hv := val_take_succ (l := ofN n) (i := (ofN n).length - 1) (by omega)
  rw [show (ofN n).length - 1 + 1 = (ofN n).length by omega, List.take_length, val_ofN, e] at hv
  have hp := P_len_le (n := n) (ofN_length_pos.1 h |> Nat.pos_iff_ne_zero.1)
  have hlt := val_lt_take hl ((ofN n).length - 1)
  simp at hv
  omega
theorem normal_ev {z : Int} (hz : Sz 1000000 z) : Ev (fun k => (lvl tab ext k).call 38 [.pv (ofZ z)]) [(.pv (.bool (true)))] := by
  by_cases h : z = 0
  · subst h
    have e : ofZ 0 = .agg [.bool false, .ints .u32 []] := by unfold ofZ; rw [show (0 : Int).natAbs = 0 from rfl, ofN_zero]; rfl
    rw [e]
    refine Ev.call rfl tab38 ?_
    simp -implicitDefEqProofs (disch := omega) only [F38, go_sem, ↓reduceIte, reduceCtorEq, Nat.reduceAdd, Nat.reduceSub, Nat.reduceEqDiff, Nat.reduceLeDiff, Nat.reduceBEq]
    exact Ev.ret _
  · have hp : 0 < (ofN z.natAbs).length := ofN_length_pos.2 (by omega)
    have hn := last_ne hp
    have hz : (ofN z.natAbs).length ≤ 1000000 := hz
    unfold ofZ
    have et : (((ofN z.natAbs).length : Int) - 1).toNat = (ofN z.natAbs).length - 1 := by omega
    generalize ofN z.natAbs = L at *
    generalize hx : L.getD (L.length - 1) 0 = x at *
    refine Ev.call rfl tab38 ?_
    simp -implicitDefEqProofs (disch := omega) only [F38, et, hx, go_sem, ↓reduceIte, reduceCtorEq, Nat.reduceAdd, Nat.reduceSub, Nat.reduceEqDiff, Nat.reduceLeDiff, Nat.reduceBEq]
    exact Ev.ret _
theorem iv_app (b : Bool) (l : List Int) (n : Nat) : iv b (l ++ List.replicate n 0) = iv b l := by
  unfold iv
  rw [val_append, val_rep, Nat.mul_zero, Nat.add_zero]
theorem pureIntegerForms : PureOf [25, 25, 5] 11 := by
  intro pss g
  cases g with
  | cons g1 g => cases g with
    | cons g2 g => cases g with
      | cons g3 g => cases g
                     obtain ⟨m1, g1⟩ := g1
                     obtain ⟨m2, g2⟩ := g2
                     obtain ⟨m3, g3⟩ := g3
                     obtain ⟨b, l, rfl, hl, _⟩ := intZT_inv zt g1
                     obtain ⟨c, m, rfl, hm, _⟩ := intZT_inv zt g2
                     obtain ⟨z, rfl, hz⟩ := intT_inv intF g3
                     show ∃ k, (lvl tab ext k).call _ [.pv (argPV Try.prog _ _), .pv (argPV Try.prog _ _), .pv (argPV Try.prog _ _)] = _
                     rw [argZ, argZ, argF]
                     refine ret1 (?_ : Ev _ ([(.pv (.bool (true)))] : List AR))
                     have hz : 0 ≤ z ∧ z < 256 := by
                       simp only [Lit.wf, IntKind.min, IntKind.max, IntKind.signed, IntKind.bits, Bool.and_eq_true] at hz
                       have h1 := hz.1
                       have h2 := hz.2
                       simp at h1 h2
                       omega
                     have s1 := short_ev (b := b) (l := l) (n := 30)
                     have s2 := short_ev (b := c) (l := m) (n := 30)
                     by_cases h1 : l.length ≤ 30
                     · by_cases h2 : m.length ≤ 30
                       · rw [decide_eq_true (by omega)] at s1 s2
                         by_cases h3 : z ≤ 5
                         · obtain ⟨ia, sa⟩ := isz_mk (b := b) hl h1 (by decide)
                           obtain ⟨ib, sb⟩ := isz_mk (b := c) hm h2 (by decide)
                           obtain ⟨n, rfl⟩ := Int.eq_ofNat_of_zero_le hz.1
                           have hX : Lim (l ++ List.replicate n 0) := lim_append.2 ⟨hl, lim_rep n⟩
                           have lX : (l ++ List.replicate n 0).length = l.length + n := by simp
                           have oz := zof_ev (n := 0) (by decide) (by decide)
                           have i0 : IsZ (ofZ 0) 0 := isZ_of (sz_mono (sz_int (by decide) (by decide)) (by decide))
                           have c0 := zcmp_ev ia i0
                           have key : ∀ (b' : Bool), iv b' l = iv b l → (b' = b ∨ b' = !b) → (iv b l = 0 ↔ b' = !b) → Ev (fun k => (lvl tab ext k).call 11 [.pv (ZA b l), .pv (ZA c m), .pv (.int .u8 (n : Int))]) [(.pv (.bool (true)))] := by
                             intro b' hv hb' hiff
                             have ix : IsZ (ZA b' (l ++ List.replicate n 0)) (iv b l) := by
                               rw [← hv, ← iv_app b' l n]; exact isZ_mk hX (by omega)
                             have hc0 : icmp (iv b l) 0 = 0 ↔ b' = !b := by rw [icmp_zero]; exact hiff
                             have cc := zcmp_ev ia ix
                             rw [icmp_eq] at cc
                             have t1 := ztext_ev ia
                             have t2 := ztext_ev ix
                             have ssum := sz_add sa sb
                             have smul := sz_mul sa sb
                             have a1 := zadd_ev ia ib
                             have a2 := zadd_ev ix ib
                             have p1 := zmul_ev ia ib
                             have p2 := zmul_ev ix ib
                             have ng := zneg_ev ia
                             have nm := znorm_ev ia
                             have fin : ∀ (Q R : Int) (ok : Bool), Sz 1000 Q → Sz 1000 R → Ev (fun k => (lvl tab ext k).call 14 [.pv (ZA b l), .pv (ZA c m)]) [.pv (ofZ Q), .pv (ofZ R), (.pv (.bool (ok)))] → Ev (fun k => (lvl tab ext k).call 14 [.pv (ZA b' (l ++ List.replicate n 0)), .pv (ZA c m)]) [.pv (ofZ Q), .pv (ofZ R), (.pv (.bool (ok)))] → Ev (fun k => (lvl tab ext k).call 11 [.pv (ZA b l), .pv (ZA c m), .pv (.int .u8 (n : Int))]) [(.pv (.bool (true)))] := by
                               intro Q R ok sQ sR d1 d2
                               have n1 := normal_ev (sz9 ssum (by decide))
                               have n2 := normal_ev (sz9 smul (by decide))
                               have n3 := normal_ev (sz9 sQ (by decide))
                               have n4 := normal_ev (sz9 sR (by decide))
                               have n5 := normal_ev (sz9 (sz_neg sa) (by decide))
                               have n6 := normal_ev (sz9 sa (by decide))
                               have q1 := sameT ssum (by decide)
                               have q2 := sameT smul (by decide)
                               have q3 := sameT sQ (by decide)
                               have q4 := sameT sR (by decide)
                               clear hv hiff ix hX ia ib i0
                               generalize iv b l = x at *
                               generalize iv c m = y at *
                               generalize icmp x 0 = w at *
                               rcases hb' with rfl | rfl
                               · have hw : w ≠ 0 := fun h => by have := hc0.1 h; cases b' <;> cases this
                                 clear hc0
                                 refine Ev.call rfl tab11 ?_
                                 simp -implicitDefEqProofs (disch := omega) only [F11, List.nil_append, go_sem, ↓reduceIte, reduceCtorEq, Nat.reduceAdd, Nat.reduceSub, Nat.reduceEqDiff, Nat.reduceLeDiff, Nat.reduceBEq]
                                 (refine Ev.bind (s1) ?_; simp -implicitDefEqProofs (disch := omega) only [cellsZ, foldZ, flatZ, go_sem, ↓reduceIte, reduceCtorEq, Nat.reduceAdd, Nat.reduceSub, Nat.reduceEqDiff, Nat.reduceLeDiff, Nat.reduceBEq]; refine Ev.bind (s2) ?_; simp -implicitDefEqProofs (disch := omega) only [cellsZ, foldZ, flatZ, go_sem, ↓reduceIte, reduceCtorEq, Nat.reduceAdd, Nat.reduceSub, Nat.reduceEqDiff, Nat.reduceLeDiff, Nat.reduceBEq]; refine Ev.bind (oz) ?_; simp -implicitDefEqProofs (disch := omega) only [cellsZ, foldZ, flatZ, go_sem, ↓reduceIte, reduceCtorEq, Nat.reduceAdd, Nat.reduceSub, Nat.reduceEqDiff, Nat.reduceLeDiff, Nat.reduceBEq]; refine Ev.bind (c0) ?_; simp -implicitDefEqProofs (disch := omega) only [cellsZ, foldZ, flatZ, go_sem, ↓reduceIte, reduceCtorEq, Nat.reduceAdd, Nat.reduceSub, Nat.reduceEqDiff, Nat.reduceLeDiff, Nat.reduceBEq]; refine Ev.bind (d1) ?_; simp -implicitDefEqProofs (disch := omega) only [cellsZ, foldZ, flatZ, go_sem, ↓reduceIte, reduceCtorEq, Nat.reduceAdd, Nat.reduceSub, Nat.reduceEqDiff, Nat.reduceLeDiff, Nat.reduceBEq]; refine Ev.bind (d2) ?_; simp -implicitDefEqProofs (disch := omega) only [cellsZ, foldZ, flatZ, go_sem, ↓reduceIte, reduceCtorEq, Nat.reduceAdd, Nat.reduceSub, Nat.reduceEqDiff, Nat.reduceLeDiff, Nat.reduceBEq]; refine Ev.bind (a1) ?_; simp -implicitDefEqProofs (disch := omega) only [cellsZ, foldZ, flatZ, go_sem, ↓reduceIte, reduceCtorEq, Nat.reduceAdd, Nat.reduceSub, Nat.reduceEqDiff, Nat.reduceLeDiff, Nat.reduceBEq]; refine Ev.bind (p1) ?_; simp -implicitDefEqProofs (disch := omega) only [cellsZ, foldZ, flatZ, go_sem, ↓reduceIte, reduceCtorEq, Nat.reduceAdd, Nat.reduceSub, Nat.reduceEqDiff, Nat.reduceLeDiff, Nat.reduceBEq]; refine Ev.bind (n1) ?_; simp -implicitDefEqProofs (disch := omega) only [cellsZ, foldZ, flatZ, go_sem, ↓reduceIte, reduceCtorEq, Nat.reduceAdd, Nat.reduceSub, Nat.reduceEqDiff, Nat.reduceLeDiff, Nat.reduceBEq]; refine Ev.bind (n2) ?_; simp -implicitDefEqProofs (disch := omega) only [cellsZ, foldZ, flatZ, go_sem, ↓reduceIte, reduceCtorEq, Nat.reduceAdd, Nat.reduceSub, Nat.reduceEqDiff, Nat.reduceLeDiff, Nat.reduceBEq]; refine Ev.bind (n3) ?_; simp -implicitDefEqProofs (disch := omega) only [cellsZ, foldZ, flatZ, go_sem, ↓reduceIte, reduceCtorEq, Nat.reduceAdd, Nat.reduceSub, Nat.reduceEqDiff, Nat.reduceLeDiff, Nat.reduceBEq]; refine Ev.bind (n4) ?_; simp -implicitDefEqProofs (disch := omega) only [cellsZ, foldZ, flatZ, go_sem, ↓reduceIte, reduceCtorEq, Nat.reduceAdd, Nat.reduceSub, Nat.reduceEqDiff, Nat.reduceLeDiff, Nat.reduceBEq]; refine Ev.bind (ng) ?_; simp -implicitDefEqProofs (disch := omega) only [cellsZ, foldZ, flatZ, go_sem, ↓reduceIte, reduceCtorEq, Nat.reduceAdd, Nat.reduceSub, Nat.reduceEqDiff, Nat.reduceLeDiff, Nat.reduceBEq]; refine Ev.bind (n5) ?_; simp -implicitDefEqProofs (disch := omega) only [cellsZ, foldZ, flatZ, go_sem, ↓reduceIte, reduceCtorEq, Nat.reduceAdd, Nat.reduceSub, Nat.reduceEqDiff, Nat.reduceLeDiff, Nat.reduceBEq]; refine Ev.bind (nm) ?_; simp -implicitDefEqProofs (disch := omega) only [cellsZ, foldZ, flatZ, go_sem, ↓reduceIte, reduceCtorEq, Nat.reduceAdd, Nat.reduceSub, Nat.reduceEqDiff, Nat.reduceLeDiff, Nat.reduceBEq]; refine Ev.bind (n6) ?_; simp -implicitDefEqProofs (disch := omega) only [cellsZ, foldZ, flatZ, go_sem, ↓reduceIte, reduceCtorEq, Nat.reduceAdd, Nat.reduceSub, Nat.reduceEqDiff, Nat.reduceLeDiff, Nat.reduceBEq]; refine Ev.bind (a2) ?_; simp -implicitDefEqProofs (disch := omega) only [cellsZ, foldZ, flatZ, go_sem, ↓reduceIte, reduceCtorEq, Nat.reduceAdd, Nat.reduceSub, Nat.reduceEqDiff, Nat.reduceLeDiff, Nat.reduceBEq]; refine Ev.bind (q1) ?_; simp -implicitDefEqProofs (disch := omega) only [cellsZ, foldZ, flatZ, go_sem, ↓reduceIte, reduceCtorEq, Nat.reduceAdd, Nat.reduceSub, Nat.reduceEqDiff, Nat.reduceLeDiff, Nat.reduceBEq]; refine Ev.bind (p2) ?_; simp -implicitDefEqProofs (disch := omega) only [cellsZ, foldZ, flatZ, go_sem, ↓reduceIte, reduceCtorEq, Nat.reduceAdd, Nat.reduceSub, Nat.reduceEqDiff, Nat.reduceLeDiff, Nat.reduceBEq]; refine Ev.bind (q2) ?_; simp -implicitDefEqProofs (disch := omega) only [cellsZ, foldZ, flatZ, go_sem, ↓reduceIte, reduceCtorEq, Nat.reduceAdd, Nat.reduceSub, Nat.reduceEqDiff, Nat.reduceLeDiff, Nat.reduceBEq]; refine Ev.bind (q3) ?_; simp -implicitDefEqProofs (disch := omega) only [cellsZ, foldZ, flatZ, go_sem, ↓reduceIte, reduceCtorEq, Nat.reduceAdd, Nat.reduceSub, Nat.reduceEqDiff, Nat.reduceLeDiff, Nat.reduceBEq]; refine Ev.bind (q4) ?_; simp -implicitDefEqProofs (disch := omega) only [cellsZ, foldZ, flatZ, go_sem, ↓reduceIte, reduceCtorEq, Nat.reduceAdd, Nat.reduceSub, Nat.reduceEqDiff, Nat.reduceLeDiff, Nat.reduceBEq]; refine Ev.bind (t1) ?_; simp -implicitDefEqProofs (disch := omega) only [cellsZ, foldZ, flatZ, go_sem, ↓reduceIte, reduceCtorEq, Nat.reduceAdd, Nat.reduceSub, Nat.reduceEqDiff, Nat.reduceLeDiff, Nat.reduceBEq]; refine Ev.bind (t2) ?_; simp -implicitDefEqProofs (disch := omega) only [cellsZ, foldZ, flatZ, go_sem, ↓reduceIte, reduceCtorEq, Nat.reduceAdd, Nat.reduceSub, Nat.reduceEqDiff, Nat.reduceLeDiff, Nat.reduceBEq]; refine Ev.bind (cc) ?_; simp -implicitDefEqProofs (disch := omega) only [cellsZ, foldZ, flatZ, go_sem, ↓reduceIte, reduceCtorEq, Nat.reduceAdd, Nat.reduceSub, Nat.reduceEqDiff, Nat.reduceLeDiff, Nat.reduceBEq]; refine Ev.bind (awake_ev) ?_; simp -implicitDefEqProofs (disch := omega) only [cellsZ, foldZ, flatZ, go_sem, ↓reduceIte, reduceCtorEq, Nat.reduceAdd, Nat.reduceSub, Nat.reduceEqDiff, Nat.reduceLeDiff, Nat.reduceBEq])
                                 exact Ev.ret _
                               · have hw : w = 0 := hc0.2 rfl
                                 clear hc0
                                 refine Ev.call rfl tab11 ?_
                                 simp -implicitDefEqProofs (disch := omega) only [F11, List.nil_append, go_sem, ↓reduceIte, reduceCtorEq, Nat.reduceAdd, Nat.reduceSub, Nat.reduceEqDiff, Nat.reduceLeDiff, Nat.reduceBEq]
                                 (refine Ev.bind (s1) ?_; simp -implicitDefEqProofs (disch := omega) only [cellsZ, foldZ, flatZ, go_sem, ↓reduceIte, reduceCtorEq, Nat.reduceAdd, Nat.reduceSub, Nat.reduceEqDiff, Nat.reduceLeDiff, Nat.reduceBEq]; refine Ev.bind (s2) ?_; simp -implicitDefEqProofs (disch := omega) only [cellsZ, foldZ, flatZ, go_sem, ↓reduceIte, reduceCtorEq, Nat.reduceAdd, Nat.reduceSub, Nat.reduceEqDiff, Nat.reduceLeDiff, Nat.reduceBEq]; refine Ev.bind (oz) ?_; simp -implicitDefEqProofs (disch := omega) only [cellsZ, foldZ, flatZ, go_sem, ↓reduceIte, reduceCtorEq, Nat.reduceAdd, Nat.reduceSub, Nat.reduceEqDiff, Nat.reduceLeDiff, Nat.reduceBEq]; refine Ev.bind (c0) ?_; simp -implicitDefEqProofs (disch := omega) only [cellsZ, foldZ, flatZ, go_sem, ↓reduceIte, reduceCtorEq, Nat.reduceAdd, Nat.reduceSub, Nat.reduceEqDiff, Nat.reduceLeDiff, Nat.reduceBEq]; refine Ev.bind (d1) ?_; simp -implicitDefEqProofs (disch := omega) only [cellsZ, foldZ, flatZ, go_sem, ↓reduceIte, reduceCtorEq, Nat.reduceAdd, Nat.reduceSub, Nat.reduceEqDiff, Nat.reduceLeDiff, Nat.reduceBEq]; refine Ev.bind (d2) ?_; simp -implicitDefEqProofs (disch := omega) only [cellsZ, foldZ, flatZ, go_sem, ↓reduceIte, reduceCtorEq, Nat.reduceAdd, Nat.reduceSub, Nat.reduceEqDiff, Nat.reduceLeDiff, Nat.reduceBEq]; refine Ev.bind (a1) ?_; simp -implicitDefEqProofs (disch := omega) only [cellsZ, foldZ, flatZ, go_sem, ↓reduceIte, reduceCtorEq, Nat.reduceAdd, Nat.reduceSub, Nat.reduceEqDiff, Nat.reduceLeDiff, Nat.reduceBEq]; refine Ev.bind (p1) ?_; simp -implicitDefEqProofs (disch := omega) only [cellsZ, foldZ, flatZ, go_sem, ↓reduceIte, reduceCtorEq, Nat.reduceAdd, Nat.reduceSub, Nat.reduceEqDiff, Nat.reduceLeDiff, Nat.reduceBEq]; refine Ev.bind (n1) ?_; simp -implicitDefEqProofs (disch := omega) only [cellsZ, foldZ, flatZ, go_sem, ↓reduceIte, reduceCtorEq, Nat.reduceAdd, Nat.reduceSub, Nat.reduceEqDiff, Nat.reduceLeDiff, Nat.reduceBEq]; refine Ev.bind (n2) ?_; simp -implicitDefEqProofs (disch := omega) only [cellsZ, foldZ, flatZ, go_sem, ↓reduceIte, reduceCtorEq, Nat.reduceAdd, Nat.reduceSub, Nat.reduceEqDiff, Nat.reduceLeDiff, Nat.reduceBEq]; refine Ev.bind (n3) ?_; simp -implicitDefEqProofs (disch := omega) only [cellsZ, foldZ, flatZ, go_sem, ↓reduceIte, reduceCtorEq, Nat.reduceAdd, Nat.reduceSub, Nat.reduceEqDiff, Nat.reduceLeDiff, Nat.reduceBEq]; refine Ev.bind (n4) ?_; simp -implicitDefEqProofs (disch := omega) only [cellsZ, foldZ, flatZ, go_sem, ↓reduceIte, reduceCtorEq, Nat.reduceAdd, Nat.reduceSub, Nat.reduceEqDiff, Nat.reduceLeDiff, Nat.reduceBEq]; refine Ev.bind (ng) ?_; simp -implicitDefEqProofs (disch := omega) only [cellsZ, foldZ, flatZ, go_sem, ↓reduceIte, reduceCtorEq, Nat.reduceAdd, Nat.reduceSub, Nat.reduceEqDiff, Nat.reduceLeDiff, Nat.reduceBEq]; refine Ev.bind (n5) ?_; simp -implicitDefEqProofs (disch := omega) only [cellsZ, foldZ, flatZ, go_sem, ↓reduceIte, reduceCtorEq, Nat.reduceAdd, Nat.reduceSub, Nat.reduceEqDiff, Nat.reduceLeDiff, Nat.reduceBEq]; refine Ev.bind (nm) ?_; simp -implicitDefEqProofs (disch := omega) only [cellsZ, foldZ, flatZ, go_sem, ↓reduceIte, reduceCtorEq, Nat.reduceAdd, Nat.reduceSub, Nat.reduceEqDiff, Nat.reduceLeDiff, Nat.reduceBEq]; refine Ev.bind (n6) ?_; simp -implicitDefEqProofs (disch := omega) only [cellsZ, foldZ, flatZ, go_sem, ↓reduceIte, reduceCtorEq, Nat.reduceAdd, Nat.reduceSub, Nat.reduceEqDiff, Nat.reduceLeDiff, Nat.reduceBEq]; refine Ev.bind (a2) ?_; simp -implicitDefEqProofs (disch := omega) only [cellsZ, foldZ, flatZ, go_sem, ↓reduceIte, reduceCtorEq, Nat.reduceAdd, Nat.reduceSub, Nat.reduceEqDiff, Nat.reduceLeDiff, Nat.reduceBEq]; refine Ev.bind (q1) ?_; simp -implicitDefEqProofs (disch := omega) only [cellsZ, foldZ, flatZ, go_sem, ↓reduceIte, reduceCtorEq, Nat.reduceAdd, Nat.reduceSub, Nat.reduceEqDiff, Nat.reduceLeDiff, Nat.reduceBEq]; refine Ev.bind (p2) ?_; simp -implicitDefEqProofs (disch := omega) only [cellsZ, foldZ, flatZ, go_sem, ↓reduceIte, reduceCtorEq, Nat.reduceAdd, Nat.reduceSub, Nat.reduceEqDiff, Nat.reduceLeDiff, Nat.reduceBEq]; refine Ev.bind (q2) ?_; simp -implicitDefEqProofs (disch := omega) only [cellsZ, foldZ, flatZ, go_sem, ↓reduceIte, reduceCtorEq, Nat.reduceAdd, Nat.reduceSub, Nat.reduceEqDiff, Nat.reduceLeDiff, Nat.reduceBEq]; refine Ev.bind (q3) ?_; simp -implicitDefEqProofs (disch := omega) only [cellsZ, foldZ, flatZ, go_sem, ↓reduceIte, reduceCtorEq, Nat.reduceAdd, Nat.reduceSub, Nat.reduceEqDiff, Nat.reduceLeDiff, Nat.reduceBEq]; refine Ev.bind (q4) ?_; simp -implicitDefEqProofs (disch := omega) only [cellsZ, foldZ, flatZ, go_sem, ↓reduceIte, reduceCtorEq, Nat.reduceAdd, Nat.reduceSub, Nat.reduceEqDiff, Nat.reduceLeDiff, Nat.reduceBEq]; refine Ev.bind (t1) ?_; simp -implicitDefEqProofs (disch := omega) only [cellsZ, foldZ, flatZ, go_sem, ↓reduceIte, reduceCtorEq, Nat.reduceAdd, Nat.reduceSub, Nat.reduceEqDiff, Nat.reduceLeDiff, Nat.reduceBEq]; refine Ev.bind (t2) ?_; simp -implicitDefEqProofs (disch := omega) only [cellsZ, foldZ, flatZ, go_sem, ↓reduceIte, reduceCtorEq, Nat.reduceAdd, Nat.reduceSub, Nat.reduceEqDiff, Nat.reduceLeDiff, Nat.reduceBEq]; refine Ev.bind (cc) ?_; simp -implicitDefEqProofs (disch := omega) only [cellsZ, foldZ, flatZ, go_sem, ↓reduceIte, reduceCtorEq, Nat.reduceAdd, Nat.reduceSub, Nat.reduceEqDiff, Nat.reduceLeDiff, Nat.reduceBEq]; refine Ev.bind (awake_ev) ?_; simp -implicitDefEqProofs (disch := omega) only [cellsZ, foldZ, flatZ, go_sem, ↓reduceIte, reduceCtorEq, Nat.reduceAdd, Nat.reduceSub, Nat.reduceEqDiff, Nat.reduceLeDiff, Nat.reduceBEq])
                                 exact Ev.ret _
                             by_cases hy : iv c m = 0
                             · have e0 : Sz 1000 0 := sz_mono (sz_int (by decide) (by decide)) (by decide)
                               exact fin 0 0 false e0 e0 (zdm0_ev ia (hy ▸ ib)) (zdm0_ev ix (hy ▸ ib))
                             · exact fin _ _ true (sz_mono (sz_div sa) (by decide)) (sz_mono (sz_mod sb hy) (by decide)) (zdivmod_ev ia ib hy) (zdivmod_ev ix ib hy)
                           by_cases hx : iv b l = 0
                           · refine key (!b) ?_ (.inr rfl) ⟨fun _ => rfl, fun _ => hx⟩
                             have hv0 : val l = 0 := by have := iv_or b l; omega
                             rw [hx]; have := iv_or (!b) l; omega
                           · refine key b rfl (.inl rfl) ⟨fun h => absurd h hx, fun h => ?_⟩
                             cases b <;> cases h
                         · refine Ev.call rfl tab11 ?_
                           simp -implicitDefEqProofs (disch := omega) only [F11, go_sem, ↓reduceIte, reduceCtorEq, Nat.reduceAdd, Nat.reduceSub, Nat.reduceEqDiff, Nat.reduceLeDiff, Nat.reduceBEq]
                           (refine Ev.bind (s1) ?_; simp -implicitDefEqProofs (disch := omega) only [cellsZ, foldZ, flatZ, go_sem, ↓reduceIte, reduceCtorEq, Nat.reduceAdd, Nat.reduceSub, Nat.reduceEqDiff, Nat.reduceLeDiff, Nat.reduceBEq]; refine Ev.bind (s2) ?_; simp -implicitDefEqProofs (disch := omega) only [cellsZ, foldZ, flatZ, go_sem, ↓reduceIte, reduceCtorEq, Nat.reduceAdd, Nat.reduceSub, Nat.reduceEqDiff, Nat.reduceLeDiff, Nat.reduceBEq]; refine Ev.bind (awake_ev) ?_; simp -implicitDefEqProofs (disch := omega) only [cellsZ, foldZ, flatZ, go_sem, ↓reduceIte, reduceCtorEq, Nat.reduceAdd, Nat.reduceSub, Nat.reduceEqDiff, Nat.reduceLeDiff, Nat.reduceBEq])
                           exact Ev.ret _
                       · rw [decide_eq_true (by omega)] at s1
                         rw [decide_eq_false (by omega)] at s2
                         refine Ev.call rfl tab11 ?_
                         simp -implicitDefEqProofs (disch := omega) only [F11, go_sem, ↓reduceIte, reduceCtorEq, Nat.reduceAdd, Nat.reduceSub, Nat.reduceEqDiff, Nat.reduceLeDiff, Nat.reduceBEq]
                         (refine Ev.bind (s1) ?_; simp -implicitDefEqProofs (disch := omega) only [cellsZ, foldZ, flatZ, go_sem, ↓reduceIte, reduceCtorEq, Nat.reduceAdd, Nat.reduceSub, Nat.reduceEqDiff, Nat.reduceLeDiff, Nat.reduceBEq]; refine Ev.bind (s2) ?_; simp -implicitDefEqProofs (disch := omega) only [cellsZ, foldZ, flatZ, go_sem, ↓reduceIte, reduceCtorEq, Nat.reduceAdd, Nat.reduceSub, Nat.reduceEqDiff, Nat.reduceLeDiff, Nat.reduceBEq]; refine Ev.bind (awake_ev) ?_; simp -implicitDefEqProofs (disch := omega) only [cellsZ, foldZ, flatZ, go_sem, ↓reduceIte, reduceCtorEq, Nat.reduceAdd, Nat.reduceSub, Nat.reduceEqDiff, Nat.reduceLeDiff, Nat.reduceBEq])
                         exact Ev.ret _
                     · rw [decide_eq_false (by omega)] at s1
                       refine Ev.call rfl tab11 ?_
                       simp -implicitDefEqProofs (disch := omega) only [F11, go_sem, ↓reduceIte, reduceCtorEq, Nat.reduceAdd, Nat.reduceSub, Nat.reduceEqDiff, Nat.reduceLeDiff, Nat.reduceBEq]
                       (refine Ev.bind (s1) ?_; simp -implicitDefEqProofs (disch := omega) only [cellsZ, foldZ, flatZ, go_sem, ↓reduceIte, reduceCtorEq, Nat.reduceAdd, Nat.reduceSub, Nat.reduceEqDiff, Nat.reduceLeDiff, Nat.reduceBEq]; refine Ev.bind (awake_ev) ?_; simp -implicitDefEqProofs (disch := omega) only [cellsZ, foldZ, flatZ, go_sem, ↓reduceIte, reduceCtorEq, Nat.reduceAdd, Nat.reduceSub, Nat.reduceEqDiff, Nat.reduceLeDiff, Nat.reduceBEq])
                       exact Ev.ret _
end Go.Proofs.Ytkeipmkiilimeaa.V
namespace Go.Proofs.Ytkeipmkiilimeaa.integerForms
open Go.ChangeShapes Go.WideShapes Go.ChangeAt Go.RowKit
set_option linter.unusedVariables false
theorem own : ownKnob Try.prog.godebug = none := by kernel_rfl
theorem laidOut : laidOutB Try.prog = true := by kernel_rfl
set_option maxRecDepth 100000 in
theorem lifted (os : Os) (started : os.Started) (H : Type) (enc : TypeId × Value → H) :
  ReturnsInHanded {} Try.checked os 11 .any (Rows.integerFormsSpec.pre6 enc Try.prog Try.f11 Rows.integerFormsRow.domain false) (Rows.integerFormsSpec.post enc Try.prog Try.f11 false true false false) := by
 refine returnsInHanded_of_change (C := Try.checked) own started (by kernel_rfl) Try.func11
  (ChangeSpec.witness6 (enc := enc) (C := Try.checked) false ⟨#[], #[.agg #[.bool false, .slice none 0 0], .agg #[.bool false, .slice none 0 0], .int .u8 0], []⟩ 8 (by kernel_rfl) (by kernel_rfl) (by kernel_rfl) (by kernel_rfl)) ?_
 intro W base args ds gs before hval0 hW hcnd _
 have hval : ∀ (j : Nat) t v, Try.f11.params[j]? = some t → args[j]? = some v → Value.okWide Try.prog W .any base t v := hval0
 have hW' := hW
 obtain ⟨p, q, hA0, hV, rfl, hfz, hnd⟩ := hW
 have hA : DataW.TrodAll enc Try.prog W 0 (fun _ => true) true Try.f11.params.toList args.toList ds p := hA0
 rw [Try.params11] at hA hval
 have call := V.law_sound V.mixed V.tab_ok V.ext_ok (L := [25, 4, 23, 46, 5]) (f := 11) (by kernel_rfl) (by decide) (ts := [25, 25, 5]) (by kernel_rfl) V.pureIntegerForms (fun j t v h1 h2 => hval j t v (by simpa using h1) h2) hA
 obtain ⟨v0, vs0, d0, ds0, p0, q0, hargs, rfl, rfl, h0, r0⟩ := trodAll_cons hA
 obtain ⟨v1, vs1, d1, ds1, p1, q1, rfl, rfl, rfl, h1, r1⟩ := trodAll_cons r0
 obtain ⟨v2, vs2, d2, ds2, p2, q2, rfl, rfl, rfl, h2, r2⟩ := trodAll_cons r1
 obtain ⟨rfl, rfl, rfl⟩ := trodAll_nil r2
 have lt0 : ∀ x ∈ p0, x.block < W.heap.size := by
  obtain ⟨m, hm⟩ := h0
  exact DataW.trod_lt m _ _ _ hm
 have lt1 : ∀ x ∈ p1, x.block < W.heap.size := by
  obtain ⟨m, hm⟩ := h1
  exact DataW.trod_lt m _ _ _ hm
 have lt2 : ∀ x ∈ p2, x.block < W.heap.size := by
  obtain ⟨m, hm⟩ := h2
  exact DataW.trod_lt m _ _ _ hm
 obtain ⟨rfl, rfl⟩ := trodVars_none hV
 refine call.mono fun e W' ⟨he, bel⟩ => ?_
 subst he
 exact ⟨_, rfl, _, _, _, [], _, [], hW', trodAll_mk1 (shut_bool Try.underlying4 _), by rw [hargs]; exact (trodAll_cons_mk (Below.trod laidOut (by kernel_rfl) (of_decide_eq_true (by kernel_rfl)) h0 bel lt0) (trodAll_cons_mk (Below.trod laidOut (by kernel_rfl) (of_decide_eq_true (by kernel_rfl)) h1 bel lt1) (trodAll_cons_mk (Below.trod laidOut (by kernel_rfl) (of_decide_eq_true (by kernel_rfl)) h2 bel lt2) trodAll_mk0))), rfl, bel.frame _, fun h => by cases h⟩
theorem over : Rows.integerFormsRow.holds Try.pinned (OpenSpec.ofChange Rows.integerFormsSpec) :=
 OpenClaim.holds_of_wide 11 Try.f11 rfl rfl rfl rfl rfl rfl rfl ⟨rfl, rfl, rfl, rfl, rfl⟩ rfl rfl rfl rfl rfl (by kernel_rfl) Try.func11 (by kernel_rfl)
  (of_decide_eq_true (by kernel_rfl)) (by unfold Func.isWrapper; first | (rw [if_pos (by decide +kernel)]; kernel_rfl) | (rw [if_neg (by decide +kernel)]; exact ⟨rfl, rfl⟩))
  (fun os started H enc _ => lifted os started H enc)
theorem proved : Rows.IntegerFormsSaid := over
#print axioms proved
end Go.Proofs.Ytkeipmkiilimeaa.integerForms
namespace Go.Proofs.Ytkeipmkiilimeaa
/-- The row, under a short name, for the claim. -/
theorem integerForms_holds : Rows.IntegerFormsSaid := integerForms.proved
end Go.Proofs.Ytkeipmkiilimeaa
