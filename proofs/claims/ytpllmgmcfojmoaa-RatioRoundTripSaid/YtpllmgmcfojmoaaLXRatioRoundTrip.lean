/- RatioRoundTrip: what Text wrote is read back, for ratios of at most 30 limbs with at most 200 digits above and below (else the chapter's examples).
The statement RatioRoundTripSaid, out of its Pure. -/
import Derived.Test.YtpllmgmcfojmoaaKH
import Derived.Test.YtpllmgmcfojmoaaRows
import Derived.WalkKit
import Derived.ProofKit
import Derived.OpenShut
import Derived.ChangeOld
import Derived.Below

set_option linter.unusedSimpArgs false
set_option linter.unusedVariables false
namespace Go.Proofs.Ytpllmgmcfojmoaa.V
open Go Go.Proofs.Ytpllmgmcfojmoaa.M
theorem pureRatioRoundTrip : PureQ [27] 8 := by
  refine pureQ1 (by kernel_rfl) fun b l d hl hd => ?_
  by_cases hs : l.length ≤ 30 ∧ d.length ≤ 30
  · obtain ⟨ia, sa⟩ := isq_mk (b := b) hl hd hs.1 hs.2 (by decide) (by decide)
    have sh := light_t (b := b) hs (m := 30) rfl
    generalize rv b l d = x at *
    have n := qnorm_ev ia
    have q1 : (absL x.num).length ≤ 30 := sa.1
    have q2 : (denL x).length ≤ 30 := sa.2
    have t1 := rtext_ev (lim_abs x.num) (by omega)
    have t2 := rtext_ev (lim_den x) (by omega)
    rw [val_abs] at t1
    rw [val_den] at t2
    have l1 := textN_len x.num.natAbs
    have l2 := textN_len x.den
    have l1' := sa.1
    have l2' := sa.2
    by_cases h1 : (textN x.num.natAbs).length ≤ 200
    · by_cases h2 : (textN x.den).length ≤ 200
      · obtain ⟨p1, p2⟩ := parse_text h1 h2
        have lt : (textQ x).length ≤ 1000 := by
          unfold textQ textZ
          split <;> split <;> (try simp only [List.length_append, List.length_cons]) <;> omega
        have t := qtext_ev ia
        have p := qparse_ev (textQ x) (by omega)
        unfold qP at p
        rw [if_pos p1, p1, p2] at p
        clear p1 p2 l1 l2 l1' l2'
        generalize textN x.num.natAbs = T1 at *
        generalize textN x.den = T2 at *
        generalize textQ x = T at *
        refine Ev.call rfl tab8 ?_
        simp -implicitDefEqProofs (disch := omega) only [F8, go_sem, ↓reduceIte, reduceCtorEq, Nat.reduceAdd, Nat.reduceSub, Nat.reduceEqDiff, Nat.reduceLeDiff, Nat.reduceBEq]
        (refine Ev.bind (sh) ?_; simp -implicitDefEqProofs (disch := omega) only [go_sem, ↓reduceIte, reduceCtorEq, Nat.reduceAdd, Nat.reduceSub, Nat.reduceEqDiff, Nat.reduceLeDiff, Nat.reduceBEq]; refine Ev.bind (n) ?_; simp -implicitDefEqProofs (disch := omega) only [go_sem, ↓reduceIte, reduceCtorEq, Nat.reduceAdd, Nat.reduceSub, Nat.reduceEqDiff, Nat.reduceLeDiff, Nat.reduceBEq]; refine Ev.bind (t1) ?_; simp -implicitDefEqProofs (disch := omega) only [go_sem, ↓reduceIte, reduceCtorEq, Nat.reduceAdd, Nat.reduceSub, Nat.reduceEqDiff, Nat.reduceLeDiff, Nat.reduceBEq]; refine Ev.bind (t2) ?_; simp -implicitDefEqProofs (disch := omega) only [go_sem, ↓reduceIte, reduceCtorEq, Nat.reduceAdd, Nat.reduceSub, Nat.reduceEqDiff, Nat.reduceLeDiff, Nat.reduceBEq]; refine Ev.bind (t) ?_; simp -implicitDefEqProofs (disch := omega) only [go_sem, ↓reduceIte, reduceCtorEq, Nat.reduceAdd, Nat.reduceSub, Nat.reduceEqDiff, Nat.reduceLeDiff, Nat.reduceBEq]; refine Ev.bind (p) ?_; simp -implicitDefEqProofs (disch := omega) only [go_sem, ↓reduceIte, reduceCtorEq, Nat.reduceAdd, Nat.reduceSub, Nat.reduceEqDiff, Nat.reduceLeDiff, Nat.reduceBEq]; refine Ev.bind (sameQ sa (by decide)) ?_; simp -implicitDefEqProofs (disch := omega) only [go_sem, ↓reduceIte, reduceCtorEq, Nat.reduceAdd, Nat.reduceSub, Nat.reduceEqDiff, Nat.reduceLeDiff, Nat.reduceBEq]; refine Ev.bind (example3_ev) ?_; simp -implicitDefEqProofs (disch := omega) only [go_sem, ↓reduceIte, reduceCtorEq, Nat.reduceAdd, Nat.reduceSub, Nat.reduceEqDiff, Nat.reduceLeDiff, Nat.reduceBEq])
        exact Ev.ret _
      · generalize textN x.num.natAbs = T1 at *
        generalize textN x.den = T2 at *
        refine Ev.call rfl tab8 ?_
        simp -implicitDefEqProofs (disch := omega) only [F8, go_sem, ↓reduceIte, reduceCtorEq, Nat.reduceAdd, Nat.reduceSub, Nat.reduceEqDiff, Nat.reduceLeDiff, Nat.reduceBEq]
        (refine Ev.bind (sh) ?_; simp -implicitDefEqProofs (disch := omega) only [go_sem, ↓reduceIte, reduceCtorEq, Nat.reduceAdd, Nat.reduceSub, Nat.reduceEqDiff, Nat.reduceLeDiff, Nat.reduceBEq]; refine Ev.bind (n) ?_; simp -implicitDefEqProofs (disch := omega) only [go_sem, ↓reduceIte, reduceCtorEq, Nat.reduceAdd, Nat.reduceSub, Nat.reduceEqDiff, Nat.reduceLeDiff, Nat.reduceBEq]; refine Ev.bind (t1) ?_; simp -implicitDefEqProofs (disch := omega) only [go_sem, ↓reduceIte, reduceCtorEq, Nat.reduceAdd, Nat.reduceSub, Nat.reduceEqDiff, Nat.reduceLeDiff, Nat.reduceBEq]; refine Ev.bind (t2) ?_; simp -implicitDefEqProofs (disch := omega) only [go_sem, ↓reduceIte, reduceCtorEq, Nat.reduceAdd, Nat.reduceSub, Nat.reduceEqDiff, Nat.reduceLeDiff, Nat.reduceBEq]; refine Ev.bind (example3_ev) ?_; simp -implicitDefEqProofs (disch := omega) only [go_sem, ↓reduceIte, reduceCtorEq, Nat.reduceAdd, Nat.reduceSub, Nat.reduceEqDiff, Nat.reduceLeDiff, Nat.reduceBEq])
        exact Ev.ret _
    · generalize textN x.num.natAbs = T1 at *
      refine Ev.call rfl tab8 ?_
      simp -implicitDefEqProofs (disch := omega) only [F8, go_sem, ↓reduceIte, reduceCtorEq, Nat.reduceAdd, Nat.reduceSub, Nat.reduceEqDiff, Nat.reduceLeDiff, Nat.reduceBEq]
      (refine Ev.bind (sh) ?_; simp -implicitDefEqProofs (disch := omega) only [go_sem, ↓reduceIte, reduceCtorEq, Nat.reduceAdd, Nat.reduceSub, Nat.reduceEqDiff, Nat.reduceLeDiff, Nat.reduceBEq]; refine Ev.bind (n) ?_; simp -implicitDefEqProofs (disch := omega) only [go_sem, ↓reduceIte, reduceCtorEq, Nat.reduceAdd, Nat.reduceSub, Nat.reduceEqDiff, Nat.reduceLeDiff, Nat.reduceBEq]; refine Ev.bind (t1) ?_; simp -implicitDefEqProofs (disch := omega) only [go_sem, ↓reduceIte, reduceCtorEq, Nat.reduceAdd, Nat.reduceSub, Nat.reduceEqDiff, Nat.reduceLeDiff, Nat.reduceBEq]; refine Ev.bind (example3_ev) ?_; simp -implicitDefEqProofs (disch := omega) only [go_sem, ↓reduceIte, reduceCtorEq, Nat.reduceAdd, Nat.reduceSub, Nat.reduceEqDiff, Nat.reduceLeDiff, Nat.reduceBEq])
      exact Ev.ret _
  · have sh := light_f (b := b) hs (m := 30) rfl
    refine Ev.call rfl tab8 ?_
    simp -implicitDefEqProofs (disch := omega) only [F8, go_sem, ↓reduceIte, reduceCtorEq, Nat.reduceAdd, Nat.reduceSub, Nat.reduceEqDiff, Nat.reduceLeDiff, Nat.reduceBEq]
    (refine Ev.bind (sh) ?_; simp -implicitDefEqProofs (disch := omega) only [go_sem, ↓reduceIte, reduceCtorEq, Nat.reduceAdd, Nat.reduceSub, Nat.reduceEqDiff, Nat.reduceLeDiff, Nat.reduceBEq]; refine Ev.bind (example3_ev) ?_; simp -implicitDefEqProofs (disch := omega) only [go_sem, ↓reduceIte, reduceCtorEq, Nat.reduceAdd, Nat.reduceSub, Nat.reduceEqDiff, Nat.reduceLeDiff, Nat.reduceBEq])
    exact Ev.ret _
end Go.Proofs.Ytpllmgmcfojmoaa.V
namespace Go.Proofs.Ytpllmgmcfojmoaa.ratioRoundTrip
open Go.ChangeShapes Go.WideShapes Go.ChangeAt Go.RowKit
set_option linter.unusedVariables false
theorem own : ownKnob Try.prog.godebug = none := by kernel_rfl
theorem laidOut : laidOutB Try.prog = true := by kernel_rfl
set_option maxRecDepth 100000 in
theorem lifted (os : Os) (started : os.Started) (H : Type) (enc : TypeId × Value → H) :
  ReturnsInHanded {} Try.checked os 8 .any (Rows.ratioRoundTripSpec.pre6 enc Try.prog Try.f8 Rows.ratioRoundTripRow.domain false) (Rows.ratioRoundTripSpec.post enc Try.prog Try.f8 false true false false) := by
 refine returnsInHanded_of_change (C := Try.checked) own started (by kernel_rfl) Try.func8
  (ChangeSpec.witness6 (enc := enc) (C := Try.checked) false ⟨#[], #[.agg #[.bool false, .slice none 0 0, .slice none 0 0]], []⟩ 8 (by kernel_rfl) (by kernel_rfl) (by kernel_rfl) (by kernel_rfl)) ?_
 intro W base args ds gs before hval0 hW hcnd _
 have hval : ∀ (j : Nat) t v, Try.f8.params[j]? = some t → args[j]? = some v → Value.okWide Try.prog W .any base t v := hval0
 have hW' := hW
 obtain ⟨p, q, hA0, hV, rfl, hfz, hnd⟩ := hW
 have hA : DataW.TrodAll enc Try.prog W 0 (fun _ => true) true Try.f8.params.toList args.toList ds p := hA0
 rw [Try.params8] at hA hval
 have call := V.law_sound V.mixed V.tab_ok V.ext_ok (L := [27, 25, 4, 23, 42]) (f := 8) (by kernel_rfl) (by decide) (ts := [27]) (by kernel_rfl) V.pureRatioRoundTrip (fun j t v h1 h2 => hval j t v (by simpa using h1) h2) hA
 obtain ⟨v0, vs0, d0, ds0, p0, q0, hargs, rfl, rfl, h0, r0⟩ := trodAll_cons hA
 obtain ⟨rfl, rfl, rfl⟩ := trodAll_nil r0
 have lt0 : ∀ x ∈ p0, x.block < W.heap.size := by
  obtain ⟨m, hm⟩ := h0
  exact DataW.trod_lt m _ _ _ hm
 obtain ⟨rfl, rfl⟩ := trodVars_none hV
 refine call.mono fun e W' ⟨he, bel⟩ => ?_
 subst he
 exact ⟨_, rfl, _, _, _, [], _, [], hW', trodAll_mk1 (shut_bool Try.underlying4 _), by rw [hargs]; exact (trodAll_cons_mk (Below.trod laidOut (by kernel_rfl) (of_decide_eq_true (by kernel_rfl)) h0 bel lt0) trodAll_mk0), rfl, bel.frame _, fun h => by cases h⟩
theorem over : Rows.ratioRoundTripRow.holds Try.pinned (OpenSpec.ofChange Rows.ratioRoundTripSpec) :=
 OpenClaim.holds_of_wide 8 Try.f8 rfl rfl rfl rfl rfl rfl rfl ⟨rfl, rfl, rfl, rfl, rfl⟩ rfl rfl rfl rfl rfl (by kernel_rfl) Try.func8 (by kernel_rfl)
  (of_decide_eq_true (by kernel_rfl)) (by unfold Func.isWrapper; first | (rw [if_pos (by decide +kernel)]; kernel_rfl) | (rw [if_neg (by decide +kernel)]; exact ⟨rfl, rfl⟩))
  (fun os started H enc _ => lifted os started H enc)
theorem proved : Rows.RatioRoundTripSaid := over
#print axioms proved
end Go.Proofs.Ytpllmgmcfojmoaa.ratioRoundTrip
namespace Go.Proofs.Ytpllmgmcfojmoaa
/-- The row, under a short name, for the claim. -/
theorem ratioRoundTrip_holds : Rows.RatioRoundTripSaid := ratioRoundTrip.proved
end Go.Proofs.Ytpllmgmcfojmoaa
