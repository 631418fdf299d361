/- IntegerRoundTrip: Parse of the notation of an integer of at most 40 limbs returns it, or an error if it has more than 200 digits (else the chapter's examples).
The statement IntegerRoundTripSaid, out of its Pure. -/
import Derived.Test.YtkeipmkiilimeaaKH
import Derived.Test.YtkeipmkiilimeaaRows
import Derived.WalkKit
import Derived.ProofKit
import Derived.OpenShut
import Derived.ChangeOld
import Derived.Below

set_option linter.unusedSimpArgs false
set_option linter.unusedVariables false
namespace Go.Proofs.Ytkeipmkiilimeaa.V
open Go Go.Proofs.Ytkeipmkiilimeaa.M
theorem minus_text (n : Nat) : minus (textN n) = false := by
  unfold minus
  have := (good_text n).2.1 0 (textN_pos n)
  unfold dg at this
  rw [decide_eq_false (by omega), Bool.false_and]
theorem zE_text (x : Int) : minus (textZ x) = decide (x < 0) ∧ body (textZ x) = textN x.natAbs := by
  unfold textZ
  by_cases h : x < 0
  · rw [if_pos h, decide_eq_true h]
    have : minus (45 :: textN x.natAbs) = true := by
      unfold minus
      rw [show bt (45 :: textN x.natAbs) 0 = 45 from rfl, List.length_cons, decide_eq_true rfl, decide_eq_true (Nat.succ_pos _)]; rfl
    refine ⟨this, ?_⟩
    unfold body
    rw [this]; rfl
  · rw [if_neg h, decide_eq_false h]
    refine ⟨minus_text _, ?_⟩
    unfold body
    rw [minus_text]; rfl
theorem pureIntegerRoundTrip : PureOf [25] 10 := by
  refine pureZ fun b l hl => ?_
  have s1 := short_ev (b := b) (l := l) (n := 40)
  by_cases h1 : l.length ≤ 40
  · rw [decide_eq_true (by omega)] at s1
    obtain ⟨ia, sa⟩ := isz_mk (b := b) hl h1 (by decide)
    generalize iv b l = x at *
    have tx := ztext_ev ia
    obtain ⟨em, eb⟩ := zE_text x
    have hg := good_text x.natAbs
    have hn := num_text x.natAbs
    have tl := textN_len x.natAbs
    have tp := textN_pos x.natAbs
    have hd := hg.2.1 0 tp
    unfold dg at hd
    have sa' : (ofN x.natAbs).length ≤ 40 := sa
    have hlen : (textZ x).length = (textN x.natAbs).length + (if x < 0 then 1 else 0) := by
      unfold textZ
      split
      · rw [List.length_cons]
      · rw [Nat.add_zero]
    have hfirst : bt (textZ x) 0 = if x < 0 then 45 else bt (textN x.natAbs) 0 := by
      unfold textZ
      split
      · rfl
      · rfl
    have hE : zE (textZ x) = if (textN x.natAbs).length ≤ 200 then 0 else 5 := by
      unfold zE
      rw [eb, em]
      split
      · rw [hn]; exact if_neg (fun h => by have := of_decide_eq_true h.1; omega)
      · rfl
    have hN : (textN x.natAbs).length ≤ 200 → zN (textZ x) = x := by
      intro h
      unfold zN
      rw [hE, if_pos h, if_pos rfl, eb, em, hn]
      by_cases hx : x < 0
      · rw [decide_eq_true hx, if_pos rfl]; omega
      · rw [decide_eq_false hx, if_neg (by decide)]; omega
    have hN0 : ¬ (textN x.natAbs).length ≤ 200 → zN (textZ x) = 0 := by
      intro h
      unfold zN
      rw [hE, if_neg h, if_neg (by decide)]
    have pz := zparse_ev (textZ x) (by rw [hlen]; split <;> omega)
    have ebt : (((textZ x).getD 0 0).toNat : Int) = bt (textZ x) 0 := rfl
    rw [hE] at pz
    clear hE em eb hg hn
    have st := sameT sa (by decide)
    have s0 : Sz 1 0 := by unfold Sz; rw [show (0 : Int).natAbs = 0 from rfl, ofN_zero]; decide
    have st2 : Ev (fun k => (lvl tab ext k).call 16 [.pv (ofZ 0), .pv (.agg [.bool false, .ints .u32 []])]) [(.pv (.bool (true)))] := by rw [← ofZ_nought]; exact sameT s0 (by decide)
    have nz := znorm_ev ia
    have tz := ztext_ev (isZ_of (sz9 sa (by decide)))
    by_cases h2 : (textN x.natAbs).length ≤ 200
    · rw [hN h2, if_pos h2] at pz
      clear hN hN0
      by_cases hx : x < 0
      · rw [if_pos hx] at hlen hfirst
        generalize textZ x = s at *
        generalize (textN x.natAbs).length = L at *
        refine Ev.call rfl tab10 ?_
        simp -implicitDefEqProofs (disch := omega) only [F10, go_sem, ↓reduceIte, reduceCtorEq, Nat.reduceAdd, Nat.reduceSub, Nat.reduceEqDiff, Nat.reduceLeDiff, Nat.reduceBEq]
        (refine Ev.bind (s1) ?_; simp -implicitDefEqProofs (disch := omega) only [cellsZ, foldZ, go_sem, ↓reduceIte, reduceCtorEq, Nat.reduceAdd, Nat.reduceSub, Nat.reduceEqDiff, Nat.reduceLeDiff, Nat.reduceBEq])
        (refine Ev.bind tx ?_; simp -implicitDefEqProofs (disch := omega) only [cellsZ, foldZ, ebt, hfirst, go_sem, ↓reduceIte, reduceCtorEq, Nat.reduceAdd, Nat.reduceSub, Nat.reduceEqDiff, Nat.reduceLeDiff, Nat.reduceBEq])
        (refine Ev.bind (pz) ?_; simp -implicitDefEqProofs (disch := omega) only [cellsZ, foldZ, go_sem, ↓reduceIte, reduceCtorEq, Nat.reduceAdd, Nat.reduceSub, Nat.reduceEqDiff, Nat.reduceLeDiff, Nat.reduceBEq]; refine Ev.bind (nz) ?_; simp -implicitDefEqProofs (disch := omega) only [cellsZ, foldZ, go_sem, ↓reduceIte, reduceCtorEq, Nat.reduceAdd, Nat.reduceSub, Nat.reduceEqDiff, Nat.reduceLeDiff, Nat.reduceBEq]; refine Ev.bind (st) ?_; simp -implicitDefEqProofs (disch := omega) only [cellsZ, foldZ, go_sem, ↓reduceIte, reduceCtorEq, Nat.reduceAdd, Nat.reduceSub, Nat.reduceEqDiff, Nat.reduceLeDiff, Nat.reduceBEq]; refine Ev.bind (tz) ?_; simp -implicitDefEqProofs (disch := omega) only [cellsZ, foldZ, go_sem, ↓reduceIte, reduceCtorEq, Nat.reduceAdd, Nat.reduceSub, Nat.reduceEqDiff, Nat.reduceLeDiff, Nat.reduceBEq]; refine Ev.bind (awake_ev) ?_; simp -implicitDefEqProofs (disch := omega) only [cellsZ, foldZ, go_sem, ↓reduceIte, reduceCtorEq, Nat.reduceAdd, Nat.reduceSub, Nat.reduceEqDiff, Nat.reduceLeDiff, Nat.reduceBEq])
        exact Ev.ret _
      · rw [if_neg hx] at hlen hfirst
        generalize textZ x = s at *
        generalize (textN x.natAbs).length = L at *
        generalize bt (textN x.natAbs) 0 = c at *
        refine Ev.call rfl tab10 ?_
        simp -implicitDefEqProofs (disch := omega) only [F10, go_sem, ↓reduceIte, reduceCtorEq, Nat.reduceAdd, Nat.reduceSub, Nat.reduceEqDiff, Nat.reduceLeDiff, Nat.reduceBEq]
        (refine Ev.bind (s1) ?_; simp -implicitDefEqProofs (disch := omega) only [cellsZ, foldZ, go_sem, ↓reduceIte, reduceCtorEq, Nat.reduceAdd, Nat.reduceSub, Nat.reduceEqDiff, Nat.reduceLeDiff, Nat.reduceBEq])
        (refine Ev.bind tx ?_; simp -implicitDefEqProofs (disch := omega) only [cellsZ, foldZ, ebt, hfirst, go_sem, ↓reduceIte, reduceCtorEq, Nat.reduceAdd, Nat.reduceSub, Nat.reduceEqDiff, Nat.reduceLeDiff, Nat.reduceBEq])
        (refine Ev.bind (pz) ?_; simp -implicitDefEqProofs (disch := omega) only [cellsZ, foldZ, go_sem, ↓reduceIte, reduceCtorEq, Nat.reduceAdd, Nat.reduceSub, Nat.reduceEqDiff, Nat.reduceLeDiff, Nat.reduceBEq]; refine Ev.bind (nz) ?_; simp -implicitDefEqProofs (disch := omega) only [cellsZ, foldZ, go_sem, ↓reduceIte, reduceCtorEq, Nat.reduceAdd, Nat.reduceSub, Nat.reduceEqDiff, Nat.reduceLeDiff, Nat.reduceBEq]; refine Ev.bind (st) ?_; simp -implicitDefEqProofs (disch := omega) only [cellsZ, foldZ, go_sem, ↓reduceIte, reduceCtorEq, Nat.reduceAdd, Nat.reduceSub, Nat.reduceEqDiff, Nat.reduceLeDiff, Nat.reduceBEq]; refine Ev.bind (tz) ?_; simp -implicitDefEqProofs (disch := omega) only [cellsZ, foldZ, go_sem, ↓reduceIte, reduceCtorEq, Nat.reduceAdd, Nat.reduceSub, Nat.reduceEqDiff, Nat.reduceLeDiff, Nat.reduceBEq]; refine Ev.bind (awake_ev) ?_; simp -implicitDefEqProofs (disch := omega) only [cellsZ, foldZ, go_sem, ↓reduceIte, reduceCtorEq, Nat.reduceAdd, Nat.reduceSub, Nat.reduceEqDiff, Nat.reduceLeDiff, Nat.reduceBEq])
        exact Ev.ret _
    · rw [hN0 h2, if_neg h2] at pz
      clear hN hN0
      by_cases hx : x < 0
      · rw [if_pos hx] at hlen hfirst
        generalize textZ x = s at *
        generalize (textN x.natAbs).length = L at *
        refine Ev.call rfl tab10 ?_
        simp -implicitDefEqProofs (disch := omega) only [F10, go_sem, ↓reduceIte, reduceCtorEq, Nat.reduceAdd, Nat.reduceSub, Nat.reduceEqDiff, Nat.reduceLeDiff, Nat.reduceBEq]
        (refine Ev.bind (s1) ?_; simp -implicitDefEqProofs (disch := omega) only [cellsZ, foldZ, go_sem, ↓reduceIte, reduceCtorEq, Nat.reduceAdd, Nat.reduceSub, Nat.reduceEqDiff, Nat.reduceLeDiff, Nat.reduceBEq])
        (refine Ev.bind tx ?_; simp -implicitDefEqProofs (disch := omega) only [cellsZ, foldZ, ebt, hfirst, go_sem, ↓reduceIte, reduceCtorEq, Nat.reduceAdd, Nat.reduceSub, Nat.reduceEqDiff, Nat.reduceLeDiff, Nat.reduceBEq])
        (refine Ev.bind (pz) ?_; simp -implicitDefEqProofs (disch := omega) only [cellsZ, foldZ, go_sem, ↓reduceIte, reduceCtorEq, Nat.reduceAdd, Nat.reduceSub, Nat.reduceEqDiff, Nat.reduceLeDiff, Nat.reduceBEq]; refine Ev.bind (st2) ?_; simp -implicitDefEqProofs (disch := omega) only [cellsZ, foldZ, go_sem, ↓reduceIte, reduceCtorEq, Nat.reduceAdd, Nat.reduceSub, Nat.reduceEqDiff, Nat.reduceLeDiff, Nat.reduceBEq]; refine Ev.bind (awake_ev) ?_; simp -implicitDefEqProofs (disch := omega) only [cellsZ, foldZ, go_sem, ↓reduceIte, reduceCtorEq, Nat.reduceAdd, Nat.reduceSub, Nat.reduceEqDiff, Nat.reduceLeDiff, Nat.reduceBEq])
        exact Ev.ret _
      · rw [if_neg hx] at hlen hfirst
        generalize textZ x = s at *
        generalize (textN x.natAbs).length = L at *
        generalize bt (textN x.natAbs) 0 = c at *
        refine Ev.call rfl tab10 ?_
        simp -implicitDefEqProofs (disch := omega) only [F10, go_sem, ↓reduceIte, reduceCtorEq, Nat.reduceAdd, Nat.reduceSub, Nat.reduceEqDiff, Nat.reduceLeDiff, Nat.reduceBEq]
        (refine Ev.bind (s1) ?_; simp -implicitDefEqProofs (disch := omega) only [cellsZ, foldZ, go_sem, ↓reduceIte, reduceCtorEq, Nat.reduceAdd, Nat.reduceSub, Nat.reduceEqDiff, Nat.reduceLeDiff, Nat.reduceBEq])
        (refine Ev.bind tx ?_; simp -implicitDefEqProofs (disch := omega) only [cellsZ, foldZ, ebt, hfirst, go_sem, ↓reduceIte, reduceCtorEq, Nat.reduceAdd, Nat.reduceSub, Nat.reduceEqDiff, Nat.reduceLeDiff, Nat.reduceBEq])
        (refine Ev.bind (pz) ?_; simp -implicitDefEqProofs (disch := omega) only [cellsZ, foldZ, go_sem, ↓reduceIte, reduceCtorEq, Nat.reduceAdd, Nat.reduceSub, Nat.reduceEqDiff, Nat.reduceLeDiff, Nat.reduceBEq]; refine Ev.bind (st2) ?_; simp -implicitDefEqProofs (disch := omega) only [cellsZ, foldZ, go_sem, ↓reduceIte, reduceCtorEq, Nat.reduceAdd, Nat.reduceSub, Nat.reduceEqDiff, Nat.reduceLeDiff, Nat.reduceBEq]; refine Ev.bind (awake_ev) ?_; simp -implicitDefEqProofs (disch := omega) only [cellsZ, foldZ, go_sem, ↓reduceIte, reduceCtorEq, Nat.reduceAdd, Nat.reduceSub, Nat.reduceEqDiff, Nat.reduceLeDiff, Nat.reduceBEq])
        exact Ev.ret _
  · rw [decide_eq_false (by omega)] at s1
    refine Ev.call rfl tab10 ?_
    simp -implicitDefEqProofs (disch := omega) only [F10, go_sem, ↓reduceIte, reduceCtorEq, Nat.reduceAdd, Nat.reduceSub, Nat.reduceEqDiff, Nat.reduceLeDiff, Nat.reduceBEq]
    (refine Ev.bind (s1) ?_; simp -implicitDefEqProofs (disch := omega) only [cellsZ, foldZ, go_sem, ↓reduceIte, reduceCtorEq, Nat.reduceAdd, Nat.reduceSub, Nat.reduceEqDiff, Nat.reduceLeDiff, Nat.reduceBEq]; refine Ev.bind (awake_ev) ?_; simp -implicitDefEqProofs (disch := omega) only [cellsZ, foldZ, go_sem, ↓reduceIte, reduceCtorEq, Nat.reduceAdd, Nat.reduceSub, Nat.reduceEqDiff, Nat.reduceLeDiff, Nat.reduceBEq])
    exact Ev.ret _
end Go.Proofs.Ytkeipmkiilimeaa.V
namespace Go.Proofs.Ytkeipmkiilimeaa.integerRoundTrip
open Go.ChangeShapes Go.WideShapes Go.ChangeAt Go.RowKit
set_option linter.unusedVariables false
theorem own : ownKnob Try.prog.godebug = none := by kernel_rfl
theorem laidOut : laidOutB Try.prog = true := by kernel_rfl
set_option maxRecDepth 100000 in
theorem lifted (os : Os) (started : os.Started) (H : Type) (enc : TypeId × Value → H) :
  ReturnsInHanded {} Try.checked os 10 .any (Rows.integerRoundTripSpec.pre6 enc Try.prog Try.f10 Rows.integerRoundTripRow.domain false) (Rows.integerRoundTripSpec.post enc Try.prog Try.f10 false true false false) := by
 refine returnsInHanded_of_change (C := Try.checked) own started (by kernel_rfl) Try.func10
  (ChangeSpec.witness6 (enc := enc) (C := Try.checked) false ⟨#[], #[.agg #[.bool false, .slice none 0 0]], []⟩ 8 (by kernel_rfl) (by kernel_rfl) (by kernel_rfl) (by kernel_rfl)) ?_
 intro W base args ds gs before hval0 hW hcnd _
 have hval : ∀ (j : Nat) t v, Try.f10.params[j]? = some t → args[j]? = some v → Value.okWide Try.prog W .any base t v := hval0
 have hW' := hW
 obtain ⟨p, q, hA0, hV, rfl, hfz, hnd⟩ := hW
 have hA : DataW.TrodAll enc Try.prog W 0 (fun _ => true) true Try.f10.params.toList args.toList ds p := hA0
 rw [Try.params10] at hA hval
 have call := V.law_sound V.mixed V.tab_ok V.ext_ok (L := [25, 4, 23, 46]) (f := 10) (by kernel_rfl) (by decide) (ts := [25]) (by kernel_rfl) V.pureIntegerRoundTrip (fun j t v h1 h2 => hval j t v (by simpa using h1) h2) hA
 obtain ⟨v0, vs0, d0, ds0, p0, q0, hargs, rfl, rfl, h0, r0⟩ := trodAll_cons hA
 obtain ⟨rfl, rfl, rfl⟩ := trodAll_nil r0
 have lt0 : ∀ x ∈ p0, x.block < W.heap.size := by
  obtain ⟨m, hm⟩ := h0
  exact DataW.trod_lt m _ _ _ hm
 obtain ⟨rfl, rfl⟩ := trodVars_none hV
 refine call.mono fun e W' ⟨he, bel⟩ => ?_
 subst he
 exact ⟨_, rfl, _, _, _, [], _, [], hW', trodAll_mk1 (shut_bool Try.underlying4 _), by rw [hargs]; exact (trodAll_cons_mk (Below.trod laidOut (by kernel_rfl) (of_decide_eq_true (by kernel_rfl)) h0 bel lt0) trodAll_mk0), rfl, bel.frame _, fun h => by cases h⟩
theorem over : Rows.integerRoundTripRow.holds Try.pinned (OpenSpec.ofChange Rows.integerRoundTripSpec) :=
 OpenClaim.holds_of_wide 10 Try.f10 rfl rfl rfl rfl rfl rfl rfl ⟨rfl, rfl, rfl, rfl, rfl⟩ rfl rfl rfl rfl rfl (by kernel_rfl) Try.func10 (by kernel_rfl)
  (of_decide_eq_true (by kernel_rfl)) (by unfold Func.isWrapper; first | (rw [if_pos (by decide +kernel)]; kernel_rfl) | (rw [if_neg (by decide +kernel)]; exact ⟨rfl, rfl⟩))
  (fun os started H enc _ => lifted os started H enc)
theorem proved : Rows.IntegerRoundTripSaid := over
#print axioms proved
end Go.Proofs.Ytkeipmkiilimeaa.integerRoundTrip
namespace Go.Proofs.Ytkeipmkiilimeaa
/-- The row, under a short name, for the claim. -/
theorem integerRoundTrip_holds : Rows.IntegerRoundTripSaid := integerRoundTrip.proved
end Go.Proofs.Ytkeipmkiilimeaa
