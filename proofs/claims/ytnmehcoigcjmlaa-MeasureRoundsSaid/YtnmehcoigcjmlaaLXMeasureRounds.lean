/- MeasureRounds: Units differs from a ratio of at most 24 limbs by at most a half, is negated with it, and is refused only beyond the limit (else the chapter's examples).
The statement MeasureRoundsSaid, out of its Pure. -/
import Derived.Test.YtnmehcoigcjmlaaKI
import Derived.Test.YtnmehcoigcjmlaaRows
import Derived.WalkKit
import Derived.ProofKit
import Derived.OpenShut
import Derived.ChangeOld
import Derived.Below

set_option linter.unusedSimpArgs false
set_option linter.unusedVariables false
namespace Go.Proofs.Ytnmehcoigcjmlaa.V
open Go Go.Proofs.Ytnmehcoigcjmlaa.M
theorem isQ_zero : IsQ zeroQ 0 := ⟨false, [], [], rfl, lim_nil, lim_nil, by decide, by decide, rv_zero (.inl rfl)⟩
theorem uB_neg (r : Rat) : uB (-r) = uB r := by
  unfold uB
  rw [rround_neg]
  exact decide_eq_decide.2 (by omega)
theorem lim_eq : Rat.divInt 2097153 2 = 1048576 + 1 / 2 := by rw [Rat.divInt_eq_div]; grind
theorem cast_le {z k : Int} (h : z ≤ k) : (z : Rat) ≤ (k : Rat) := Rat.intCast_le_intCast.2 h
theorem in_lim {r : Rat} (h : uB r = true) : r < 1048576 + 1 / 2 ∧ -r < 1048576 + 1 / 2 := by
  obtain ⟨p1, p2, p3, p4⟩ := rround_spec r
  obtain ⟨h1, h2⟩ := of_decide_eq_true h
  have g1 : (-1048576 : Rat) ≤ (rround r : Rat) := by have := cast_le h1; rwa [Rat.intCast_neg] at this
  have g2 : (rround r : Rat) ≤ 1048576 := cast_le h2
  generalize (rround r : Rat) = z at *
  generalize (1 / 2 : Rat) = hf at *
  constructor
  · by_cases e : z - r = -hf
    · have := p4 e; grind
    · grind
  · by_cases e : z - r = hf
    · have := p3 e; grind
    · grind
theorem out_lim {r : Rat} (h : ¬ uB r = true) : (r < 0 → 1048576 + 1 / 2 ≤ -r) ∧ (0 ≤ r → 1048576 + 1 / 2 ≤ r) := by
  obtain ⟨p1, p2, p3, p4⟩ := rround_spec r
  have hb : rround r ≤ -1048577 ∨ 1048577 ≤ rround r := by
    have : ¬ (-1048576 ≤ rround r ∧ rround r ≤ 1048576) := fun g => h (decide_eq_true g)
    omega
  have g : (rround r : Rat) ≤ -1048577 ∨ (1048577 : Rat) ≤ (rround r : Rat) := by
    rcases hb with hb | hb
    · left; have := cast_le hb; rwa [Rat.intCast_neg] at this
    · right; exact cast_le hb
  generalize (rround r : Rat) = z at *
  have e : (1 / 2 : Rat) + 1 / 2 = 1 := by grind
  have e0 : (0 : Rat) < 1 / 2 := by grind
  generalize (1 / 2 : Rat) = hf at *
  constructor
  · intro hr
    rcases g with g | g <;> grind
  · intro hr
    rcases g with g | g <;> grind
theorem pureMeasureRounds : PureQ [27] 8 := by
  refine pureQ1 (by kernel_rfl) fun b l d hl hd => ?_
  by_cases hs : l.length ≤ 24 ∧ d.length ≤ 24
  · obtain ⟨ia, sa⟩ := isq_mk (b := b) hl hd hs.1 hs.2 (by decide) (by decide)
    have sh := light_t (b := b) hs (m := 24) rfl
    generalize rv b l d = x at *
    have u1 := units_ev ia
    have ng := qneg_ev ia
    have sn := qz_neg sa
    have u2 := units_ev (isQn sn (by decide))
    rw [uB_neg, rround_neg] at u2
    have c0 : Ev (fun k => (lvl tab ext k).call 15 [.pv (QA b l d), .pv (.agg [.bool false, .ints .u32 [], .ints .u32 []])]) [(.pv (.int .i64 (rcmp x 0)))] := qcmp_ev ia isQ_zero
    have hlim := qof_ev (n := 2097153) (d := 2) (by decide) (by decide) (by decide)
    have szl := qz_of (n := 2097153) (d := 2) (by decide) (by decide)
    rw [lim_eq] at hlim szl
    have il := isQn szl (by decide)
    have q12 := q12_ev
    have ih := isQn qz_half (by decide)
    by_cases hu : uB x = true
    · rw [if_pos hu, if_pos hu] at u1 u2
      obtain ⟨b1, b2⟩ := in_lim hu
      have hz := of_decide_eq_true hu
      have ft : Fits (rround x) := ⟨by omega, by omega⟩
      have o1 := qn1_ev ft
      have iz := isQn (qz_n1 ft) (by decide)
      have dd := qsub_ev ia iz
      have sd := qz_sub sa (qz_n1 ft)
      have id := isQn sd (by decide)
      have nd := qneg_ev id
      have ind := isQn (qz_neg sd) (by decide)
      have c1 := qcmp_ev id ih
      have c2 := qcmp_ev ind ih
      obtain ⟨p1, p2, _, _⟩ := rround_spec x
      have f1 : rcmp (x - (rround x : Rat)) (1 / 2) ≤ 0 := rcmp_le.2 (by generalize (1 / 2 : Rat) = hf at *; grind)
      have f2 : rcmp (-(x - (rround x : Rat))) (1 / 2) ≤ 0 := rcmp_le.2 (by generalize (1 / 2 : Rat) = hf at *; grind)
      by_cases hx : rcmp x 0 < 0
      · have cl := qcmp_ev (isQn sn (by decide)) il
        have f3 : rcmp (-x) (1048576 + 1 / 2) < 0 := rcmp_neg.2 b2
        clear p1 p2 b1 b2
        generalize rcmp (x - (rround x : Rat)) (1 / 2) = k1 at *
        generalize rcmp (-(x - (rround x : Rat))) (1 / 2) = k2 at *
        generalize rcmp (-x) (1048576 + 1 / 2) = k3 at *
        generalize rcmp x 0 = k4 at *
        generalize (-(x - (rround x : Rat))) = R1 at *
        generalize (x - (rround x : Rat)) = R2 at *
        generalize (rround x : Rat) = R3 at *
        generalize rround x = z at *
        generalize (1048576 + 1 / 2 : Rat) = R4 at *
        generalize (1 / 2 : Rat) = R5 at *
        generalize -x = R6 at *
        refine Ev.call rfl tab8 ?_
        simp -implicitDefEqProofs (disch := omega) only [F8, go_sem, ↓reduceIte, reduceCtorEq, Nat.reduceAdd, Nat.reduceSub, Nat.reduceEqDiff, Nat.reduceLeDiff, Nat.reduceBEq]
        (refine Ev.bind (sh) ?_; simp -implicitDefEqProofs (disch := omega) only [go_sem, ↓reduceIte, reduceCtorEq, Nat.reduceAdd, Nat.reduceSub, Nat.reduceEqDiff, Nat.reduceLeDiff, Nat.reduceBEq]; refine Ev.bind (u1) ?_; simp -implicitDefEqProofs (disch := omega) only [go_sem, ↓reduceIte, reduceCtorEq, Nat.reduceAdd, Nat.reduceSub, Nat.reduceEqDiff, Nat.reduceLeDiff, Nat.reduceBEq]; refine Ev.bind (ng) ?_; simp -implicitDefEqProofs (disch := omega) only [go_sem, ↓reduceIte, reduceCtorEq, Nat.reduceAdd, Nat.reduceSub, Nat.reduceEqDiff, Nat.reduceLeDiff, Nat.reduceBEq]; refine Ev.bind (u2) ?_; simp -implicitDefEqProofs (disch := omega) only [go_sem, ↓reduceIte, reduceCtorEq, Nat.reduceAdd, Nat.reduceSub, Nat.reduceEqDiff, Nat.reduceLeDiff, Nat.reduceBEq]; refine Ev.bind (c0) ?_; simp -implicitDefEqProofs (disch := omega) only [go_sem, ↓reduceIte, reduceCtorEq, Nat.reduceAdd, Nat.reduceSub, Nat.reduceEqDiff, Nat.reduceLeDiff, Nat.reduceBEq]; refine Ev.bind (ng) ?_; simp -implicitDefEqProofs (disch := omega) only [go_sem, ↓reduceIte, reduceCtorEq, Nat.reduceAdd, Nat.reduceSub, Nat.reduceEqDiff, Nat.reduceLeDiff, Nat.reduceBEq]; refine Ev.bind (hlim) ?_; simp -implicitDefEqProofs (disch := omega) only [go_sem, ↓reduceIte, reduceCtorEq, Nat.reduceAdd, Nat.reduceSub, Nat.reduceEqDiff, Nat.reduceLeDiff, Nat.reduceBEq]; refine Ev.bind (o1) ?_; simp -implicitDefEqProofs (disch := omega) only [go_sem, ↓reduceIte, reduceCtorEq, Nat.reduceAdd, Nat.reduceSub, Nat.reduceEqDiff, Nat.reduceLeDiff, Nat.reduceBEq]; refine Ev.bind (q12) ?_; simp -implicitDefEqProofs (disch := omega) only [go_sem, ↓reduceIte, reduceCtorEq, Nat.reduceAdd, Nat.reduceSub, Nat.reduceEqDiff, Nat.reduceLeDiff, Nat.reduceBEq]; refine Ev.bind (dd) ?_; simp -implicitDefEqProofs (disch := omega) only [go_sem, ↓reduceIte, reduceCtorEq, Nat.reduceAdd, Nat.reduceSub, Nat.reduceEqDiff, Nat.reduceLeDiff, Nat.reduceBEq]; refine Ev.bind (cl) ?_; simp -implicitDefEqProofs (disch := omega) only [go_sem, ↓reduceIte, reduceCtorEq, Nat.reduceAdd, Nat.reduceSub, Nat.reduceEqDiff, Nat.reduceLeDiff, Nat.reduceBEq]; refine Ev.bind (c1) ?_; simp -implicitDefEqProofs (disch := omega) only [go_sem, ↓reduceIte, reduceCtorEq, Nat.reduceAdd, Nat.reduceSub, Nat.reduceEqDiff, Nat.reduceLeDiff, Nat.reduceBEq]; refine Ev.bind (nd) ?_; simp -implicitDefEqProofs (disch := omega) only [go_sem, ↓reduceIte, reduceCtorEq, Nat.reduceAdd, Nat.reduceSub, Nat.reduceEqDiff, Nat.reduceLeDiff, Nat.reduceBEq]; refine Ev.bind (c2) ?_; simp -implicitDefEqProofs (disch := omega) only [go_sem, ↓reduceIte, reduceCtorEq, Nat.reduceAdd, Nat.reduceSub, Nat.reduceEqDiff, Nat.reduceLeDiff, Nat.reduceBEq]; refine Ev.bind (alive4_ev) ?_; simp -implicitDefEqProofs (disch := omega) only [go_sem, ↓reduceIte, reduceCtorEq, Nat.reduceAdd, Nat.reduceSub, Nat.reduceEqDiff, Nat.reduceLeDiff, Nat.reduceBEq])
        exact Ev.ret _
      · have cl := qcmp_ev ia il
        have f3 : rcmp x (1048576 + 1 / 2) < 0 := rcmp_neg.2 b1
        clear p1 p2 b1 b2
        generalize rcmp (x - (rround x : Rat)) (1 / 2) = k1 at *
        generalize rcmp (-(x - (rround x : Rat))) (1 / 2) = k2 at *
        generalize rcmp x (1048576 + 1 / 2) = k3 at *
        generalize rcmp x 0 = k4 at *
        generalize (-(x - (rround x : Rat))) = R1 at *
        generalize (x - (rround x : Rat)) = R2 at *
        generalize (rround x : Rat) = R3 at *
        generalize rround x = z at *
        generalize (1048576 + 1 / 2 : Rat) = R4 at *
        generalize (1 / 2 : Rat) = R5 at *
        generalize -x = R6 at *
        refine Ev.call rfl tab8 ?_
        simp -implicitDefEqProofs (disch := omega) only [F8, go_sem, ↓reduceIte, reduceCtorEq, Nat.reduceAdd, Nat.reduceSub, Nat.reduceEqDiff, Nat.reduceLeDiff, Nat.reduceBEq]
        (refine Ev.bind (sh) ?_; simp -implicitDefEqProofs (disch := omega) only [go_sem, ↓reduceIte, reduceCtorEq, Nat.reduceAdd, Nat.reduceSub, Nat.reduceEqDiff, Nat.reduceLeDiff, Nat.reduceBEq]; refine Ev.bind (u1) ?_; simp -implicitDefEqProofs (disch := omega) only [go_sem, ↓reduceIte, reduceCtorEq, Nat.reduceAdd, Nat.reduceSub, Nat.reduceEqDiff, Nat.reduceLeDiff, Nat.reduceBEq]; refine Ev.bind (ng) ?_; simp -implicitDefEqProofs (disch := omega) only [go_sem, ↓reduceIte, reduceCtorEq, Nat.reduceAdd, Nat.reduceSub, Nat.reduceEqDiff, Nat.reduceLeDiff, Nat.reduceBEq]; refine Ev.bind (u2) ?_; simp -implicitDefEqProofs (disch := omega) only [go_sem, ↓reduceIte, reduceCtorEq, Nat.reduceAdd, Nat.reduceSub, Nat.reduceEqDiff, Nat.reduceLeDiff, Nat.reduceBEq]; refine Ev.bind (c0) ?_; simp -implicitDefEqProofs (disch := omega) only [go_sem, ↓reduceIte, reduceCtorEq, Nat.reduceAdd, Nat.reduceSub, Nat.reduceEqDiff, Nat.reduceLeDiff, Nat.reduceBEq]; refine Ev.bind (hlim) ?_; simp -implicitDefEqProofs (disch := omega) only [go_sem, ↓reduceIte, reduceCtorEq, Nat.reduceAdd, Nat.reduceSub, Nat.reduceEqDiff, Nat.reduceLeDiff, Nat.reduceBEq]; refine Ev.bind (o1) ?_; simp -implicitDefEqProofs (disch := omega) only [go_sem, ↓reduceIte, reduceCtorEq, Nat.reduceAdd, Nat.reduceSub, Nat.reduceEqDiff, Nat.reduceLeDiff, Nat.reduceBEq]; refine Ev.bind (q12) ?_; simp -implicitDefEqProofs (disch := omega) only [go_sem, ↓reduceIte, reduceCtorEq, Nat.reduceAdd, Nat.reduceSub, Nat.reduceEqDiff, Nat.reduceLeDiff, Nat.reduceBEq]; refine Ev.bind (dd) ?_; simp -implicitDefEqProofs (disch := omega) only [go_sem, ↓reduceIte, reduceCtorEq, Nat.reduceAdd, Nat.reduceSub, Nat.reduceEqDiff, Nat.reduceLeDiff, Nat.reduceBEq]; refine Ev.bind (cl) ?_; simp -implicitDefEqProofs (disch := omega) only [go_sem, ↓reduceIte, reduceCtorEq, Nat.reduceAdd, Nat.reduceSub, Nat.reduceEqDiff, Nat.reduceLeDiff, Nat.reduceBEq]; refine Ev.bind (c1) ?_; simp -implicitDefEqProofs (disch := omega) only [go_sem, ↓reduceIte, reduceCtorEq, Nat.reduceAdd, Nat.reduceSub, Nat.reduceEqDiff, Nat.reduceLeDiff, Nat.reduceBEq]; refine Ev.bind (nd) ?_; simp -implicitDefEqProofs (disch := omega) only [go_sem, ↓reduceIte, reduceCtorEq, Nat.reduceAdd, Nat.reduceSub, Nat.reduceEqDiff, Nat.reduceLeDiff, Nat.reduceBEq]; refine Ev.bind (c2) ?_; simp -implicitDefEqProofs (disch := omega) only [go_sem, ↓reduceIte, reduceCtorEq, Nat.reduceAdd, Nat.reduceSub, Nat.reduceEqDiff, Nat.reduceLeDiff, Nat.reduceBEq]; refine Ev.bind (alive4_ev) ?_; simp -implicitDefEqProofs (disch := omega) only [go_sem, ↓reduceIte, reduceCtorEq, Nat.reduceAdd, Nat.reduceSub, Nat.reduceEqDiff, Nat.reduceLeDiff, Nat.reduceBEq])
        exact Ev.ret _
    · rw [if_neg hu, if_neg hu] at u1 u2
      obtain ⟨b1, b2⟩ := out_lim hu
      by_cases hx : rcmp x 0 < 0
      · have cl := qcmp_ev (isQn sn (by decide)) il
        have f3 : 0 ≤ rcmp (-x) (1048576 + 1 / 2) := rcmp_nonneg.2 (b1 (rcmp_neg.1 hx))
        clear b1 b2
        generalize rcmp (-x) (1048576 + 1 / 2) = k3 at *
        generalize rcmp x 0 = k4 at *
        generalize (1048576 + 1 / 2 : Rat) = R4 at *
        generalize -x = R6 at *
        refine Ev.call rfl tab8 ?_
        simp -implicitDefEqProofs (disch := omega) only [F8, go_sem, ↓reduceIte, reduceCtorEq, Nat.reduceAdd, Nat.reduceSub, Nat.reduceEqDiff, Nat.reduceLeDiff, Nat.reduceBEq]
        (refine Ev.bind (sh) ?_; simp -implicitDefEqProofs (disch := omega) only [go_sem, ↓reduceIte, reduceCtorEq, Nat.reduceAdd, Nat.reduceSub, Nat.reduceEqDiff, Nat.reduceLeDiff, Nat.reduceBEq]; refine Ev.bind (u1) ?_; simp -implicitDefEqProofs (disch := omega) only [go_sem, ↓reduceIte, reduceCtorEq, Nat.reduceAdd, Nat.reduceSub, Nat.reduceEqDiff, Nat.reduceLeDiff, Nat.reduceBEq]; refine Ev.bind (ng) ?_; simp -implicitDefEqProofs (disch := omega) only [go_sem, ↓reduceIte, reduceCtorEq, Nat.reduceAdd, Nat.reduceSub, Nat.reduceEqDiff, Nat.reduceLeDiff, Nat.reduceBEq]; refine Ev.bind (u2) ?_; simp -implicitDefEqProofs (disch := omega) only [go_sem, ↓reduceIte, reduceCtorEq, Nat.reduceAdd, Nat.reduceSub, Nat.reduceEqDiff, Nat.reduceLeDiff, Nat.reduceBEq]; refine Ev.bind (c0) ?_; simp -implicitDefEqProofs (disch := omega) only [go_sem, ↓reduceIte, reduceCtorEq, Nat.reduceAdd, Nat.reduceSub, Nat.reduceEqDiff, Nat.reduceLeDiff, Nat.reduceBEq]; refine Ev.bind (ng) ?_; simp -implicitDefEqProofs (disch := omega) only [go_sem, ↓reduceIte, reduceCtorEq, Nat.reduceAdd, Nat.reduceSub, Nat.reduceEqDiff, Nat.reduceLeDiff, Nat.reduceBEq]; refine Ev.bind (hlim) ?_; simp -implicitDefEqProofs (disch := omega) only [go_sem, ↓reduceIte, reduceCtorEq, Nat.reduceAdd, Nat.reduceSub, Nat.reduceEqDiff, Nat.reduceLeDiff, Nat.reduceBEq]; refine Ev.bind (cl) ?_; simp -implicitDefEqProofs (disch := omega) only [go_sem, ↓reduceIte, reduceCtorEq, Nat.reduceAdd, Nat.reduceSub, Nat.reduceEqDiff, Nat.reduceLeDiff, Nat.reduceBEq]; refine Ev.bind (alive4_ev) ?_; simp -implicitDefEqProofs (disch := omega) only [go_sem, ↓reduceIte, reduceCtorEq, Nat.reduceAdd, Nat.reduceSub, Nat.reduceEqDiff, Nat.reduceLeDiff, Nat.reduceBEq])
        exact Ev.ret _
      · have cl := qcmp_ev ia il
        have f3 : 0 ≤ rcmp x (1048576 + 1 / 2) := rcmp_nonneg.2 (b2 (Rat.not_lt.1 fun g => hx (rcmp_neg.2 g)))
        clear b1 b2
        generalize rcmp x (1048576 + 1 / 2) = k3 at *
        generalize rcmp x 0 = k4 at *
        generalize (1048576 + 1 / 2 : Rat) = R4 at *
        generalize -x = R6 at *
        refine Ev.call rfl tab8 ?_
        simp -implicitDefEqProofs (disch := omega) only [F8, go_sem, ↓reduceIte, reduceCtorEq, Nat.reduceAdd, Nat.reduceSub, Nat.reduceEqDiff, Nat.reduceLeDiff, Nat.reduceBEq]
        (refine Ev.bind (sh) ?_; simp -implicitDefEqProofs (disch := omega) only [go_sem, ↓reduceIte, reduceCtorEq, Nat.reduceAdd, Nat.reduceSub, Nat.reduceEqDiff, Nat.reduceLeDiff, Nat.reduceBEq]; refine Ev.bind (u1) ?_; simp -implicitDefEqProofs (disch := omega) only [go_sem, ↓reduceIte, reduceCtorEq, Nat.reduceAdd, Nat.reduceSub, Nat.reduceEqDiff, Nat.reduceLeDiff, Nat.reduceBEq]; refine Ev.bind (ng) ?_; simp -implicitDefEqProofs (disch := omega) only [go_sem, ↓reduceIte, reduceCtorEq, Nat.reduceAdd, Nat.reduceSub, Nat.reduceEqDiff, Nat.reduceLeDiff, Nat.reduceBEq]; refine Ev.bind (u2) ?_; simp -implicitDefEqProofs (disch := omega) only [go_sem, ↓reduceIte, reduceCtorEq, Nat.reduceAdd, Nat.reduceSub, Nat.reduceEqDiff, Nat.reduceLeDiff, Nat.reduceBEq]; refine Ev.bind (c0) ?_; simp -implicitDefEqProofs (disch := omega) only [go_sem, ↓reduceIte, reduceCtorEq, Nat.reduceAdd, Nat.reduceSub, Nat.reduceEqDiff, Nat.reduceLeDiff, Nat.reduceBEq]; refine Ev.bind (hlim) ?_; simp -implicitDefEqProofs (disch := omega) only [go_sem, ↓reduceIte, reduceCtorEq, Nat.reduceAdd, Nat.reduceSub, Nat.reduceEqDiff, Nat.reduceLeDiff, Nat.reduceBEq]; refine Ev.bind (cl) ?_; simp -implicitDefEqProofs (disch := omega) only [go_sem, ↓reduceIte, reduceCtorEq, Nat.reduceAdd, Nat.reduceSub, Nat.reduceEqDiff, Nat.reduceLeDiff, Nat.reduceBEq]; refine Ev.bind (alive4_ev) ?_; simp -implicitDefEqProofs (disch := omega) only [go_sem, ↓reduceIte, reduceCtorEq, Nat.reduceAdd, Nat.reduceSub, Nat.reduceEqDiff, Nat.reduceLeDiff, Nat.reduceBEq])
        exact Ev.ret _
  · have sh := light_f (b := b) hs (m := 24) rfl
    refine Ev.call rfl tab8 ?_
    simp -implicitDefEqProofs (disch := omega) only [F8, go_sem, ↓reduceIte, reduceCtorEq, Nat.reduceAdd, Nat.reduceSub, Nat.reduceEqDiff, Nat.reduceLeDiff, Nat.reduceBEq]
    (refine Ev.bind (sh) ?_; simp -implicitDefEqProofs (disch := omega) only [go_sem, ↓reduceIte, reduceCtorEq, Nat.reduceAdd, Nat.reduceSub, Nat.reduceEqDiff, Nat.reduceLeDiff, Nat.reduceBEq]; refine Ev.bind (alive4_ev) ?_; simp -implicitDefEqProofs (disch := omega) only [go_sem, ↓reduceIte, reduceCtorEq, Nat.reduceAdd, Nat.reduceSub, Nat.reduceEqDiff, Nat.reduceLeDiff, Nat.reduceBEq])
    exact Ev.ret _
end Go.Proofs.Ytnmehcoigcjmlaa.V
namespace Go.Proofs.Ytnmehcoigcjmlaa.measureRounds
open Go.ChangeShapes Go.WideShapes Go.ChangeAt Go.RowKit
set_option linter.unusedVariables false
theorem own : ownKnob Try.prog.godebug = none := by kernel_rfl
theorem laidOut : laidOutB Try.prog = true := by kernel_rfl
set_option maxRecDepth 100000 in
theorem lifted (os : Os) (started : os.Started) (H : Type) (enc : TypeId × Value → H) :
  ReturnsInHanded {} Try.checked os 8 .any (Rows.measureRoundsSpec.pre6 enc Try.prog Try.f8 Rows.measureRoundsRow.domain false) (Rows.measureRoundsSpec.post enc Try.prog Try.f8 false true false false) := by
 refine returnsInHanded_of_change (C := Try.checked) own started (by kernel_rfl) Try.func8
  (ChangeSpec.witness6 (enc := enc) (C := Try.checked) false ⟨#[], #[.agg #[.bool false, .slice none 0 0, .slice none 0 0]], []⟩ 8 (by kernel_rfl) (by kernel_rfl) (by kernel_rfl) (by kernel_rfl)) ?_
 intro W base args ds gs before hval0 hW hcnd _
 have hval : ∀ (j : Nat) t v, Try.f8.params[j]? = some t → args[j]? = some v → Value.okWide Try.prog W .any base t v := hval0
 have hW' := hW
 obtain ⟨p, q, hA0, hV, rfl, hfz, hnd⟩ := hW
 have hA : DataW.TrodAll enc Try.prog W 0 (fun _ => true) true Try.f8.params.toList args.toList ds p := hA0
 rw [Try.params8] at hA hval
 have call := V.law_sound V.mixed V.tab_ok V.ext_ok (L := [27, 25, 4, 23, 45]) (f := 8) (by kernel_rfl) (by decide) (ts := [27]) (by kernel_rfl) V.pureMeasureRounds (fun j t v h1 h2 => hval j t v (by simpa using h1) h2) hA
 obtain ⟨v0, vs0, d0, ds0, p0, q0, hargs, rfl, rfl, h0, r0⟩ := trodAll_cons hA
 obtain ⟨rfl, rfl, rfl⟩ := trodAll_nil r0
 have lt0 : ∀ x ∈ p0, x.block < W.heap.size := by
  obtain ⟨m, hm⟩ := h0
  exact DataW.trod_lt m _ _ _ hm
 obtain ⟨rfl, rfl⟩ := trodVars_none hV
 refine call.mono fun e W' ⟨he, bel⟩ => ?_
 subst he
 exact ⟨_, rfl, _, _, _, [], _, [], hW', trodAll_mk1 (shut_bool Try.underlying4 _), by rw [hargs]; exact (trodAll_cons_mk (Below.trod laidOut (by kernel_rfl) (of_decide_eq_true (by kernel_rfl)) h0 bel lt0) trodAll_mk0), rfl, bel.frame _, fun h => by cases h⟩
theorem over : Rows.measureRoundsRow.holds Try.pinned (OpenSpec.ofChange Rows.measureRoundsSpec) :=
 OpenClaim.holds_of_wide 8 Try.f8 rfl rfl rfl rfl rfl rfl rfl ⟨rfl, rfl, rfl, rfl, rfl⟩ rfl rfl rfl rfl rfl (by kernel_rfl) Try.func8 (by kernel_rfl)
  (of_decide_eq_true (by kernel_rfl)) (by unfold Func.isWrapper; first | (rw [if_pos (by decide +kernel)]; kernel_rfl) | (rw [if_neg (by decide +kernel)]; exact ⟨rfl, rfl⟩))
  (fun os started H enc _ => lifted os started H enc)
theorem proved : Rows.MeasureRoundsSaid := over
#print axioms proved
end Go.Proofs.Ytnmehcoigcjmlaa.measureRounds
namespace Go.Proofs.Ytnmehcoigcjmlaa
/-- The row, under a short name, for the claim. -/
theorem measureRounds_holds : Rows.MeasureRoundsSaid := measureRounds.proved
end Go.Proofs.Ytnmehcoigcjmlaa
